import PyProof.Rows.All
import Wide.All
import OpenK.AllK
import Wide.FinOn
import HandS.ForMost
import HandS.TupAny
import HandS.TupMul
import HandS.IsInst
import HandS.Defaults
import HandS.Evl
import KE.KTupSum
import KE.KStateDown
import HandS.Head0
import HandS.Head1
import HandS.Head2
import HandS.HeadEnd
import HandS.HeadHook1
import HandS.HeadHook2
import PySem.Challenge.RW_beatwatch_k03_watchers
set_option Elab.async false
set_option linter.all false
set_option maxRecDepth 100000
set_option maxHeartbeats 4000000
namespace Bw
open PySem PySem.Spec PyProof.Rows L2
/-! ### own rules -/
section
variable {X : Cx}
/-- sum of a tuple of ints -/
def rSumT (K : PySem.W.Frag) : List V → Hp → VK → Prop := fun vs H Q => ∃ (a : Addr) (ns : List Int), vs = [V.ref a] ∧ SqT K H a (ns.map V.int) ∧ Q (.int ns.sum) H
theorem cr_sumT (hc : X.calm = true) : CallR X (.builtin "sum") (rSumT X.K) := by
  intro pins s σ H vs us Q I r h
  obtain ⟨a, ns, rfl, hs, q⟩ := h
  obtain ⟨its, rv, hl, _⟩ := I.tuple hs
  rw [Vals.ref1 r]
  have hi := rv.ints
  obtain ⟨xs, e⟩ := hi.allInts.items
  have hn : numsOf (intItems xs).toList = ns := by rw [← e]; exact hi.numsOf
  rw [nums_intItems] at hn
  rw [e] at hl
  refine PySem.W.ktm_sumG (I.ok.hd hc) hl fun h' tk t' hk => ?_
  have z : EP X pins σ Q (.int ns.sum t') { s with heap := h', toks := tk } := ⟨.int _, H, I.kept hk, ⟨_, rfl⟩, q⟩
  rw [preSum_eq, List.take_of_length_le (by simp), hn]
  exact z
end
section
variable {X : Cx}
theorem pe_gI {x : Str} {i : Int} {t : Tok} {pos : Pos} (hg : Gl X x) (hm : X.mg x = some (.int i t)) (hd : (x == ("__debug__" : Str)) = false := by decide) : PE X (.Name x pos) (tC (.int i)) := pe_glob (v := .int i) hg hm ⟨_, rfl⟩ hd
theorem pe_gS {x : Str} {i : Str} {t : Tok} {pos : Pos} (hg : Gl X x) (hm : X.mg x = some (.str i t)) (hd : (x == ("__debug__" : Str)) = false := by decide) : PE X (.Name x pos) (tC (.str i)) := pe_glob (v := .str i) hg hm ⟨_, rfl⟩ hd
theorem pe_gR {x : Str} {a : Addr} {pos : Pos} (hg : Gl X x) (hm : X.mg x = some (.ref a)) (hd : (x == ("__debug__" : Str)) = false := by decide) : PE X (.Name x pos) (tC (.ref a)) := pe_glob (v := .ref a) hg hm rfl hd
end
/-! ### tests -/
theorem iteD {c A B : Prop} [Decidable c] (h1 : c → A) (h2 : ¬ c → B) : if decide c = true then A else B := by
  by_cases h : c
  · rw [decide_eq_true h]
    exact iteT (h1 h)
  · rw [decide_eq_false h]
    exact iteF (h2 h)
theorem iteN {c A B : Prop} [Decidable c] (h1 : ¬ c → A) (h2 : c → B) : if (!decide c) = true then A else B := by
  by_cases h : c
  · rw [decide_eq_true h]
    exact iteF (h2 h)
  · rw [decide_eq_false h]
    exact iteT (h1 h)
theorem iteB {c : Bool} {A B : Prop} (h1 : c = true → A) (h2 : c = false → B) : if c = true then A else B := by
  cases c with
  | true => exact iteT (h1 rfl)
  | false => exact iteF (h2 rfl)
theorem nat_at {i n : Nat} (h : i < n) (hn : n ≤ sizeLine) : seqIndex? (i : Int) n = some i := by
  have h1 : ixN n (i : Int) = some i := by
    unfold ixN
    rw [if_pos (by omega), if_pos (by omega)]
    rfl
  exact (ixN_seq h1).1
theorem ixN_nat {i n : Nat} (h : i < n) : ixN n (i : Int) = some i := by
  unfold ixN
  rw [if_pos (by omega), if_pos (by omega)]
  rfl
/-! ### a def by its name -/
structure Has (P : Program) (w : World) (K : PySem.W.Frag) (mg : Str → Option Value) (base : Heap) (k : Nat) (x : Str) (ps : List Str) (sp : Sp) : Prop where
  ex : ∃ f fd, mg x = some (.ref f) ∧ PySem.W.keepIn K (.ref f) = true ∧ Binds K fd ps [] ∧ FnOk P w K mg base CX0 k f fd ps sp
theorem pe_fn {X : Cx} {j k : Nat} {x : Str} {ps : List Str} {sp : Sp} {e : Expr} {es : List Expr} {t : TA} {p pos : Pos} (h : Has X.prog X.w X.K X.mg X.base j x ps sp) (hr : Room k X.A) (hg : Gl X x) (ha : PA X (e :: es) t)
    (hjk : j ≤ k := by decide) (hdb : (x == ("__debug__" : Str)) = false := by decide) (he : starEach (e :: es) X.env = (false, eval e X.env) :: starEach es X.env := by rfl) (hpl : (backTo pos (starEach es X.env)).any (·.1) = false := by rfl) :
    PE X (.Call (.Name x p) (e :: es) [] pos) (tCall sp [] E0 t) := by
  obtain ⟨f, fd, hm, hk, hb, F⟩ := h.ex
  exact pe_call F (hr.mono hjk) hg hm hk hb .nil pass0 ha hdb he hpl
/-- a method of a class by its name -/
structure HasM (P : Program) (w : World) (K : PySem.W.Frag) (mg : Str → Option Value) (base : Heap) (k : Nat) (C : Addr) (m : Str) (ps : List Str) (sp : Sp) : Prop where
  ex : ∃ f fd, Cls K C ∧ Meth K C m f ∧ Binds K fd ps [] ∧ FnOk P w K mg base CX0 k f fd ps sp
theorem pe_mth {X : Cx} {j k : Nat} {C : Addr} {m : Str} {ps : List Str} {sp : Sp} {o e : Expr} {es : List Expr} {ta : TE} {t : TA} {apos pos : Pos} {pl : Sem Bool} (h : HasM X.prog X.w X.K X.mg X.base j C m ps sp) (ho : PE X o ta) (hr : Room k X.A) (ha : PA X (e :: es) t)
    (hjk : j ≤ k := by decide) (hst : starEach (e :: es) X.env = (false, eval e X.env) :: starEach es X.env := by rfl) (hpl : (backTo pos (starEach es X.env)).any (·.1) = false := by rfl)
    (ht : eval (.Call (.Attribute o m apos) (e :: es) [] pos) X.env = (do
      let ov ← eval o X.env
      standAt apos.atName
      let (f, first) ← holding [ov] (getMethod ov m pl)
      callWith pos f first (backTo pos (starEach (e :: es) X.env)) (backToKw pos (keywordEach [] X.env))) := by rfl) :
    PE X (.Call (.Attribute o m apos) (e :: es) [] pos) (tMeth C m sp [] E0 ta t) := by
  obtain ⟨f, fd, hc, hm, hb, F⟩ := h.ex
  exact pe_meth ho hc hm F (hr.mono hjk) hb .nil pass0 ha hst hpl ht
/-- a class that is made by its __init__ -/
structure HasC (P : Program) (w : World) (K : PySem.W.Frag) (mg : Str → Option Value) (base : Heap) (k : Nat) (x : Str) (C : Addr) (ps : List Str) (sp : Sp) : Prop where
  ex : ∃ f fd, Mk K C f ∧ mg x = some (.ref C) ∧ Binds K fd ps [] ∧ FnOk P w K mg base CX0 k f fd ps sp
theorem pe_new {X : Cx} {j k : Nat} {x : Str} {C : Addr} {ps : List Str} {sp : Sp} {e : Expr} {es : List Expr} {t : TA} {p pos : Pos} (h : HasC X.prog X.w X.K X.mg X.base j x C ps sp) (hr : Room k X.A) (hg : Gl X x) (ha : PA X (e :: es) t)
    (hjk : j + 1 ≤ k := by decide) (hdb : (x == ("__debug__" : Str)) = false := by decide) (he : starEach (e :: es) X.env = (false, eval e X.env) :: starEach es X.env := by rfl) (hpl : (backTo pos (starEach es X.env)).any (·.1) = false := by rfl) :
    PE X (.Call (.Name x p) (e :: es) [] pos) (tMake C sp [] E0 t) := by
  obtain ⟨f, fd, M, hm, hb, F⟩ := h.ex
  exact pe_make M F (hr.mono hjk) hg hm hb .nil pass0 ha hdb he hpl
/-- a def of the text -/
abbrev FnP (K : PySem.W.Frag) (x : Str) (st : Stmt) (f : Addr) (fd : FuncData) : Prop := FunD K x x (defArgs st) (defBody st) (defScope st) [] [] f fd
abbrev FnQ (K : PySem.W.Frag) (x q : Str) (st : Stmt) (f : Addr) (fd : FuncData) : Prop := FunD K x q (defArgs st) (defBody st) (defScope st) [] [] f fd
end Bw
set_option Elab.async false
set_option linter.all false
set_option maxRecDepth 100000
set_option maxHeartbeats 4000000
namespace Bw
open PySem PySem.Spec PyProof.Rows L2
/-! ### heaps -/
theorem _root_.L2.Same.tupB {K : PySem.W.Frag} {H H' : Hp} {a : Addr} {xs : List V} (e : Same H H') (h : SqT K H a xs) : SqT K H' a xs := by
  rcases h with (h | ⟨o, h⟩) | h
  · exact .inl (.inl (e _ _ h))
  · exact .inl (.inr ⟨o, e _ _ h⟩)
  · exact .inr h
theorem _root_.L2.Same.newB {H : Hp} {p : Addr} {o : HO} (h : H p = none) : Same H (upd H p o) := fun a u e => by
  rw [upd_ne (ne_of_none e h)]
  exact e
theorem _root_.L2.Same.moreB {H H' : Hp} {p : Addr} {o : HO} (e : Same H H') (h : H' p = none) : Same H (upd H' p o) := e.trans (Same.newB h)
/-- an object that H doesn't know may change -/
theorem _root_.L2.Same.mutB {H H' : Hp} {p : Addr} {o : HO} (e : Same H H') (h : H p = none) : Same H (upd H' p o) := fun a u ha => by
  rw [upd_ne (ne_of_none ha h)]
  exact e a u ha
/-! ### the draws -/
def DiceL (xs : List V) : Prop := ∃ (a b : Int) (r : List Int), xs = V.int a :: V.int b :: r.map V.int
def DiceAt (H : Hp) (d : Addr) : Prop := ∃ xs, H d = some (.lst xs) ∧ DiceL xs
/-- from H to H' all is kept but the draws at d -/
structure Dr (d : Addr) (H H' : Hp) : Prop where
  dice : DiceAt H' d
  keep : ∀ b o, b ≠ d → H b = some o → H' b = some o
section
variable {d : Addr} {H H1 H2 : Hp}
theorem Dr.refl (h : DiceAt H d) : Dr d H H := ⟨h, fun _ _ _ e => e⟩
theorem Dr.trans (a : Dr d H H1) (b : Dr d H1 H2) : Dr d H H2 := ⟨b.dice, fun c o n e => b.keep c o n (a.keep c o n e)⟩
theorem DiceAt.ne {p : Addr} (h : DiceAt H d) (e : H p = none) : p ≠ d := by
  rintro rfl
  obtain ⟨xs, h1, _⟩ := h
  rw [h1] at e
  cases e
theorem DiceAt.same (h : DiceAt H d) (s : Same H H1) : DiceAt H1 d := let ⟨xs, h1, h2⟩ := h; ⟨xs, s _ _ h1, h2⟩
theorem Dr.same (a : Dr d H H1) (s : Same H1 H2) : Dr d H H2 := ⟨a.dice.same s, fun c o n e => s c o (a.keep c o n e)⟩
theorem Dr.ofSame (a : DiceAt H d) (s : Same H H1) : Dr d H H1 := (Dr.refl a).same s
theorem Dr.new {p : Addr} {o : HO} (a : Dr d H H1) (e : H1 p = none) : Dr d H (upd H1 p o) := a.same (Same.newB e)
theorem Dr.free {p : Addr} (a : Dr d H H1) (e : H1 p = none) : H p = none := by
  cases h : H p with
  | none => rfl
  | some o => rw [a.keep p o (a.dice.ne e) h] at e; cases e
theorem Dr.tup {K : PySem.W.Frag} {p : Addr} {xs : List V} (a : Dr d H H1) (hd : DiceAt H d) (h : SqT K H p xs) : SqT K H1 p xs := by
  obtain ⟨ys, h1, _⟩ := hd
  rcases h with (h | ⟨o, h⟩) | h
  · exact .inl (.inl (a.keep _ _ (ne_of h h1 (by intro z; cases z)) h))
  · exact .inl (.inr ⟨o, a.keep _ _ (ne_of h h1 (by intro z; cases z)) h⟩)
  · exact .inr h
theorem Dr.set {xs ys : List V} (h : H d = some (.lst xs)) (hy : DiceL ys) : Dr d H (upd H d (.lst ys)) := ⟨⟨ys, upd_same, hy⟩, fun b o n e => by rw [upd_ne n]; exact e⟩
end
def spDice (K : PySem.W.Frag) : Sp := fun vs H Q _ => ∃ (a : Addr) (k : Int) (ns : List Int), vs = [.ref a, .int k] ∧ SqL K H a (ns.map V.int) ∧ ns.length ≤ 63 ∧
  ∀ p H', Same H H' → H p = none → DiceAt H' p → Q (.ref p) H'
def spOff : Sp := fun vs H Q _ => ∃ (d : Addr) (m : Int), vs = [.ref d, .int m] ∧ DiceAt H d ∧ 0 < m ∧ m < 1073741824 ∧ ∀ (r : Int) (H' : Hp), 0 ≤ r → r < m → Dr d H H' → Q (.int r) H'
/-! ### rules -/
inductive Rule where
  | since (n : Nat)
  | few (w m : Nat)
def Rule.ok : Rule → Prop
  | .since n => 1 ≤ n ∧ n ≤ 12
  | .few w m => 1 ≤ w ∧ w ≤ 5 ∧ 1 ≤ m ∧ m ≤ 3
def Rule.vs : Rule → List V
  | .since n => [.str "since", .int n]
  | .few w m => [.str "few", .int w, .int m]
/-- r[1] -/
def Rule.wide : Rule → Nat
  | .since n => n
  | .few w _ => w
theorem since_few : ¬ (("since" : Str) = "few") := by decide +kernel
theorem few_since : ¬ (("few" : Str) = "since") := by decide +kernel
def spRule : Sp := fun vs H Q _ => ∃ (d : Addr), vs = [.ref d] ∧ DiceAt H d ∧ ∀ (r : Rule) (p : Addr) (H' : Hp), r.ok → Dr d H H' → H p = none → H' p = some (.tup r.vs) → Q (.ref p) H'
/-! ### what a watcher keeps -/
def lastN (w : Nat) (l : List Int) : List Int := l.drop (l.length - w)
def nextS : Rule → List Int → Int → List Int
  | .since n, st, many => if many > 0 then [0] else [if st.headD 0 + 1 < (n : Int) then st.headD 0 + 1 else (n : Int)]
  | .few w _, st, many => lastN w (st ++ [many])
def firstS : Rule → List Int
  | .since _ => [0]
  | .few _ _ => []
def goneS : Rule → List Int → Bool
  | .since n, st => decide ((n : Int) ≤ st.headD 0)
  | .few w m, st => decide ((st.length : Int) = (w : Int)) && decide (st.sum < (m : Int))
def StOk : Rule → List Int → Prop
  | .since _, st => ∃ k, st = [k]
  | .few w _, st => st.length ≤ w
theorem stOk_first (r : Rule) : StOk r (firstS r) := by
  cases r with
  | since n => exact ⟨0, rfl⟩
  | few w m => exact Nat.zero_le _
theorem stOk_next (r : Rule) (st : List Int) (many : Int) : StOk r (nextS r st many) := by
  cases r with
  | since n =>
    show ∃ k, (if many > 0 then [0] else [if st.headD 0 + 1 < (n : Int) then st.headD 0 + 1 else (n : Int)]) = [k]
    by_cases h : many > 0
    · rw [if_pos h]
      exact ⟨_, rfl⟩
    · rw [if_neg h]
      exact ⟨_, rfl⟩
  | few w m =>
    show (lastN w (st ++ [many])).length ≤ w
    unfold lastN
    rw [List.length_drop]
    omega
/-- behind what was heard -/
def stOf (r : Rule) (hs : List Int) : List Int := hs.foldl (nextS r) (firstS r)
theorem stOf_snoc (r : Rule) (hs : List Int) (m : Int) : stOf r (hs ++ [m]) = nextS r (stOf r hs) m := by
  unfold stOf
  rw [List.foldl_append]
  rfl
theorem stOk_of (r : Rule) (hs : List Int) : StOk r (stOf r hs) := by
  rcases List.eq_nil_or_concat hs with rfl | ⟨l, a, rfl⟩
  · exact stOk_first r
  · rw [List.concat_eq_append, stOf_snoc]
    exact stOk_next r _ a
/-- the other one is gone by a rule, behind what was heard -/
def goneH : Rule → List Int → Bool
  | .since n, hs => decide (n ≤ hs.length) && decide ((lastN n hs).filter (fun m => decide (0 < m)) = [])
  | .few w m, hs => decide (w ≤ hs.length) && decide ((lastN w hs).sum < (m : Int))
theorem snoc_ind {α : Type} {P : List α → Prop} (h0 : P []) (hs : ∀ l a, P l → P (l ++ [a])) (l : List α) : P l := by
  have key : ∀ n (l : List α), l.length = n → P l := by
    intro n
    induction n with
    | zero => intro l e; rw [List.length_eq_zero_iff.mp e]; exact h0
    | succ n ih =>
      intro l e
      rcases List.eq_nil_or_concat l with rfl | ⟨l', a, rfl⟩
      · exact h0
      · rw [List.concat_eq_append] at e ⊢
        rw [List.length_append] at e
        exact hs l' a (ih l' (by simpa using e))
  exact key _ l rfl
/-- how many moments at the end were silent -/
def quiet : List Int → Nat := fun l => (l.reverse.takeWhile fun m => decide (m ≤ 0)).length
theorem quiet_nil : quiet [] = 0 := rfl
theorem quiet_snoc (l : List Int) (m : Int) : quiet (l ++ [m]) = if m > 0 then 0 else quiet l + 1 := by
  unfold quiet
  rw [List.reverse_append]
  show (List.takeWhile _ (m :: l.reverse)).length = _
  rw [List.takeWhile_cons]
  by_cases h : m > 0
  · rw [if_pos h, if_neg (by simp; omega)]
    rfl
  · rw [if_neg h, if_pos (by simp; omega)]
    rfl
theorem since_is (n : Nat) (hs : List Int) : stOf (.since n) hs = [((min n (quiet hs) : Nat) : Int)] := by
  refine snoc_ind (P := fun hs => stOf (.since n) hs = [((min n (quiet hs) : Nat) : Int)]) ?_ ?_ hs
  · show [(0 : Int)] = _
    rw [quiet_nil, Nat.min_zero]
    rfl
  · intro l a ih
    rw [stOf_snoc, ih, quiet_snoc]
    show (if a > 0 then [0] else [if (((min n (quiet l) : Nat) : Int)) + 1 < (n : Int) then (((min n (quiet l) : Nat) : Int)) + 1 else (n : Int)]) = _
    by_cases h : a > 0
    · rw [if_pos h, if_pos h, Nat.min_zero]
      rfl
    · rw [if_neg h, if_neg h]
      congr 1
      split <;> omega
theorem lastN_len (w : Nat) (l : List Int) : (lastN w l).length = min w l.length := by
  unfold lastN
  rw [List.length_drop]
  omega
theorem lastN_snoc (w : Nat) (l : List Int) (a : Int) (hw : 1 ≤ w) : lastN w (lastN w l ++ [a]) = lastN w (l ++ [a]) := by
  unfold lastN
  rw [List.length_append, List.length_append, List.length_drop, List.drop_append, List.drop_append, List.drop_drop, List.length_drop]
  simp only [List.length_singleton]
  congr 1
  · congr 1
    omega
  · congr 1
    omega
theorem few_is (w m : Nat) (hw : 1 ≤ w) (hs : List Int) : stOf (.few w m) hs = lastN w hs := by
  refine snoc_ind (P := fun hs => stOf (.few w m) hs = lastN w hs) ?_ ?_ hs
  · show ([] : List Int) = lastN w []
    unfold lastN
    rw [List.drop_nil]
  · intro l a ih
    rw [stOf_snoc, ih]
    exact lastN_snoc w l a hw
theorem quiet_le (l : List Int) : quiet l ≤ l.length := by
  refine snoc_ind (P := fun l => quiet l ≤ l.length) ?_ ?_ l
  · exact Nat.le_refl _
  · intro l a ih
    rw [quiet_snoc, List.length_append]
    split <;> simp <;> omega
theorem quiet_iff (n : Nat) (hs : List Int) : n ≤ quiet hs ↔ n ≤ hs.length ∧ (lastN n hs).filter (fun m => decide (0 < m)) = [] := by
  revert n
  refine snoc_ind (P := fun hs => ∀ n, n ≤ quiet hs ↔ n ≤ hs.length ∧ (lastN n hs).filter (fun m => decide (0 < m)) = []) ?_ ?_ hs
  · intro n
    rw [quiet_nil]
    constructor
    · intro h
      refine ⟨h, ?_⟩
      unfold lastN
      rw [List.drop_nil]
      rfl
    · intro h
      exact h.1
  · intro l a ih n
    rw [quiet_snoc, List.length_append, List.length_singleton]
    cases n with
    | zero =>
      constructor
      · intro _
        refine ⟨Nat.zero_le _, ?_⟩
        unfold lastN
        rw [Nat.sub_zero, List.drop_length]
        rfl
      · intro _
        exact Nat.zero_le _
    | succ n =>
      have e : n + 1 ≤ l.length + 1 → lastN (n + 1) (l ++ [a]) = lastN n l ++ [a] := by
        intro h
        unfold lastN
        rw [List.length_append, List.length_singleton, List.drop_append]
        have h1 : l.length + 1 - (n + 1) = l.length - n := by omega
        have h2 : l.length - n - l.length = 0 := by omega
        rw [h1, h2]
        rfl
      by_cases h : a > 0
      · rw [if_pos h]
        constructor
        · intro q
          omega
        · rintro ⟨h1, h2⟩
          rw [e h1, List.filter_append] at h2
          have h3 := (List.append_eq_nil_iff.mp h2).2
          rw [List.filter_cons, if_pos (by simpa using h)] at h3
          cases h3
      · rw [if_neg h]
        have hi := ih n
        constructor
        · intro q
          obtain ⟨h1, h2⟩ := hi.mp (by omega)
          refine ⟨by omega, ?_⟩
          rw [e (by omega), List.filter_append, h2, List.filter_cons, if_neg (by simpa using h)]
          rfl
        · rintro ⟨h1, h2⟩
          rw [e h1, List.filter_append] at h2
          have h3 := hi.mpr ⟨by omega, (List.append_eq_nil_iff.mp h2).1⟩
          omega
theorem gone_is (r : Rule) (hr : r.ok) (hs : List Int) : goneS r (stOf r hs) = goneH r hs := by
  cases r with
  | since n =>
    rw [since_is]
    show decide ((n : Int) ≤ ((min n (quiet hs) : Nat) : Int)) = (decide (n ≤ hs.length) && decide ((lastN n hs).filter (fun m => decide (0 < m)) = []))
    rw [← Bool.decide_and]
    refine decide_eq_decide.mpr ?_
    rw [← quiet_iff]
    omega
  | few w m =>
    rw [few_is w m hr.1]
    show (decide (((lastN w hs).length : Int) = (w : Int)) && decide ((lastN w hs).sum < (m : Int))) = (decide (w ≤ hs.length) && decide ((lastN w hs).sum < (m : Int)))
    congr 1
    refine decide_eq_decide.mpr ?_
    rw [lastN_len]
    omega
/-! ### alike -/
inductive Dn : Nat → PyData → Prop where
  | non (n : Nat) : Dn n .none
  | bool (n : Nat) (b : Bool) : Dn n (.bool b)
  | int (n : Nat) (i : Int) : Dn n (.int i)
  | str (n : Nat) (x : Str) : Dn n (.str x)
  | list (n : Nat) (ds : List PyData) (hl : ds.length ≤ 1000) (h : ∀ d ∈ ds, Dn n d) : Dn (n + 1) (.list ds)
  | tuple (n : Nat) (ds : List PyData) (hl : ds.length ≤ 1000) (h : ∀ d ∈ ds, Dn n d) : Dn (n + 1) (.tuple ds)
def spAlike (K : PySem.W.Frag) (n : Nat) : Sp := fun vs H Q _ => ∃ (x y : V) (D : PyData), vs = [x, y] ∧ Dp K H x D ∧ Dp K H y D ∧ Dn n D ∧ ∀ H', Same H H' → Q (.bl true) H'
def spAlikeN (K : PySem.W.Frag) : Nat → Sp
  | 0 => fun _ _ _ _ => False
  | n + 1 => spAlike K n
theorem Dp.same {K : PySem.W.Frag} {H H' : Hp} (s : Same H H') : ∀ (d : PyData) (v : V), Dp K H v d → Dp K H' v d := by
  intro d v h
  refine Dp.rec (K := K) (H := H) (motive_1 := fun v d _ => Dp K H' v d) (motive_2 := fun vs ds _ => DpAll K H' vs ds) ?_ ?_ ?_ ?_ ?_ ?_ ?_ ?_ h
  · exact .non
  · exact fun b => .bl b
  · exact fun b => .int b
  · exact fun b => .str b
  · exact fun h1 _ h2 => .lst (s.seq h1) h2
  · exact fun h1 _ h2 => .tup (s.tupB h1) h2
  · exact .nil
  · exact fun _ _ h1 h2 => .cons h1 h2
theorem DpAll.len {K : PySem.W.Frag} {H : Hp} : ∀ {vs : List V} {ds : List PyData}, DpAll K H vs ds → vs.length = ds.length
  | _, _, .nil => rfl
  | _, _, .cons _ h => congrArg Nat.succ (DpAll.len h)
theorem DpAll.get {K : PySem.W.Frag} {H : Hp} : ∀ {vs : List V} {ds : List PyData} {i : Nat}, DpAll K H vs ds → i < ds.length → ∃ v d, vs[i]? = some v ∧ ds[i]? = some d ∧ Dp K H v d
  | _, _, _, .nil, h => absurd h (Nat.not_lt_zero _)
  | _, _, 0, .cons h _, _ => ⟨_, _, rfl, rfl, h⟩
  | _, _, i + 1, .cons _ h, hi => DpAll.get (i := i) h (Nat.lt_of_succ_lt_succ hi)
theorem tyx_list {K : PySem.W.Frag} {H : Hp} {a : Addr} {xs : List V} (h : SqL K H a xs) : TyX K H (.ref a) (.type "list") := by
  rcases h with (h | ⟨o, h⟩) | ⟨o, its, n, h, c, _⟩
  · exact .base (.lst h)
  · exact .base (.frz h)
  · exact .kList h c
theorem tyx_tup {K : PySem.W.Frag} {H : Hp} {a : Addr} {xs : List V} (h : SqT K H a xs) : TyX K H (.ref a) (.type "tuple") := by
  rcases h with (h | ⟨o, h⟩) | ⟨o, its, n, h, c, _⟩
  · exact .base (.tup h)
  · exact .fTuple h
  · exact .kTuple h c
theorem rd_isi {K : PySem.W.Frag} {H : Hp} {x : V} {a b : String} {r : Bool} {Q : VK} (ty : TyX K H x (.type a)) (h : kitB a b = some r) (q : Q (.bl r) H) : rIsi K [x, .ty b] H Q := ⟨x, .ty b, _, _, r, rfl, .ty b, ty, kit_ty h, q⟩
theorem qd {c : Prop} [Decidable c] {Q : VK} {H : Hp} (hc : c) (q : Q (.bl true) H) : Q (.bl (decide c)) H := by
  rw [decide_eq_true hc]
  exact q
theorem qb {a b : Bool} {Q : VK} {H : Hp} (e : a = b) (q : Q (.bl a) H) : Q (.bl b) H := by
  rw [← e]
  exact q
theorem int_at {ns : List Int} {i : Nat} {y : V} (h : (ns.map V.int)[i]? = some y) : ∃ z, ns[i]? = some z ∧ y = V.int z := by
  rw [List.getElem?_map] at h
  cases e : ns[i]? with
  | none => rw [e] at h; cases h
  | some z => rw [e] at h; exact ⟨z, rfl, (Option.some.inj h).symm⟩
theorem szle {n : Nat} (h : n ≤ 100000) : n ≤ sizeLine := Nat.le_trans h (by decide)
theorem szlt {n : Nat} (h : n < 100000) : n < sizeLine := Nat.lt_of_lt_of_le h (by decide)
theorem fnOk_false {P : Program} {w : World} {K : PySem.W.Frag} {mg : Str → Option Value} {base : Heap} {CX : CXT} {k : Nat} {f : Addr} {fd : FuncData} {ps : List Str} : FnOk P w K mg base CX k f fd ps (fun _ _ _ _ => False) :=
  ⟨fun _ _ _ _ h => h.elim, fun _ _ _ _ _ _ _ _ _ _ _ _ _ h => h.elim⟩
/-! ### what is a rule -/
def isRuleB (x : Str) : List Int → Bool
  | [n] => decide (x = "since") && (decide (1 ≤ n) && decide (n ≤ 12))
  | [a, b] => decide (x = "few") && ((decide (1 ≤ a) && decide (a ≤ 5)) && (decide (1 ≤ b) && decide (b ≤ 3)))
  | _ => false
def spIsRule (K : PySem.W.Frag) : Sp := fun vs H Q _ => ∃ (q : Addr) (x : Str) (ns : List Int), vs = [.ref q] ∧ SqT K H q (.str x :: ns.map V.int) ∧ ((∃ a, ns = [a]) ∨ ∃ a b, ns = [a, b]) ∧ Q (.bl (isRuleB x ns)) H
theorem Rule.raw (r : Rule) (h : r.ok) : ∃ (x : Str) (ns : List Int), r.vs = .str x :: ns.map V.int ∧ ((∃ a, ns = [a]) ∨ ∃ a b, ns = [a, b]) ∧ isRuleB x ns = true := by
  cases r with
  | since n =>
    refine ⟨"since", [(n : Int)], rfl, .inl ⟨_, rfl⟩, ?_⟩
    have h1 : 1 ≤ n ∧ n ≤ 12 := h
    simp only [isRuleB, decide_true, Bool.true_and, Bool.and_eq_true, decide_eq_true_eq]
    omega
  | few a b =>
    refine ⟨"few", [(a : Int), (b : Int)], rfl, .inr ⟨_, _, rfl⟩, ?_⟩
    have h1 : 1 ≤ a ∧ a ≤ 5 ∧ 1 ≤ b ∧ b ≤ 3 := h
    simp only [isRuleB, decide_true, Bool.true_and, Bool.and_eq_true, decide_eq_true_eq]
    omega
def spNeedRule (K : PySem.W.Frag) : Sp := fun vs H Q _ => ∃ (q : Addr) (r : Rule), vs = [.ref q] ∧ SqT K H q r.vs ∧ r.ok ∧ Q .non H
def spNext (K : PySem.W.Frag) : Sp := fun vs H Q _ => ∃ (q t : Addr) (m : Int) (r : Rule) (st : List Int), vs = [.ref q, .ref t, .int m] ∧ SqT K H q r.vs ∧ r.ok ∧ SqT K H t (st.map V.int) ∧ StOk r st ∧
  ∀ p H', Same H H' → SqT K H' p ((nextS r st m).map V.int) → Q (.ref p) H'
def spFirst (K : PySem.W.Frag) : Sp := fun vs H Q _ => ∃ (q : Addr) (r : Rule), vs = [.ref q] ∧ SqT K H q r.vs ∧ r.ok ∧ ∀ p H', Same H H' → SqT K H' p ((firstS r).map V.int) → Q (.ref p) H'
def spGone (K : PySem.W.Frag) : Sp := fun vs H Q _ => ∃ (q t : Addr) (r : Rule) (st : List Int), vs = [.ref q, .ref t] ∧ SqT K H q r.vs ∧ r.ok ∧ SqT K H t (st.map V.int) ∧ StOk r st ∧ Q (.bl (goneS r st)) H
/-! ### a watcher -/
theorem rk : ¬ (("rule" : Str) = "kept") := by decide +kernel
def wF (q t : Addr) : List (Str × V) := [("rule", .ref q), ("kept", .ref t)]
theorem wF_rule (q t : Addr) : (wF q t).lookup ("rule" : Str) = some (.ref q) := by simp [wF, List.lookup]
theorem wF_kept (q t : Addr) : (wF q t).lookup ("kept" : Str) = some (.ref t) := by
  have h : (("kept" : Str) == "rule") = false := by decide +kernel
  simp [wF, List.lookup, h]
theorem wF_no (q t : Addr) {m : Str} (h1 : (m == ("rule" : Str)) = false) (h2 : (m == ("kept" : Str)) = false) : (wF q t).lookup m = none := by simp [wF, List.lookup, h1, h2]
theorem wF_put (q t u : Addr) : putF "kept" (.ref u) (wF q t) = wF q u := by
  show (if ("rule" : Str) = "kept" then _ else (("rule" : Str), V.ref q) :: (if ("kept" : Str) = "kept" then [(("kept" : Str), V.ref u)] else _)) = _
  rw [if_neg rk, if_pos rfl]
  rfl
theorem wF_new (q t : Addr) : putF "kept" (.ref t) (putF "rule" (.ref q) []) = wF q t := by
  show (if ("rule" : Str) = "kept" then _ else (("rule" : Str), V.ref q) :: putF "kept" (.ref t) []) = _
  rw [if_neg rk]
  rfl
structure WAt (K : PySem.W.Frag) (C : Addr) (H : Hp) (x : Addr) (r : Rule) (st : List Int) : Prop where
  ex : ∃ dx q t, H x = some (.ins C dx (wF q t)) ∧ SqT K H q r.vs ∧ SqT K H t (st.map V.int)
theorem WAt.same {K : PySem.W.Frag} {C : Addr} {H H' : Hp} {x : Addr} {r : Rule} {st : List Int} (h : WAt K C H x r st) (s : Same H H') : WAt K C H' x r st := by
  obtain ⟨dx, q, t, h1, h2, h3⟩ := h.ex
  exact ⟨dx, q, t, s _ _ h1, s.tupB h2, s.tupB h3⟩
def spWInit (K : PySem.W.Frag) (C : Addr) : Sp := fun vs H Q _ => ∃ (x q dx : Addr) (r : Rule), vs = [.ref x, .ref q] ∧ H x = some (.ins C dx []) ∧ SqT K H q r.vs ∧ r.ok ∧
  ∀ H', WAt K C H' x r (firstS r) → (∀ b o, b ≠ x → H b = some o → H' b = some o) → Q .non H'
def spHear (K : PySem.W.Frag) (C : Addr) : Sp := fun vs H Q _ => ∃ (x : Addr) (m : Int) (r : Rule) (st : List Int), vs = [.ref x, .int m] ∧ WAt K C H x r st ∧ r.ok ∧ StOk r st ∧
  ∀ H', WAt K C H' x r (nextS r st m) → (∀ b o, b ≠ x → H b = some o → H' b = some o) → Q (.bl (goneS r (nextS r st m))) H'
/-- the class Watcher as the top has made it -/
structure WTxt (K : PySem.W.Frag) (C : Addr) : Prop where
  cl : Cls K C
  nR : NoAttr K C "rule"
  nK : NoAttr K C "kept"
/-! ### the law's own look -/
def spLGone (K : PySem.W.Frag) : Sp := fun vs H Q _ => ∃ (q l : Addr) (r : Rule) (hs : List Int), vs = [.ref q, .ref l] ∧ SqT K H q r.vs ∧ r.ok ∧ SqL K H l (hs.map V.int) ∧ hs.length ≤ 1000 ∧ ∀ H', Same H H' → Q (.bl (goneH r hs)) H'
theorem sq_tup_ne {K : PySem.W.Frag} {H : Hp} {a x C dx : Addr} {xs : List V} {fs : List (Str × V)} (h : SqT K H a xs) (e : H x = some (.ins C dx fs)) {o : HO} : SqT K (upd H x o) a xs := by
  rcases h with (h | ⟨u, h⟩) | h
  · exact .inl (.inl (by rw [upd_ne (ne_of h e (by intro z; cases z))]; exact h))
  · exact .inl (.inr ⟨u, by rw [upd_ne (ne_of h e (by intro z; cases z))]; exact h⟩)
  · exact .inr h
theorem map_cut (l : List Int) (n : Nat) : ((l.map V.int).drop n).take ((l.map V.int).length - n) = (l.drop n).map V.int := by
  rw [List.take_of_length_le (by rw [List.length_drop]; omega), List.map_drop]
theorem eqv_nil (r : List Int) : PyData.eqv (.list (r.map PyData.int)) (.list []) = decide (r = []) := by
  cases r with
  | nil => rfl
  | cons a r => rfl
theorem dp_ints {K : PySem.W.Frag} {H : Hp} : ∀ ns : List Int, DpAll K H (ns.map V.int) (ns.map PyData.int)
  | [] => .nil
  | n :: ns => .cons (.int n) (dp_ints ns)
theorem Rule.at1 (r : Rule) : r.vs[1]? = some (.int (r.wide : Int)) := by cases r <;> rfl
theorem rng_ext {α : Type} {f g : Nat → α} {i : Nat} (h : ∀ j, j < i → g j = f j) : (List.range (i + 1)).map g = (List.range i).map f ++ [g i] := by
  rw [List.range_succ, List.map_append]
  congr 1
  exact List.map_congr_left fun j hj => h j (List.mem_range.mp hj)
def spLaw (K : PySem.W.Frag) : Sp := fun vs H Q _ => ∃ (a : Addr) (ns : List Int), vs = [.ref a] ∧ SqL K H a (ns.map V.int) ∧ ns.length ≤ 63 ∧ ∀ H', Q (.bl true) H'
end Bw
set_option Elab.async false
set_option linter.all false
set_option maxRecDepth 100000
set_option maxHeartbeats 4000000
namespace Bw
open PySem PySem.Spec PyProof.Rows L2
def top (i : Nat) : Stmt := PySem.Challenge.pw_beatwatch_k03_watchers.main.body.getD i (.Pass ⟨0, 0, 0, 0⟩)
abbrev s_BadRule___init__ : Stmt := inClass (top 2) 0
abbrev n_BadRule___init__ : List Str := ["self", "number"]
theorem sc_BadRule___init__ : FnScope n_BadRule___init__ ["self", "number"] (defScope s_BadRule___init__) := ⟨rfl, rfl, rfl, by decide +kernel, rfl, by decide +kernel, by decide +kernel⟩
abbrev s_is_rule : Stmt := top 7
abbrev n_is_rule : List Str := ["rule"]
theorem sc_is_rule : FnScope n_is_rule ["rule"] (defScope s_is_rule) := ⟨rfl, rfl, rfl, by decide +kernel, rfl, by decide +kernel, by decide +kernel⟩
abbrev s_need_rule : Stmt := top 8
abbrev n_need_rule : List Str := ["rule"]
theorem sc_need_rule : FnScope n_need_rule ["rule"] (defScope s_need_rule) := ⟨rfl, rfl, rfl, by decide +kernel, rfl, by decide +kernel, by decide +kernel⟩
abbrev s_next_state : Stmt := top 9
abbrev n_next_state : List Str := ["rule", "state", "many"]
theorem sc_next_state : FnScope n_next_state ["rule", "state", "many"] (defScope s_next_state) := ⟨rfl, rfl, rfl, by decide +kernel, rfl, by decide +kernel, by decide +kernel⟩
abbrev s_first_state : Stmt := top 10
abbrev n_first_state : List Str := ["rule"]
theorem sc_first_state : FnScope n_first_state ["rule"] (defScope s_first_state) := ⟨rfl, rfl, rfl, by decide +kernel, rfl, by decide +kernel, by decide +kernel⟩
abbrev s_is_gone : Stmt := top 11
abbrev n_is_gone : List Str := ["rule", "state"]
theorem sc_is_gone : FnScope n_is_gone ["rule", "state"] (defScope s_is_gone) := ⟨rfl, rfl, rfl, by decide +kernel, rfl, by decide +kernel, by decide +kernel⟩
abbrev s_Watcher___init__ : Stmt := inClass (top 12) 0
abbrev n_Watcher___init__ : List Str := ["self", "rule"]
theorem sc_Watcher___init__ : FnScope n_Watcher___init__ ["self", "rule"] (defScope s_Watcher___init__) := ⟨rfl, rfl, rfl, by decide +kernel, rfl, by decide +kernel, by decide +kernel⟩
abbrev s_Watcher_hear : Stmt := inClass (top 12) 1
abbrev n_Watcher_hear : List Str := ["self", "many"]
theorem sc_Watcher_hear : FnScope n_Watcher_hear ["self", "many"] (defScope s_Watcher_hear) := ⟨rfl, rfl, rfl, by decide +kernel, rfl, by decide +kernel, by decide +kernel⟩
abbrev s__law_dice : Stmt := top 14
abbrev n__law_dice : List Str := ["_law_script", "_law_k", "_law_found", "_law_cell"]
theorem sc__law_dice : FnScope n__law_dice ["_law_script", "_law_k"] (defScope s__law_dice) := ⟨rfl, rfl, rfl, by decide +kernel, rfl, by decide +kernel, by decide +kernel⟩
abbrev s__law_off : Stmt := top 15
abbrev n__law_off : List Str := ["_law_d", "_law_most", "_law_found"]
theorem sc__law_off : FnScope n__law_off ["_law_d", "_law_most"] (defScope s__law_off) := ⟨rfl, rfl, rfl, by decide +kernel, rfl, by decide +kernel, by decide +kernel⟩
abbrev s__law_alike : Stmt := top 16
abbrev n__law_alike : List Str := ["_law_found", "_law_due", "_law_k"]
theorem sc__law_alike : FnScope n__law_alike ["_law_found", "_law_due"] (defScope s__law_alike) := ⟨rfl, rfl, rfl, by decide +kernel, rfl, by decide +kernel, by decide +kernel⟩
abbrev s__law_rule : Stmt := top 17
abbrev n__law_rule : List Str := ["_law_d"]
theorem sc__law_rule : FnScope n__law_rule ["_law_d"] (defScope s__law_rule) := ⟨rfl, rfl, rfl, by decide +kernel, rfl, by decide +kernel, by decide +kernel⟩
abbrev s__law_gone : Stmt := top 18
abbrev n__law_gone : List Str := ["_law_rule_here", "_law_heard", "_law_row", "_law_many"]
theorem sc__law_gone : FnScope n__law_gone ["_law_rule_here", "_law_heard"] (defScope s__law_gone) := ⟨rfl, rfl, rfl, by decide +kernel, rfl, by decide +kernel, by decide +kernel⟩
abbrev s_law : Stmt := top 19
abbrev n_law : List Str := ["_law_script", "_law_d", "_law_rules", "_law_k", "_law_watchers", "_law_rule_here", "_law_heard", "_law_often", "_law_turn", "_law_many"]
theorem sc_law : FnScope n_law ["_law_script"] (defScope s_law) := ⟨rfl, rfl, rfl, by decide +kernel, rfl, by decide +kernel, by decide +kernel⟩
end Bw
set_option Elab.async false
set_option linter.all false
set_option maxRecDepth 100000
set_option maxHeartbeats 4000000
namespace Bw
open PySem PySem.Spec PyProof.Rows L2
section
variable {P : Program} {w : World} {K : PySem.W.Frag} {mg : Str → Option Value} {base : Heap} {f : Addr} {fd : FuncData}
theorem ok__law_off (F : FnP K "_law_off" s__law_off f fd) (g_len : mg "len" = none) : FnOk P w K mg base CX0 1 f fd ["_law_d", "_law_most"] spOff := by
  refine F.ok sc__law_off (fun vs H Q E h => ?_) (fun cdv A outer s H vs Q E hr h => ?_)
  · obtain ⟨d, m, rfl, _⟩ := h
    rfl
  · obtain ⟨d, m, rfl, hd, h0, h1, k⟩ := h
    refine ⟨_, PSs.nox (Evl.pss_cut (ps_if (PW.pt (pw_and (pt_cmpR op_eq (pe_ix ix_list (pv 0) pe_int (fun _ _ => rfl)) pe_int (nomark _)) (pw_and1 (pt_cmpR op_gt (pe_callB call_len_seq (by rfl) g_len (by decide +kernel) (pa_cons (pv 0) pa_nil)) pe_int (nomark _)))))
          (pss_one (ps_asg (pe_bm PySem.F.plainAttrs_list PySem.F.slot_list_pop PySem.F.type_list_pop mt_popAt (pv 0) (pa_cons pe_int pa_nil)) (pg_sub (pv 0) pe_int set_list)))
          pss_nil)
        (pss_cons (ps_if (pt_cmpR op_gt (pe_ix ix_list (pv 0) pe_int (fun _ _ => rfl)) pe_int (nomark _))
          (pss_cons (ps_set (i := 2) sc__law_off.nd rfl (Or.inl rfl) (pe_op op_mod (pe_ix ix_list (pv 0) pe_int (fun _ _ => rfl)) (pv 1)))
            (pss_cons (ps_asg (pe_op op_fdiv (pe_ix ix_list (pv 0) pe_int (fun _ _ => rfl)) (pv 1)) (pg_sub (pv 0) pe_int set_list))
            (pss_one (ps_ret (pv 2)))))
          pss_nil)
        (pss_cons (ps_asg (pe_op op_mod (pe_op op_add (pe_op op_mul (pe_ix ix_list (pv 0) pe_int (fun _ _ => rfl)) pe_int) pe_int) pe_int) (pg_sub (pv 0) pe_int set_list))
        (pss_one (ps_ret (pe_op op_mod (pe_op op_fdiv (pe_ix ix_list (pv 0) pe_int (fun _ _ => rfl)) pe_int) (pv 1))))))), ?_⟩
    refine ⟨fun σ' H' => σ' = [some (.ref d), some (.int m), none] ∧ Dr d H H', ?_, ?_⟩
    · have hD := Dr.refl hd
      obtain ⟨xs, hx, a, b, r, rfl⟩ := hd
      refine ⟨_, rfl, d, _, _, _, rfl, rfl, SqL.of hx, atI_nat (j := 1) rfl, rfl, _, rfl, ?_⟩
      refine iteD (fun hb => ?_) (fun hb => ⟨rfl, hD⟩)
      refine ⟨_, rfl, d, _, rfl, Or.inl (SqL.of hx), _, _, rfl, rfl, _, rfl, ?_⟩
      refine iteD (fun hl => ?_) (fun hl => ⟨rfl, hD⟩)
      cases r with
      | nil => exact absurd hl (by simp)
      | cons x r =>
        refine ⟨_, rfl, Or.inl ⟨rfl, _, SqL.of hx⟩, d, _, 2, 2, V.int x, rfl, rfl, hx, by decide, by decide, ?_, rfl, ?_⟩
        · exact (ixN_seq (ixN_nat (i := 2) (by simp))).1
        refine ⟨_, rfl, d, _, 1, 1, rfl, rfl, upd_same, ixN_nat (i := 1) (by simp), rfl, ?_⟩
        rw [upd_upd]
        exact Dr.set hx ⟨a, x, r, rfl⟩
    · rintro σ' H' ⟨rfl, hD⟩
      obtain ⟨xs, hx, a, b, r, rfl⟩ := hD.dice
      refine ⟨_, rfl, d, _, _, _, rfl, rfl, SqL.of hx, atI_nat (j := 1) rfl, _, _, rfl, rfl, _, rfl, ?_⟩
      refine iteD (fun hb => ?_) (fun hb => ?_)
      · refine ⟨_, rfl, d, _, _, _, rfl, rfl, SqL.of hx, atI_nat (j := 1) rfl, _, rfl, _, _, rfl, rfl, h0, ?_⟩
        refine ⟨_, rfl, d, _, _, _, rfl, rfl, SqL.of hx, atI_nat (j := 1) rfl, _, rfl, _, _, rfl, rfl, ⟨h0, h1⟩, ?_⟩
        refine ⟨_, rfl, d, _, 1, 1, rfl, rfl, hx, ixN_nat (i := 1) (by simp), ?_⟩
        refine ⟨_, rfl, k _ _ (Int.emod_nonneg _ (by omega)) (Int.emod_lt_of_pos _ h0) (hD.trans (Dr.set hx ⟨a, _, r, rfl⟩))⟩
      · refine ⟨_, rfl, d, _, _, _, rfl, rfl, SqL.of hx, atI_nat (j := 0) rfl, _, _, rfl, rfl, Or.inr ⟨by decide, by decide⟩, _, _, rfl, rfl, _, _, rfl, rfl, (by show (0 : Int) < 2147483647; decide), ?_⟩
        refine ⟨_, rfl, d, _, 0, 0, rfl, rfl, hx, ixN_nat (i := 0) (by simp), ?_⟩
        refine ⟨_, rfl, d, _, _, _, rfl, rfl, SqL.of upd_same, atI_nat (j := 0) rfl, _, _, rfl, rfl, ⟨by decide, by decide⟩, _, rfl, _, _, rfl, rfl, h0, ?_⟩
        exact k _ _ (Int.emod_nonneg _ (by omega)) (Int.emod_lt_of_pos _ h0) (hD.trans (Dr.set hx ⟨_, b, r, rfl⟩))
end
end Bw
set_option Elab.async false
set_option linter.all false
set_option maxRecDepth 100000
set_option maxHeartbeats 4000000
namespace Bw
open PySem PySem.Spec PyProof.Rows L2
section
variable {P : Program} {w : World} {K : PySem.W.Frag} {mg : Str → Option Value} {base : Heap} {f : Addr} {fd : FuncData}
theorem ok__law_dice (F : FnP K "_law_dice" s__law_dice f fd) (g_abs : mg "abs" = none) : FnOk P w K mg base CX0 1 f fd ["_law_script", "_law_k"] (spDice K) := by
  refine F.ok sc__law_dice (fun vs H Q E h => ?_) (fun cdv A outer s H vs Q E hr h => ?_)
  · obtain ⟨a, k, ns, rfl, _⟩ := h
    rfl
  · obtain ⟨a, k, ns, rfl, hS, hlen, q⟩ := h
    refine ⟨_, PSs.nox (pss_cons (ps_set (i := 2) sc__law_dice.nd rfl (Or.inl rfl) (pv 1))
        (pss_cons (ps_for PassesOwn.never rfl (pi_list (pv 0)) (pg_name (i := 3) sc__law_dice.nd rfl (Or.inl rfl))
          (pss_one (ps_set (i := 2) sc__law_dice.nd rfl (Or.inl rfl) (pe_op op_mod (pe_op op_add (pe_op op_mul (pv 2) pe_int) (pe_callB call_abs (by rfl) g_abs (by decide +kernel) (pa_cons (pv 3) pa_nil))) pe_int))))
        (pss_one (ps_ret (pe_op op_cat (pe_lst (pa_cons (pv 2) (pa_cons pe_int pa_nil))) (pe_lc (own := [("_law_cell", 3)]) (g := gName 3) rfl sc__law_dice.nd (pi_list (pv 0)) (blkOk_by (own := [("_law_cell", 3)]) (N := n__law_dice) (sc := defScope s__law_dice) (by decide +kernel)) (fun _ _ _ _ _ => (pg_name (i := 3) sc__law_dice.nd rfl (Or.inl rfl))) (fun _ _ _ _ _ => (pts_one (pt_cmpR op_ge (pv 3) (pe_op op_pow pe_int pe_int) (nomark _)))) (fun _ _ _ _ _ => (pv 3)))))))), ?_⟩
    refine ⟨_, rfl, _, rfl, a, rfl, ⟨_, hS⟩, for_list (K := K) (a := a) (xs := ns.map V.int) (fun i σ H' => H' = H ∧ ∃ (z : Int) (v : Option V), σ = [some (.ref a), some (.int k), some (.int z), v]) ⟨rfl, k, none, rfl⟩ (fun i σ H' _ ⟨e, _⟩ => e ▸ hS) ?_ ?_⟩
    · rintro i y σ H' hi ⟨rfl, z, v, rfl⟩
      obtain ⟨c, _, rfl⟩ := int_at hi
      exact ⟨_, rfl, _, _, rfl, rfl, Or.inr ⟨by decide, by decide⟩, _, rfl, _, rfl, _, _, rfl, rfl, _, _, rfl, rfl, (by show (0 : Int) < 2147483647; decide), rfl, _, _, rfl⟩
    · rintro σ H' ⟨rfl, z, v, rfl⟩
      refine ⟨_, rfl, (by show 2 ≤ sizeLine; decide), fun p hp => ?_⟩
      refine ⟨_, rfl, a, rfl, ⟨_, (Same.newB hp).seq hS⟩, fun D hD => lc_list (K := K) (a := a) (xs := ns.map V.int) (fun i H2 => ∃ r : List Int, Same (upd H' p (.lst [.int z, .int 0])) H2 ∧ H2 D = some (.lst (r.map V.int)) ∧ r.length ≤ i) ⟨[], Same.newB hD, upd_same, Nat.le_refl _⟩ (fun i H2 _ ⟨r, s2, _⟩ => ((Same.newB hp).trans s2).seq hS) ?_ ?_⟩
      · rintro i y H2 hi ⟨r, s2, e2, l2⟩
        have hil := (List.getElem?_eq_some_iff.mp hi).1
        rw [List.length_map] at hil
        obtain ⟨c, _, rfl⟩ := int_at hi
        refine ⟨rfl, _, rfl, _, _, rfl, rfl, ⟨by decide, by decide, by decide⟩, _, _, rfl, rfl, _, rfl, ?_⟩
        refine iteD (fun hc => ?_) (fun hc => ⟨r, s2, e2, by omega⟩)
        refine ⟨_, rfl, _, e2, szlt (by rw [List.length_map]; omega), r ++ [c], s2.mutB hD, ?_, by rw [List.length_append]; simp; omega⟩
        rw [upd_same, List.map_append]
        rfl
      · rintro H2 ⟨r, s2, e2, l2⟩
        rw [List.length_map] at l2
        refine ⟨p, D, _, _, rfl, rfl, s2 _ _ upd_same, e2, szle (by rw [List.length_map]; simp; omega), fun q' hq => ?_⟩
        have s3 : Same H' H2 := (Same.newB hp).trans s2
        exact q q' _ (s3.moreB hq) (s3.free hq) ⟨_, upd_same, z, 0, r, rfl⟩
end
end Bw
set_option Elab.async false
set_option linter.all false
set_option maxRecDepth 100000
set_option maxHeartbeats 4000000
namespace Bw
open PySem PySem.Spec PyProof.Rows L2
section
variable {P : Program} {w : World} {K : PySem.W.Frag} {mg : Str → Option Value} {base : Heap} {f : Addr} {fd : FuncData}
theorem ok__law_alike (F : FnP K "_law_alike" s__law_alike f fd) (bF : Binds K fd ["_law_found", "_law_due"] []) (g_f : mg "_law_alike" = some (.ref f)) (g_isinstance : mg "isinstance" = none) (g_bool : mg "bool" = none) (g_int : mg "int" = none) (g_str : mg "str" = none) (g_tuple : mg "tuple" = none) (g_list : mg "list" = none) (g_len : mg "len" = none) (g_all : mg "all" = none) (g_range : mg "range" = none) (n : Nat) :
    FnOk P w K mg base CX0 n f fd ["_law_found", "_law_due"] (spAlikeN K n) := by
  induction n with
  | zero => exact fnOk_false
  | succ n ih =>
  have h__law_alike : Has P w K mg base n "_law_alike" ["_law_found", "_law_due"] (spAlikeN K n) := ⟨f, fd, g_f, F.kp, bF, ih⟩
  refine F.ok sc__law_alike (fun vs H Q E h => ?_) (fun cdv A outer s H vs Q E hr h => ?_)
  · obtain ⟨x, y, D, rfl, _⟩ := h
    rfl
  · obtain ⟨x, y, D, rfl, hx, hy, hn, q⟩ := h
    refine ⟨_, PSs.nox (pss_cons (ps_if (pt_cmpR op_isN (pv 1) pe_non (nomark _))
          (pss_one (ps_ret (pe_cmpR op_isN (pv 0) pe_non (nomark _))))
          pss_nil)
        (pss_cons (ps_if (pt_val (pe_callB call_isi (by rfl) g_isinstance (by decide +kernel) (pa_cons (pv 1) (pa_cons (pe_bltn (v := .ty "bool") (by rfl) g_bool (by decide +kernel) rfl) pa_nil))))
          (pss_one (ps_ret (pe_and (pe_callB call_isi (by rfl) g_isinstance (by decide +kernel) (pa_cons (pv 0) (pa_cons (pe_bltn (v := .ty "bool") (by rfl) g_bool (by decide +kernel) rfl) pa_nil))) (pe_one (pe_cmpR op_eq (pv 0) (pv 1) (nomark _))))))
          pss_nil)
        (pss_cons (ps_if (pt_val (pe_callB call_isi (by rfl) g_isinstance (by decide +kernel) (pa_cons (pv 1) (pa_cons (pe_bltn (v := .ty "int") (by rfl) g_int (by decide +kernel) rfl) pa_nil))))
          (pss_one (ps_ret (pe_and (pe_callB call_isi (by rfl) g_isinstance (by decide +kernel) (pa_cons (pv 0) (pa_cons (pe_bltn (v := .ty "int") (by rfl) g_int (by decide +kernel) rfl) pa_nil))) (pe_and (pe_not (pe_callB call_isi (by rfl) g_isinstance (by decide +kernel) (pa_cons (pv 0) (pa_cons (pe_bltn (v := .ty "bool") (by rfl) g_bool (by decide +kernel) rfl) pa_nil)))) (pe_one (pe_cmpR op_eq (pv 0) (pv 1) (nomark _)))))))
          pss_nil)
        (pss_cons (ps_if (pt_val (pe_callB call_isi (by rfl) g_isinstance (by decide +kernel) (pa_cons (pv 1) (pa_cons (pe_bltn (v := .ty "str") (by rfl) g_str (by decide +kernel) rfl) pa_nil))))
          (pss_one (ps_ret (pe_and (pe_callB call_isi (by rfl) g_isinstance (by decide +kernel) (pa_cons (pv 0) (pa_cons (pe_bltn (v := .ty "str") (by rfl) g_str (by decide +kernel) rfl) pa_nil))) (pe_one (pe_cmpR op_eq (pv 0) (pv 1) (nomark _))))))
          pss_nil)
        (pss_cons (ps_if (PW.pt (pw_or (pt_cmpR op_ne (pe_callB call_isi (by rfl) g_isinstance (by decide +kernel) (pa_cons (pv 1) (pa_cons (pe_bltn (v := .ty "tuple") (by rfl) g_tuple (by decide +kernel) rfl) pa_nil))) (pe_callB call_isi (by rfl) g_isinstance (by decide +kernel) (pa_cons (pv 0) (pa_cons (pe_bltn (v := .ty "tuple") (by rfl) g_tuple (by decide +kernel) rfl) pa_nil))) (nomark _)) (pw_or1 (pt_cmpR op_ne (pe_callB call_isi (by rfl) g_isinstance (by decide +kernel) (pa_cons (pv 1) (pa_cons (pe_bltn (v := .ty "list") (by rfl) g_list (by decide +kernel) rfl) pa_nil))) (pe_callB call_isi (by rfl) g_isinstance (by decide +kernel) (pa_cons (pv 0) (pa_cons (pe_bltn (v := .ty "list") (by rfl) g_list (by decide +kernel) rfl) pa_nil))) (nomark _)))))
          (pss_one (ps_ret pe_bl))
          pss_nil)
        (pss_cons (ps_if (pt_cmpR op_ne (pe_callB call_len_seq (by rfl) g_len (by decide +kernel) (pa_cons (pv 0) pa_nil)) (pe_callB call_len_seq (by rfl) g_len (by decide +kernel) (pa_cons (pv 1) pa_nil)) (nomark _))
          (pss_one (ps_ret pe_bl))
          pss_nil)
        (pss_one (ps_ret (pe_callB (cr_all rfl) (by rfl) g_all (by decide +kernel) (pa_cons (pe_lc (own := [("_law_k", 2)]) (g := gName 2) rfl sc__law_alike.nd (pi_range1 rfl g_range (pa_cons (pe_callB call_len_seq (by rfl) g_len (by decide +kernel) (pa_cons (pv 1) pa_nil)) pa_nil)) (blkOk_by (own := [("_law_k", 2)]) (N := n__law_alike) (sc := defScope s__law_alike) (by decide +kernel)) (fun _ _ _ _ _ => (pg_name (i := 2) sc__law_alike.nd rfl (Or.inl rfl))) (fun _ _ _ _ _ => pts_nil) (fun _ _ _ _ _ => (pe_fn h__law_alike hr rfl (pa_cons (pe_ix (r := rIx K) ix_seq (pv 0) (pv 2) (fun _ _ => rfl)) (pa_cons (pe_ix (r := rIx K) ix_seq (pv 1) (pv 2) (fun _ _ => rfl)) pa_nil)) (Nat.le_refl _)))) pa_nil)))))))))), ?_⟩
    refine ⟨_, rfl, rfl, _, rfl, ?_⟩
    cases hy with
    | non =>
      cases hx
      refine iteD (fun _ => ?_) (fun h => absurd rfl h)
      exact ⟨_, rfl, rfl, qd (Q := Q) rfl (q H (Same.refl H))⟩
    | bl b =>
      cases hx
      refine iteD (fun h => nomatch h) (fun _ => ?_)
      refine ⟨_, rfl, _, _, _, _, true, rfl, .ty _, (.base (.bl b)), kit_ty (by decide +kernel), _, rfl, iteT ?_⟩
      exact ⟨_, rfl, _, _, _, _, true, rfl, .ty _, (.base (.bl b)), kit_ty (by decide +kernel), _, rfl, iteT ⟨_, rfl, _, rfl, rfl, qd (Q := Q) rfl (q H (Same.refl H))⟩⟩
    | int i =>
      cases hx
      refine iteD (fun h => nomatch h) (fun _ => ?_)
      refine ⟨_, rfl, _, _, _, _, false, rfl, .ty _, (.base (.int i)), kit_ty (by decide +kernel), _, rfl, iteF ?_⟩
      refine ⟨_, rfl, _, _, _, _, true, rfl, .ty _, (.base (.int i)), kit_ty (by decide +kernel), _, rfl, iteT ?_⟩
      refine ⟨_, rfl, _, _, _, _, true, rfl, .ty _, (.base (.int i)), kit_ty (by decide +kernel), _, rfl, iteT ?_⟩
      exact ⟨_, rfl, _, _, _, _, false, rfl, .ty _, (.base (.int i)), kit_ty (by decide +kernel), _, rfl, _, rfl, iteT ⟨_, rfl, _, rfl, rfl, qd (Q := Q) rfl (q H (Same.refl H))⟩⟩
    | str i =>
      cases hx
      refine iteD (fun h => nomatch h) (fun _ => ?_)
      refine ⟨_, rfl, _, _, _, _, false, rfl, .ty _, (.base (.str i)), kit_ty (by decide +kernel), _, rfl, iteF ?_⟩
      refine ⟨_, rfl, _, _, _, _, false, rfl, .ty _, (.base (.str i)), kit_ty (by decide +kernel), _, rfl, iteF ?_⟩
      refine ⟨_, rfl, _, _, _, _, true, rfl, .ty _, (.base (.str i)), kit_ty (by decide +kernel), _, rfl, iteT ?_⟩
      exact ⟨_, rfl, _, _, _, _, true, rfl, .ty _, (.base (.str i)), kit_ty (by decide +kernel), _, rfl, iteT ⟨_, rfl, _, rfl, rfl, qd (Q := Q) rfl (q H (Same.refl H))⟩⟩
    | @lst b ys ds sy ay =>
      cases hx with
      | @lst a xs _ sx ax =>
      cases hn with
      | list m _ hl hd =>
      have tx := tyx_list sx
      have ty := tyx_list sy
      refine iteD (fun h => nomatch h) (fun _ => ?_)
      refine ⟨_, rfl, _, _, _, _, false, rfl, .ty _, ty, kit_ty (by decide +kernel), _, rfl, iteF ?_⟩
      refine ⟨_, rfl, _, _, _, _, false, rfl, .ty _, ty, kit_ty (by decide +kernel), _, rfl, iteF ?_⟩
      refine ⟨_, rfl, _, _, _, _, false, rfl, .ty _, ty, kit_ty (by decide +kernel), _, rfl, iteF ?_⟩
      refine ⟨_, rfl, _, _, _, _, false, rfl, .ty _, ty, kit_ty (by decide +kernel), _, rfl, _, _, _, _, false, rfl, .ty _, tx, kit_ty (by decide +kernel), rfl, _, rfl, iteF ?_⟩
      refine ⟨_, rfl, _, _, _, _, true, rfl, .ty _, ty, kit_ty (by decide +kernel), _, rfl, _, _, _, _, true, rfl, .ty _, tx, kit_ty (by decide +kernel), rfl, _, rfl, iteF ?_⟩
      refine ⟨_, rfl, a, _, rfl, Or.inl sx, _, rfl, b, _, rfl, Or.inl sy, rfl, _, rfl, ?_⟩
      have lx := DpAll.len ax
      have ly := DpAll.len ay
      refine iteN (fun h => absurd (by rw [lx, ly]) h) (fun _ => ?_)
      refine ⟨_, rfl, b, _, rfl, Or.inl sy, _, rfl, by omega, by rw [ly]; omega, fun L hL => lc_range (lo := 0) (n := ys.length) (fun i H' => Same H H' ∧ H' L = some (.lst ((List.replicate i true).map V.bl))) ⟨Same.newB hL, upd_same⟩ ?_ ?_⟩
      · rintro i H' hi ⟨s1, e1⟩
        obtain ⟨v, d1, hv, hd1, p1⟩ := DpAll.get (i := i) ax (by omega)
        obtain ⟨u, d2, hu, hd2, p2⟩ := DpAll.get (i := i) ay (by omega)
        obtain rfl : d1 = d2 := Option.some.inj (hd1.symm.trans hd2)
        have e0 : (0 : Int) + (i : Int) = (i : Int) := Int.zero_add _
        refine ⟨rfl, _, rfl, _, rfl, Or.inl ⟨a, _, _, v, rfl, rfl, s1.seq sx, by rw [e0]; exact atI_nat hv, _, rfl, _, rfl, Or.inl ⟨b, _, _, u, rfl, rfl, s1.seq sy, by rw [e0]; exact atI_nat hu, ?_⟩⟩⟩
        refine ⟨v, u, d1, rfl, Dp.same s1 _ _ p1, Dp.same s1 _ _ p2, hd d1 (List.mem_of_getElem? hd1), fun H2 s2 => ?_⟩
        refine ⟨_, s2 _ _ e1, szlt (by rw [List.length_map, List.length_replicate]; omega), (s1.trans s2).mutB hL, ?_⟩
        rw [upd_same, List.replicate_succ', List.map_append]
        rfl
      · rintro H' ⟨s1, e1⟩
        refine ⟨L, _, rfl, SqL.of e1, ?_⟩
        have e : (List.replicate ys.length true).all id = true := by simp
        show Q (.bl ((List.replicate ys.length true).all id)) H'
        rw [e]
        exact q H' s1
    | @tup b ys ds sy ay =>
      cases hx with
      | @tup a xs _ sx ax =>
      cases hn with
      | tuple m _ hl hd =>
      have tx := tyx_tup sx
      have ty := tyx_tup sy
      refine iteD (fun h => nomatch h) (fun _ => ?_)
      refine ⟨_, rfl, _, _, _, _, false, rfl, .ty _, ty, kit_ty (by decide +kernel), _, rfl, iteF ?_⟩
      refine ⟨_, rfl, _, _, _, _, false, rfl, .ty _, ty, kit_ty (by decide +kernel), _, rfl, iteF ?_⟩
      refine ⟨_, rfl, _, _, _, _, false, rfl, .ty _, ty, kit_ty (by decide +kernel), _, rfl, iteF ?_⟩
      refine ⟨_, rfl, _, _, _, _, true, rfl, .ty _, ty, kit_ty (by decide +kernel), _, rfl, _, _, _, _, true, rfl, .ty _, tx, kit_ty (by decide +kernel), rfl, _, rfl, iteF ?_⟩
      refine ⟨_, rfl, _, _, _, _, false, rfl, .ty _, ty, kit_ty (by decide +kernel), _, rfl, _, _, _, _, false, rfl, .ty _, tx, kit_ty (by decide +kernel), rfl, _, rfl, iteF ?_⟩
      refine ⟨_, rfl, a, _, rfl, Or.inr sx, _, rfl, b, _, rfl, Or.inr sy, rfl, _, rfl, ?_⟩
      have lx := DpAll.len ax
      have ly := DpAll.len ay
      refine iteN (fun h => absurd (by rw [lx, ly]) h) (fun _ => ?_)
      refine ⟨_, rfl, b, _, rfl, Or.inr sy, _, rfl, by omega, by rw [ly]; omega, fun L hL => lc_range (lo := 0) (n := ys.length) (fun i H' => Same H H' ∧ H' L = some (.lst ((List.replicate i true).map V.bl))) ⟨Same.newB hL, upd_same⟩ ?_ ?_⟩
      · rintro i H' hi ⟨s1, e1⟩
        obtain ⟨v, d1, hv, hd1, p1⟩ := DpAll.get (i := i) ax (by omega)
        obtain ⟨u, d2, hu, hd2, p2⟩ := DpAll.get (i := i) ay (by omega)
        obtain rfl : d1 = d2 := Option.some.inj (hd1.symm.trans hd2)
        have e0 : (0 : Int) + (i : Int) = (i : Int) := Int.zero_add _
        refine ⟨rfl, _, rfl, _, rfl, Or.inr (Or.inl ⟨a, _, _, v, rfl, rfl, s1.tupB sx, by rw [e0]; exact atI_nat hv, _, rfl, _, rfl, Or.inr (Or.inl ⟨b, _, _, u, rfl, rfl, s1.tupB sy, by rw [e0]; exact atI_nat hu, ?_⟩)⟩)⟩
        refine ⟨v, u, d1, rfl, Dp.same s1 _ _ p1, Dp.same s1 _ _ p2, hd d1 (List.mem_of_getElem? hd1), fun H2 s2 => ?_⟩
        refine ⟨_, s2 _ _ e1, szlt (by rw [List.length_map, List.length_replicate]; omega), (s1.trans s2).mutB hL, ?_⟩
        rw [upd_same, List.replicate_succ', List.map_append]
        rfl
      · rintro H' ⟨s1, e1⟩
        refine ⟨L, _, rfl, SqL.of e1, ?_⟩
        have e : (List.replicate ys.length true).all id = true := by simp
        show Q (.bl ((List.replicate ys.length true).all id)) H'
        rw [e]
        exact q H' s1
end
end Bw
set_option Elab.async false
set_option linter.all false
set_option maxRecDepth 100000
set_option maxHeartbeats 4000000
namespace Bw
open PySem PySem.Spec PyProof.Rows L2
section
variable {P : Program} {w : World} {K : PySem.W.Frag} {mg : Str → Option Value} {base : Heap} {f : Addr} {fd : FuncData}
theorem ok_is_rule {t1 t2 t3 : Tok} (F : FnP K "is_rule" s_is_rule f fd) (g_len : mg "len" = none) (g_MOST_SILENT : mg "MOST_SILENT" = some (.int 12 t1)) (g_MOST_WIDE : mg "MOST_WIDE" = some (.int 5 t2)) (g_MOST_MANY : mg "MOST_MANY" = some (.int 3 t3)) : FnOk P w K mg base CX0 1 f fd ["rule"] (spIsRule K) := by
  refine F.ok sc_is_rule (fun vs H Q E h => ?_) (fun cdv A outer s H vs Q E hr h => ?_)
  · obtain ⟨q, x, ns, rfl, _⟩ := h
    rfl
  · obtain ⟨q, x, ns, rfl, hq, hn, k⟩ := h
    refine ⟨_, PSs.nox (pss_cons (ps_if (PW.pt (pw_and (pt_cmpR op_eq (pe_callB call_len_seq (by rfl) g_len (by decide +kernel) (pa_cons (pv 0) pa_nil)) pe_int (nomark _)) (pw_and1 (pt_cmpR op_eq (pe_ix ix_tup (pv 0) pe_int (fun _ _ => rfl)) pe_str (nomark _)))))
          (pss_one (ps_ret (pe_chain op_le op_le pe_int (pe_ix ix_tup (pv 0) pe_int (fun _ _ => rfl)) (pe_gI rfl g_MOST_SILENT))))
          pss_nil)
        (pss_cons (ps_if (PW.pt (pw_and (pt_cmpR op_eq (pe_callB call_len_seq (by rfl) g_len (by decide +kernel) (pa_cons (pv 0) pa_nil)) pe_int (nomark _)) (pw_and1 (pt_cmpR op_eq (pe_ix ix_tup (pv 0) pe_int (fun _ _ => rfl)) pe_str (nomark _)))))
          (pss_one (ps_ret (pe_and (pe_chain op_le op_le pe_int (pe_ix ix_tup (pv 0) pe_int (fun _ _ => rfl)) (pe_gI rfl g_MOST_WIDE)) (pe_one (pe_chain op_le op_le pe_int (pe_ix ix_tup (pv 0) pe_int (fun _ _ => rfl)) (pe_gI rfl g_MOST_MANY))))))
          pss_nil)
        (pss_one (ps_ret pe_bl)))), ?_⟩
    refine ⟨_, rfl, q, _, rfl, Or.inr hq, rfl, _, rfl, ?_⟩
    rcases hn with ⟨a, rfl⟩ | ⟨a, b, rfl⟩
    · refine iteD (fun _ => ?_) (fun h => absurd rfl h)
      refine ⟨_, rfl, q, _, _, _, rfl, rfl, hq, atI_nat (j := 0) rfl, rfl, _, rfl, ?_⟩
      refine iteD (fun hx => ?_) (fun hx => ?_)
      · refine ⟨_, rfl, q, _, _, _, rfl, rfl, hq, atI_nat (j := 1) rfl, _, _, rfl, rfl, _, rfl, ?_⟩
        have ex : x = "since" := V.str.inj hx
        refine iteD (fun h1 => ⟨_, _, rfl, rfl, ?_⟩) (fun h1 => ?_)
        · refine qb ?_ k
          simp [isRuleB, ex, h1]
        · refine qb ?_ k
          simp [isRuleB, ex, h1]
      · refine ⟨_, rfl, q, _, rfl, Or.inr hq, rfl, _, rfl, ?_⟩
        refine iteD (fun h => absurd h (by simp)) (fun _ => ?_)
        have ex : ¬ x = "since" := fun e => hx (congrArg V.str e)
        refine qb ?_ k
        simp [isRuleB, ex]
    · refine iteD (fun h => absurd h (by simp)) (fun _ => ?_)
      refine ⟨_, rfl, q, _, rfl, Or.inr hq, rfl, _, rfl, ?_⟩
      refine iteD (fun _ => ?_) (fun h => absurd rfl h)
      refine ⟨_, rfl, q, _, _, _, rfl, rfl, hq, atI_nat (j := 0) rfl, rfl, _, rfl, ?_⟩
      refine iteD (fun hx => ?_) (fun hx => ?_)
      · refine ⟨_, rfl, q, _, _, _, rfl, rfl, hq, atI_nat (j := 1) rfl, _, _, rfl, rfl, _, rfl, ?_⟩
        have ex : x = "few" := V.str.inj hx
        refine iteD (fun h1 => ⟨_, _, rfl, rfl, _, rfl, ?_⟩) (fun h1 => ⟨_, rfl, ?_⟩)
        · refine iteD (fun h2 => ?_) (fun h2 => ?_)
          · refine ⟨_, rfl, q, _, _, _, rfl, rfl, hq, atI_nat (j := 2) rfl, _, _, rfl, rfl, _, rfl, ?_⟩
            refine iteD (fun h3 => ⟨_, _, rfl, rfl, ?_⟩) (fun h3 => ?_)
            · refine qb ?_ k
              simp [isRuleB, ex, h1, h2, h3]
            · refine qb ?_ k
              simp [isRuleB, ex, h1, h2, h3]
          · refine qb ?_ k
            simp [isRuleB, ex, h1, h2]
        · refine qb ?_ k
          simp [isRuleB, ex, h1]
      · have ex : ¬ x = "few" := fun e => hx (congrArg V.str e)
        refine qb ?_ k
        simp [isRuleB, ex]
end
end Bw
set_option Elab.async false
set_option linter.all false
set_option maxRecDepth 100000
set_option maxHeartbeats 4000000
namespace Bw
open PySem PySem.Spec PyProof.Rows L2
section
variable {P : Program} {w : World} {K : PySem.W.Frag} {mg : Str → Option Value} {base : Heap} {f : Addr} {fd : FuncData}
theorem ok_need_rule (F : FnP K "need_rule" s_need_rule f fd) (h_is_rule : Has P w K mg base 1 "is_rule" ["rule"] (spIsRule K)) : FnOk P w K mg base CX0 2 f fd ["rule"] (spNeedRule K) := by
  refine F.ok sc_need_rule (fun vs H Q E h => ?_) (fun cdv A outer s H vs Q E hr h => ?_)
  · obtain ⟨q, r, rfl, _⟩ := h
    rfl
  · obtain ⟨q, r, rfl, hq, ho, k⟩ := h
    refine ⟨_, PSs.nox (pss_one (ps_if (pt_not (pt_val (pe_fn h_is_rule hr rfl (pa_cons (pv 0) pa_nil))))
        (pss_one ps_never)
        pss_nil)), ?_⟩
    obtain ⟨x, ns, e1, e2, e3⟩ := r.raw ho
    rw [e1] at hq
    refine ⟨_, rfl, q, x, ns, rfl, hq, e2, true, by rw [e3], ?_⟩
    exact k
theorem ok_first_state (F : FnP K "first_state" s_first_state f fd) : FnOk P w K mg base CX0 1 f fd ["rule"] (spFirst K) := by
  refine F.ok sc_first_state (fun vs H Q E h => ?_) (fun cdv A outer s H vs Q E hr h => ?_)
  · obtain ⟨q, r, rfl, _⟩ := h
    rfl
  · obtain ⟨q, r, rfl, hq, ho, k⟩ := h
    refine ⟨_, PSs.nox (pss_one (ps_ret (pe_ifExp (pt_cmpR op_eq (pe_ix ix_tup (pv 0) pe_int (fun _ _ => rfl)) pe_str (nomark _)) (pe_tup (pa_cons pe_int pa_nil)) (pe_tup pa_nil)))), ?_⟩
    cases r with
    | since n =>
      refine ⟨_, rfl, q, _, _, _, rfl, rfl, hq, atI_nat (j := 0) rfl, rfl, _, rfl, iteD (fun _ => ?_) (fun h => absurd rfl h)⟩
      exact ⟨by decide, fun p hp => k p _ (Same.newB hp) (SqT.of upd_same)⟩
    | few a b =>
      refine ⟨_, rfl, q, _, _, _, rfl, rfl, hq, atI_nat (j := 0) rfl, rfl, _, rfl, iteD (fun h => absurd (V.str.inj h) few_since) (fun _ => ?_)⟩
      exact ⟨by decide, fun p hp => k p _ (Same.newB hp) (SqT.of upd_same)⟩
theorem ok_is_gone (F : FnP K "is_gone" s_is_gone f fd) (g_len : mg "len" = none) (g_sum : mg "sum" = none) : FnOk P w K mg base CX0 1 f fd ["rule", "state"] (spGone K) := by
  refine F.ok sc_is_gone (fun vs H Q E h => ?_) (fun cdv A outer s H vs Q E hr h => ?_)
  · obtain ⟨q, t, r, st, rfl, _⟩ := h
    rfl
  · obtain ⟨q, t, r, st, rfl, hq, ho, ht, hs, k⟩ := h
    refine ⟨_, PSs.nox (pss_cons (ps_if (pt_cmpR op_eq (pe_ix ix_tup (pv 0) pe_int (fun _ _ => rfl)) pe_str (nomark _))
          (pss_one (ps_ret (pe_cmpR op_ge (pe_ix ix_tup (pv 1) pe_int (fun _ _ => rfl)) (pe_ix ix_tup (pv 0) pe_int (fun _ _ => rfl)) (nomark _))))
          pss_nil)
        (pss_one (ps_ret (pe_and (pe_cmpR op_eq (pe_callB call_len_seq (by rfl) g_len (by decide +kernel) (pa_cons (pv 1) pa_nil)) (pe_ix ix_tup (pv 0) pe_int (fun _ _ => rfl)) (nomark _)) (pe_one (pe_cmpR op_lt (pe_callB (cr_sumT rfl) (by rfl) g_sum (by decide +kernel) (pa_cons (pv 1) pa_nil)) (pe_ix ix_tup (pv 0) pe_int (fun _ _ => rfl)) (nomark _))))))), ?_⟩
    cases r with
    | since n =>
      obtain ⟨z, rfl⟩ := hs
      refine ⟨_, rfl, q, _, _, _, rfl, rfl, hq, atI_nat (j := 0) rfl, rfl, _, rfl, iteD (fun _ => ?_) (fun h => absurd rfl h)⟩
      exact ⟨_, rfl, t, _, _, _, rfl, rfl, ht, atI_nat (j := 0) rfl, _, rfl, q, _, _, _, rfl, rfl, hq, atI_nat (j := 1) rfl, _, _, rfl, rfl, k⟩
    | few a b =>
      refine ⟨_, rfl, q, _, _, _, rfl, rfl, hq, atI_nat (j := 0) rfl, rfl, _, rfl, iteD (fun h => absurd (V.str.inj h) few_since) (fun _ => ?_)⟩
      refine ⟨_, rfl, t, _, rfl, Or.inr ht, _, rfl, q, _, _, _, rfl, rfl, hq, atI_nat (j := 1) rfl, rfl, _, rfl, ?_⟩
      refine iteD (fun h1 => ?_) (fun h1 => ?_)
      · refine ⟨_, rfl, t, _, rfl, ht, _, rfl, q, _, _, _, rfl, rfl, hq, atI_nat (j := 2) rfl, _, _, rfl, rfl, ?_⟩
        refine qb ?_ k
        have h2 := V.int.inj h1
        rw [List.length_map] at h2
        simp [goneS, h2]
      · refine qb ?_ k
        have h2 : ¬ ((st.length : Int) = (a : Int)) := fun e => h1 (by rw [List.length_map, e])
        simp only [goneS, h2, decide_false, Bool.false_and]
theorem ok_next_state (F : FnP K "next_state" s_next_state f fd) (g_min : mg "min" = none) : FnOk P w K mg base CX0 1 f fd ["rule", "state", "many"] (spNext K) := by
  refine F.ok sc_next_state (fun vs H Q E h => ?_) (fun cdv A outer s H vs Q E hr h => ?_)
  · obtain ⟨q, t, m, r, st, rfl, _⟩ := h
    rfl
  · obtain ⟨q, t, m, r, st, rfl, hq, ho, ht, hs, k⟩ := h
    refine ⟨_, PSs.nox (pss_cons (ps_if (pt_cmpR op_eq (pe_ix ix_tup (pv 0) pe_int (fun _ _ => rfl)) pe_str (nomark _))
          (pss_one (ps_ret (pe_ifExp (pt_cmpR op_gt (pv 2) pe_int (nomark _)) (pe_tup (pa_cons pe_int pa_nil)) (pe_tup (pa_cons (pe_callB (call_min2 rfl) (by rfl) g_min (by decide +kernel) (pa_cons (pe_ix ix_tup (pv 0) pe_int (fun _ _ => rfl)) (pa_cons (pe_op op_add (pe_ix ix_tup (pv 1) pe_int (fun _ _ => rfl)) pe_int) pa_nil))) pa_nil)))))
          pss_nil)
        (pss_one (ps_ret (pe_slice sl_tupA (pe_op op_catA (pv 1) (pe_tup (pa_cons (pv 2) pa_nil))) (po_some (pe_un un_neg (pe_ix ix_tup (pv 0) pe_int (fun _ _ => rfl)))) po_none)))), ?_⟩
    cases r with
    | since n =>
      obtain ⟨z, rfl⟩ := hs
      refine ⟨_, rfl, q, _, _, _, rfl, rfl, hq, atI_nat (j := 0) rfl, rfl, _, rfl, iteD (fun _ => ?_) (fun h => absurd rfl h)⟩
      refine ⟨_, rfl, _, _, rfl, rfl, _, rfl, iteD (fun h => ?_) (fun h => ?_)⟩
      · refine ⟨by decide, fun p hp => k p _ (Same.newB hp) ?_⟩
        have e : nextS (.since n) [z] m = [0] := if_pos h
        rw [e]
        exact SqT.of upd_same
      · refine ⟨_, rfl, q, _, _, _, rfl, rfl, hq, atI_nat (j := 1) rfl, _, rfl, t, _, _, _, rfl, rfl, ht, atI_nat (j := 0) rfl, _, _, rfl, rfl, _, _, rfl, szle (Nat.le_of_ble_eq_true rfl), fun p hp => k p _ (Same.newB hp) ?_⟩
        have e : nextS (.since n) [z] m = [if z + 1 < (n : Int) then z + 1 else (n : Int)] := if_neg h
        rw [e]
        exact SqT.of upd_same
    | few a b =>
      refine ⟨_, rfl, q, _, _, _, rfl, rfl, hq, atI_nat (j := 0) rfl, rfl, _, rfl, iteD (fun h => absurd (V.str.inj h) few_since) (fun _ => ?_)⟩
      have hs' : st.length ≤ a := hs
      have ho' : 1 ≤ a ∧ a ≤ 5 ∧ 1 ≤ b ∧ b ≤ 3 := ho
      have fin : ∀ (u : Addr) (H2 : Hp), Same H H2 → SqT K H2 u ((st ++ [m]).map V.int) → rSlA K (.ref u) (some (-(a : Int))) none H2 Q := by
        intro u H2 s2 hu
        have e0 : HT.sIx ((st ++ [m]).map V.int).length 0 (some (-(a : Int))) = (st ++ [m]).length - a := by
          show (if -(a : Int) < 0 then (-(a : Int) + ((((st ++ [m]).map V.int).length : Nat) : Int)).toNat else _) = _
          rw [if_pos (by omega), List.length_map]
          omega
        refine ⟨u, _, rfl, hu, fun hw => ?_, fun hw p hp => ?_⟩
        · refine k u H2 s2 ?_
          have e : nextS (.few a b) st m = st ++ [m] := by
            show lastN a (st ++ [m]) = _
            unfold lastN
            rw [← e0, hw.1]
            rfl
          rw [e]
          exact hu
        · refine k p _ (s2.moreB hp) ?_
          have e : cutV ((st ++ [m]).map V.int) (some (-(a : Int))) none = (nextS (.few a b) st m).map V.int := by
            show ((((st ++ [m]).map V.int)).drop (HT.sIx ((st ++ [m]).map V.int).length 0 (some (-(a : Int))))).take (((st ++ [m]).map V.int).length - (HT.sIx ((st ++ [m]).map V.int).length 0 (some (-(a : Int))))) = _
            rw [e0, map_cut]
            rfl
          rw [e]
          exact SqT.of upd_same
      refine ⟨_, rfl, _, rfl, szle (Nat.le_of_ble_eq_true rfl), fun p hp => ⟨t, p, _, _, rfl, rfl, (Same.newB hp).tupB ht, SqT.of upd_same, szle (by rw [List.length_map]; simp; omega), fun e => ?_, (fun e e2 => nomatch e2), fun e _ p2 hp2 => ?_⟩⟩
      · have e' : st = [] := by simpa using e
        subst e'
        exact ⟨_, rfl, q, _, _, _, rfl, rfl, (Same.newB hp).tupB hq, atI_nat (j := 1) rfl, _, rfl, _, rfl, fin p _ (Same.newB hp) (SqT.of upd_same)⟩
      · have s2 := (Same.newB (o := .tup [.int m]) hp).moreB (o := .tup (st.map V.int ++ [.int m])) hp2
        refine ⟨_, rfl, q, _, _, _, rfl, rfl, s2.tupB hq, atI_nat (j := 1) rfl, _, rfl, _, rfl, fin p2 _ s2 ?_⟩
        rw [List.map_append]
        exact SqT.of upd_same
end
end Bw
set_option Elab.async false
set_option linter.all false
set_option maxRecDepth 100000
set_option maxHeartbeats 4000000
namespace Bw
open PySem PySem.Spec PyProof.Rows L2
section
variable {P : Program} {w : World} {K : PySem.W.Frag} {mg : Str → Option Value} {base : Heap} {f : Addr} {fd : FuncData}
theorem ok_Watcher___init__ {C : Addr} (F : FnQ K "__init__" "Watcher.__init__" s_Watcher___init__ f fd) (T : WTxt K C) (h_need_rule : Has P w K mg base 2 "need_rule" ["rule"] (spNeedRule K)) (h_first_state : Has P w K mg base 1 "first_state" ["rule"] (spFirst K)) : FnOk P w K mg base CX0 3 f fd ["self", "rule"] (spWInit K C) := by
  refine F.ok sc_Watcher___init__ (fun vs H Q E h => ?_) (fun cdv A outer s H vs Q E hr h => ?_)
  · obtain ⟨x, q, dx, r, rfl, _⟩ := h
    rfl
  · obtain ⟨x, q, dx, r, rfl, hx, hq, ho, k⟩ := h
    refine ⟨_, PSs.nox (pss_cons (ps_expr (pe_fn h_need_rule hr rfl (pa_cons (pv 1) pa_nil)))
        (pss_cons (ps_fld (pv 0) (pv 1) rfl)
        (pss_one (ps_fld (pv 0) (pe_fn h_first_state hr rfl (pa_cons (pv 1) pa_nil)) rfl)))), ?_⟩
    refine ⟨_, rfl, q, r, rfl, hq, ho, ?_⟩
    refine ⟨_, rfl, _, rfl, x, C, dx, _, rfl, hx, T.cl, T.nR, by decide, ?_⟩
    have hq1 : SqT K (upd H x (.ins C dx (putF "rule" (.ref q) []))) q r.vs := sq_tup_ne hq hx
    refine ⟨_, rfl, q, r, rfl, hq1, ho, fun t H1 s1 ht => ?_⟩
    refine ⟨_, rfl, x, C, dx, _, rfl, s1 _ _ upd_same, T.cl, T.nK, (by show 1 < 1000; decide), ?_⟩
    have hx1 := s1 _ _ (upd_same (H := H) (a := x) (o := .ins C dx (putF "rule" (.ref q) [])))
    refine k _ ⟨dx, q, t, ?_, ?_, ?_⟩ fun b o nb hb => ?_
    · rw [upd_same, wF_new]
    · exact sq_tup_ne (s1.tupB hq1) hx1
    · exact sq_tup_ne ht hx1
    · rw [upd_ne nb]
      refine s1 _ _ ?_
      rw [upd_ne nb]
      exact hb
theorem ok_Watcher_hear {C : Addr} (F : FnQ K "hear" "Watcher.hear" s_Watcher_hear f fd) (T : WTxt K C) (h_next_state : Has P w K mg base 1 "next_state" ["rule", "state", "many"] (spNext K)) (h_is_gone : Has P w K mg base 1 "is_gone" ["rule", "state"] (spGone K)) : FnOk P w K mg base CX0 2 f fd ["self", "many"] (spHear K C) := by
  refine F.ok sc_Watcher_hear (fun vs H Q E h => ?_) (fun cdv A outer s H vs Q E hr h => ?_)
  · obtain ⟨x, m, r, st, rfl, _⟩ := h
    rfl
  · obtain ⟨x, m, r, st, rfl, hW, ho, hs, k⟩ := h
    obtain ⟨dx, q, t, hx, hq, ht⟩ := hW.ex
    refine ⟨_, PSs.nox (pss_cons (ps_fld (pv 0) (pe_fn h_next_state hr rfl (pa_cons (pe_fld (pv 0) rfl) (pa_cons (pe_fld (pv 0) rfl) (pa_cons (pv 1) pa_nil)))) rfl)
        (pss_one (ps_ret (pe_fn h_is_gone hr rfl (pa_cons (pe_fld (pv 0) rfl) (pa_cons (pe_fld (pv 0) rfl) pa_nil)))))), ?_⟩
    refine ⟨_, rfl, x, C, dx, _, _, rfl, hx, T.cl, T.nR, wF_rule _ _, _, rfl, x, C, dx, _, _, rfl, hx, T.cl, T.nK, wF_kept _ _, _, rfl, q, t, m, r, st, rfl, hq, ho, ht, hs, fun p H1 s1 hp => ?_⟩
    refine ⟨_, rfl, x, C, dx, _, rfl, s1 _ _ hx, T.cl, T.nK, (by show 2 < 1000; decide), ?_⟩
    have hx1 := s1 _ _ hx
    have hx2 : (upd H1 x (.ins C dx (putF "kept" (.ref p) (wF q t)))) x = some (.ins C dx (wF q p)) := by rw [wF_put]; exact upd_same
    have hq2 : SqT K (upd H1 x (.ins C dx (putF "kept" (.ref p) (wF q t)))) q r.vs := sq_tup_ne (s1.tupB hq) hx1
    have hp2 : SqT K (upd H1 x (.ins C dx (putF "kept" (.ref p) (wF q t)))) p ((nextS r st m).map V.int) := sq_tup_ne hp hx1
    refine ⟨_, rfl, x, C, dx, _, _, rfl, hx2, T.cl, T.nR, wF_rule _ _, _, rfl, x, C, dx, _, _, rfl, hx2, T.cl, T.nK, wF_kept _ _, q, p, r, _, rfl, hq2, ho, hp2, stOk_next r st m, ?_⟩
    refine k _ ⟨dx, q, p, hx2, hq2, hp2⟩ fun b o nb hb => ?_
    rw [upd_ne nb]
    exact s1 _ _ hb
theorem ok__law_rule (F : FnP K "_law_rule" s__law_rule f fd) (h__law_off : Has P w K mg base 1 "_law_off" ["_law_d", "_law_most"] spOff) : FnOk P w K mg base CX0 2 f fd ["_law_d"] spRule := by
  refine F.ok sc__law_rule (fun vs H Q E h => ?_) (fun cdv A outer s H vs Q E hr h => ?_)
  · obtain ⟨d, rfl, _⟩ := h
    rfl
  · obtain ⟨d, rfl, hd, k⟩ := h
    refine ⟨_, PSs.nox (pss_cons (ps_if (pt_cmpR op_eq (pe_fn h__law_off hr rfl (pa_cons (pv 0) (pa_cons pe_int pa_nil))) pe_int (nomark _))
          (pss_one (ps_ret (pe_tup (pa_cons pe_str (pa_cons (pe_op op_add pe_int (pe_fn h__law_off hr rfl (pa_cons (pv 0) (pa_cons pe_int pa_nil)))) pa_nil)))))
          pss_nil)
        (pss_one (ps_ret (pe_tup (pa_cons pe_str (pa_cons (pe_op op_add pe_int (pe_fn h__law_off hr rfl (pa_cons (pv 0) (pa_cons pe_int pa_nil)))) (pa_cons (pe_op op_add pe_int (pe_fn h__law_off hr rfl (pa_cons (pv 0) (pa_cons pe_int pa_nil)))) pa_nil))))))), ?_⟩
    refine ⟨_, rfl, d, 2, rfl, hd, by decide, by decide, fun r1 H1 h1 g1 D1 => ⟨rfl, _, rfl, iteD (fun _ => ?_) (fun _ => ?_)⟩⟩
    · refine ⟨_, rfl, d, 12, rfl, D1.dice, by decide, by decide, fun r2 H2 h2 g2 D2 => ⟨_, _, rfl, rfl, szle (Nat.le_of_ble_eq_true rfl), fun p hp => ?_⟩⟩
      have D3 := D1.trans D2
      have e : (((1 + r2).toNat : Nat) : Int) = 1 + r2 := by omega
      refine k (.since (1 + r2).toNat) p _ ⟨by omega, by omega⟩ (D3.new hp) (D3.free hp) ?_
      show _ = some (HO.tup [.str "since", .int (((1 + r2).toNat : Nat) : Int)])
      rw [e]
      exact upd_same
    · refine ⟨_, rfl, d, 5, rfl, D1.dice, by decide, by decide, fun r2 H2 h2 g2 D2 => ⟨_, _, rfl, rfl, ?_⟩⟩
      refine ⟨_, rfl, d, 3, rfl, D2.dice, by decide, by decide, fun r3 H3 h3 g3 D3 => ⟨_, _, rfl, rfl, szle (Nat.le_of_ble_eq_true rfl), fun p hp => ?_⟩⟩
      have D4 := (D1.trans D2).trans D3
      have e : (((1 + r2).toNat : Nat) : Int) = 1 + r2 := by omega
      have e' : (((1 + r3).toNat : Nat) : Int) = 1 + r3 := by omega
      refine k (.few (1 + r2).toNat (1 + r3).toNat) p _ ⟨by omega, by omega, by omega, by omega⟩ (D4.new hp) (D4.free hp) ?_
      show _ = some (HO.tup [.str "few", .int (((1 + r2).toNat : Nat) : Int), .int (((1 + r3).toNat : Nat) : Int)])
      rw [e, e']
      exact upd_same
theorem ok__law_gone (F : FnP K "_law_gone" s__law_gone f fd) (g_len : mg "len" = none) (g_sum : mg "sum" = none) : FnOk P w K mg base CX0 1 f fd ["_law_rule_here", "_law_heard"] (spLGone K) := by
  refine F.ok sc__law_gone (fun vs H Q E h => ?_) (fun cdv A outer s H vs Q E hr h => ?_)
  · obtain ⟨q, l, r, hs, rfl, _⟩ := h
    rfl
  · obtain ⟨q, l, r, hs, rfl, hq, ho, hl, hz, k⟩ := h
    refine ⟨_, PSs.nox (pss_cons (ps_if (pt_cmpR op_lt (pe_callB call_len_seq (by rfl) g_len (by decide +kernel) (pa_cons (pv 1) pa_nil)) (pe_ix ix_tup (pv 0) pe_int (fun _ _ => rfl)) (nomark _))
          (pss_one (ps_ret pe_bl))
          pss_nil)
        (pss_cons (ps_set (i := 2) sc__law_gone.nd rfl (Or.inl rfl) (pe_slice sl_list (pv 1) (po_some (pe_op op_sub (pe_callB call_len_seq (by rfl) g_len (by decide +kernel) (pa_cons (pv 1) pa_nil)) (pe_ix ix_tup (pv 0) pe_int (fun _ _ => rfl)))) po_none))
        (pss_cons (ps_if (pt_cmpR op_eq (pe_ix ix_tup (pv 0) pe_int (fun _ _ => rfl)) pe_str (nomark _))
          (pss_one (ps_ret (pe_cmpR (op_eqD hr.units) (pe_lc (own := [("_law_many", 3)]) (g := gName 3) rfl sc__law_gone.nd (pi_list (pv 2)) (blkOk_by (own := [("_law_many", 3)]) (N := n__law_gone) (sc := defScope s__law_gone) (by decide +kernel)) (fun _ _ _ _ _ => (pg_name (i := 3) sc__law_gone.nd rfl (Or.inl rfl))) (fun _ _ _ _ _ => (pts_one (pt_cmpR op_gt (pv 3) pe_int (nomark _)))) (fun _ _ _ _ _ => (pv 3))) (pe_lst pa_nil) (nomark _))))
          pss_nil)
        (pss_one (ps_ret (pe_cmpR op_lt (pe_callB (cr_sum rfl) (by rfl) g_sum (by decide +kernel) (pa_cons (pv 2) pa_nil)) (pe_ix ix_tup (pv 0) pe_int (fun _ _ => rfl)) (nomark _))))))), ?_⟩
    refine ⟨_, rfl, l, _, rfl, Or.inl hl, _, rfl, q, _, _, _, rfl, rfl, hq, atI_nat (j := 1) r.at1, _, _, rfl, rfl, _, rfl, iteD (fun h => ?_) (fun h => ?_)⟩
    · rw [List.length_map] at h
      refine qb ?_ (k H (Same.refl H))
      have h' : ¬ r.wide ≤ hs.length := by omega
      cases r with
      | since n =>
        have h2 : ¬ n ≤ hs.length := h'
        simp [goneH, h2]
      | few a b =>
        have h2 : ¬ a ≤ hs.length := h'
        simp [goneH, h2]
    · rw [List.length_map] at h
      have h' : r.wide ≤ hs.length := by omega
      refine ⟨_, rfl, _, rfl, l, _, rfl, Or.inl hl, _, rfl, q, _, _, _, rfl, rfl, hq, atI_nat (j := 1) r.at1, _, _, rfl, rfl, _, rfl, l, _, rfl, hl, fun p hp => ?_⟩
      have ec : cutV (hs.map V.int) (some (((hs.map V.int).length : Int) - (r.wide : Int))) none = (lastN r.wide hs).map V.int := by
        have e0 : HT.sIx (hs.map V.int).length 0 (some (((hs.map V.int).length : Int) - (r.wide : Int))) = hs.length - r.wide := by
          rw [List.length_map]
          have e1 : ((hs.length : Int) - (r.wide : Int)) = (((hs.length - r.wide : Nat)) : Int) := by omega
          rw [e1, HT.sIx_nat]
          omega
        show ((hs.map V.int).drop (HT.sIx (hs.map V.int).length 0 (some (((hs.map V.int).length : Int) - (r.wide : Int))))).take ((hs.map V.int).length - (HT.sIx (hs.map V.int).length 0 (some (((hs.map V.int).length : Int) - (r.wide : Int))))) = _
        rw [e0, map_cut]
        rfl
      rw [ec]
      have s1 : Same H (upd H p (.lst ((lastN r.wide hs).map V.int))) := Same.newB hp
      have hlen : (lastN r.wide hs).length ≤ 1000 := by rw [lastN_len]; omega
      cases r with
      | since n =>
        refine ⟨_, rfl, q, _, _, _, rfl, rfl, s1.tupB hq, atI_nat (j := 0) rfl, rfl, _, rfl, iteD (fun _ => ?_) (fun h => absurd rfl h)⟩
        generalize hL : lastN (Rule.since n).wide hs = ls at *
        refine ⟨_, rfl, p, rfl, ⟨_, SqL.of upd_same⟩, fun D hD => lc_list (K := K) (a := p) (xs := ls.map V.int) (fun i H2 => Same (upd H p (.lst (ls.map V.int))) H2 ∧ H2 D = some (.lst (((ls.take i).filter fun m => decide (0 < m)).map V.int))) ⟨Same.newB hD, by rw [upd_same]; rfl⟩ (fun i H2 _ ⟨s2, _⟩ => SqL.of (s2 _ _ upd_same)) ?_ ?_⟩
        · rintro i y H2 hi ⟨s2, e2⟩
          obtain ⟨c, hc, rfl⟩ := int_at hi
          have et : ls.take (i + 1) = ls.take i ++ [c] := by rw [List.take_succ, hc]; rfl
          have hfl : ((ls.take i).filter fun m => decide (0 < m)).length ≤ 1000 := Nat.le_trans (List.length_filter_le _ _) (by rw [List.length_take]; omega)
          refine ⟨rfl, _, rfl, _, _, rfl, rfl, _, rfl, iteD (fun h => ?_) (fun h => ?_)⟩
          · refine ⟨_, rfl, _, e2, szlt (by rw [List.length_map]; omega), s2.mutB hD, ?_⟩
            rw [upd_same, et, List.filter_append, List.filter_cons, if_pos (by simpa using h), List.map_append]
            rfl
          · refine ⟨s2, ?_⟩
            rw [e2, et, List.filter_append, List.filter_cons, if_neg (by simpa using h)]
            simp
        · rintro H2 ⟨s2, e2⟩
          rw [List.length_map, List.take_length] at e2
          refine ⟨szle (Nat.le_of_ble_eq_true rfl), fun e he => ⟨.list ((ls.filter fun m => decide (0 < m)).map PyData.int), .list [], .lst (SqL.of (Same.newB he _ _ e2)) (dp_ints _), .lst (SqL.of upd_same) .nil, PySem.W.ke_shaped_ints _, PySem.W.ke_shaped_ints [], ?_⟩⟩
          refine qb ?_ (k _ ((s1.trans s2).moreB he))
          rw [eqv_nil]
          have h2 : n ≤ hs.length := h'
          show (decide (n ≤ hs.length) && decide ((lastN n hs).filter (fun m => decide (0 < m)) = [])) = _
          have hL' : lastN n hs = ls := hL
          rw [hL']
          simp [h2]
      | few a b =>
        refine ⟨_, rfl, q, _, _, _, rfl, rfl, s1.tupB hq, atI_nat (j := 0) rfl, rfl, _, rfl, iteD (fun h => absurd (V.str.inj h) few_since) (fun _ => ?_)⟩
        refine ⟨_, rfl, p, _, rfl, SqL.of upd_same, _, rfl, q, _, _, _, rfl, rfl, s1.tupB hq, atI_nat (j := 2) rfl, _, _, rfl, rfl, ?_⟩
        refine qb ?_ (k _ s1)
        have h2 : a ≤ hs.length := h'
        show (decide (a ≤ hs.length) && decide ((lastN a hs).sum < (b : Int))) = _
        rw [decide_eq_true h2]
        rfl
end
end Bw
set_option Elab.async false
set_option linter.all false
set_option maxRecDepth 100000
set_option maxHeartbeats 4000000
namespace Bw
open PySem PySem.Spec PyProof.Rows L2
section
variable {P : Program} {w : World} {K : PySem.W.Frag} {mg : Str → Option Value} {base : Heap} {f : Addr} {fd : FuncData}
/-- between two turns -/
structure W3 (K : PySem.W.Frag) (C d ra wa ha : Addr) (q x l : Nat → Addr) (r : Nat → Rule) (hs : Nat → List Int) (i : Nat) (H : Hp) : Prop where
  dice : DiceAt H d
  hra : H ra = some (.lst [.ref (q 0), .ref (q 1), .ref (q 2)])
  hwa : H wa = some (.lst [.ref (x 0), .ref (x 1), .ref (x 2)])
  hha : H ha = some (.lst [.ref (l 0), .ref (l 1), .ref (l 2)])
  rule : ∀ j, j < 3 → (r j).ok ∧ H (q j) = some (.tup (r j).vs)
  wat : ∀ j, j < 3 → WAt K C H (x j) (r j) (stOf (r j) (hs j))
  lst : ∀ j, j < 3 → H (l j) = some (.lst ((hs j).map V.int)) ∧ (hs j).length ≤ i
  xinj : ∀ j k, j < 3 → k < 3 → x j = x k → j = k
  linj : ∀ j k, j < 3 → k < 3 → l j = l k → j = k
  sep : ∀ j, j < 3 → l j ≠ d ∧ l j ≠ ra ∧ l j ≠ wa ∧ l j ≠ ha
  sepd : ra ≠ d ∧ wa ≠ d ∧ ha ≠ d
theorem WAt.keep {C : Addr} {H H' : Hp} {x : Addr} {r : Rule} {st : List Int} (h : WAt K C H x r st) (hk : ∀ b o, (∀ xs, o ≠ .lst xs) → H b = some o → H' b = some o) : WAt K C H' x r st := by
  obtain ⟨dx, q, t, h1, h2, h3⟩ := h.ex
  have kt : ∀ {a xs}, SqT K H a xs → SqT K H' a xs := by
    intro a xs h
    rcases h with (h | ⟨u, h⟩) | h
    · exact .inl (.inl (hk _ _ (by intro xs z; cases z) h))
    · exact .inl (.inr ⟨u, hk _ _ (by intro xs z; cases z) h⟩)
    · exact .inr h
  exact ⟨dx, q, t, hk _ _ (by intro xs z; cases z) h1, kt h2, kt h3⟩
theorem WAt.keepT {C : Addr} {H H' : Hp} {x : Addr} {r : Rule} {st : List Int} (h : WAt K C H x r st) (hx : ∀ o, H x = some o → H' x = some o) (hk : ∀ b o, (∀ xs, o ≠ .lst xs) → (∀ C dx fs, o ≠ .ins C dx fs) → H b = some o → H' b = some o) : WAt K C H' x r st := by
  obtain ⟨dx, q, t, h1, h2, h3⟩ := h.ex
  have kt : ∀ {a xs}, SqT K H a xs → SqT K H' a xs := by
    intro a xs h
    rcases h with (h | ⟨u, h⟩) | h
    · exact .inl (.inl (hk _ _ (by intro xs z; cases z) (by intro _ _ _ z; cases z) h))
    · exact .inl (.inr ⟨u, hk _ _ (by intro xs z; cases z) (by intro _ _ _ z; cases z) h⟩)
    · exact .inr h
  exact ⟨dx, q, t, hx _ h1, kt h2, kt h3⟩
/-- a draw keeps the rest -/
theorem W3.dr {C d ra wa ha : Addr} {q x l : Nat → Addr} {r : Nat → Rule} {hs : Nat → List Int} {i : Nat} {H H' : Hp} (h : W3 K C d ra wa ha q x l r hs i H) (D : Dr d H H') : W3 K C d ra wa ha q x l r hs i H' := by
  obtain ⟨ds, hd, _⟩ := h.dice
  have ne : ∀ b o, (∀ xs, o ≠ .lst xs) → H b = some o → H' b = some o := fun b o n e => D.keep b o (ne_of e hd (n _)) e
  exact { h with
    dice := D.dice
    hra := D.keep _ _ h.sepd.1 h.hra
    hwa := D.keep _ _ h.sepd.2.1 h.hwa
    hha := D.keep _ _ h.sepd.2.2 h.hha
    rule := fun j hj => ⟨(h.rule j hj).1, ne _ _ (by intro xs z; cases z) (h.rule j hj).2⟩
    wat := fun j hj => (h.wat j hj).keep ne
    lst := fun j hj => ⟨D.keep _ _ (h.sep j hj).1 (h.lst j hj).1, (h.lst j hj).2⟩ }
/-- one more moment for the k-th: its list -/
theorem W3.same {C d ra wa ha : Addr} {q x l : Nat → Addr} {r : Nat → Rule} {hs : Nat → List Int} {i : Nat} {H H' : Hp} (h : W3 K C d ra wa ha q x l r hs i H) (s : Same H H') : W3 K C d ra wa ha q x l r hs i H' := h.dr (Dr.ofSame h.dice s)
theorem rng_put (q : Nat → Addr) (i : Nat) (p : Addr) : (List.range (i + 1)).map (fun j => V.ref (if j < i then q j else p)) = (List.range i).map (fun j => V.ref (q j)) ++ [V.ref p] := by
  rw [rng_ext (f := fun j => V.ref (q j)) (fun j hj => by rw [if_pos hj]), if_neg (Nat.lt_irrefl _)]
theorem three {α : Type} (f : Nat → α) {k : Nat} (h : k < 3) : [f 0, f 1, f 2][k]? = some (f k) := by
  match k, h with
  | 0, _ => rfl
  | 1, _ => rfl
  | 2, _ => rfl
theorem ok_law {C : Addr} (F : FnP K "law" s_law f fd) (g_range : mg "range" = none) (g_int : mg "int" = none)
    (h__law_dice : Has P w K mg base 1 "_law_dice" ["_law_script", "_law_k"] (spDice K)) (h__law_off : Has P w K mg base 1 "_law_off" ["_law_d", "_law_most"] spOff) (h__law_rule : Has P w K mg base 2 "_law_rule" ["_law_d"] spRule)
    (h__law_alike : Has P w K mg base 1 "_law_alike" ["_law_found", "_law_due"] (spAlike K 0)) (h__law_gone : Has P w K mg base 1 "_law_gone" ["_law_rule_here", "_law_heard"] (spLGone K))
    (h_Watcher : HasC P w K mg base 3 "Watcher" C ["self", "rule"] (spWInit K C)) (h_Watcher_hear : HasM P w K mg base 2 C "hear" ["self", "many"] (spHear K C)) : FnOk P w K mg base CX0 5 f fd ["_law_script"] (spLaw K) := by
  refine F.ok sc_law (fun vs H Q E h => ?_) (fun cdv A outer s H vs Q E hr h => ?_)
  · obtain ⟨a, ns, rfl, _⟩ := h
    rfl
  · obtain ⟨a, ns, rfl, hS, hlen, k⟩ := h
    refine ⟨_, PSs.nox (pss_cons (ps_set (i := 1) sc_law.nd rfl (Or.inr rfl) (pe_fn h__law_dice hr rfl (pa_cons (pv 0) (pa_cons pe_int pa_nil))))
        (pss_cons (ps_setLc (i := 2) (own := [("_law_k", 3)]) (g := gName 3) rfl sc_law.nd rfl rfl (sw_true rfl rfl rfl (by decide +kernel)) (pi_range1 rfl g_range (pa_cons pe_int pa_nil)) (blkOk_by (own := [("_law_k", 3)]) (N := n_law) (sc := defScope s_law) (by decide +kernel)) (fun _ _ _ _ _ => (pg_name (i := 3) sc_law.nd rfl (Or.inl rfl))) (fun _ _ _ _ _ => pts_nil) (fun _ _ _ _ _ => (pe_fn h__law_rule hr rfl (pa_cons (pv 1) pa_nil))))
        (pss_cons (ps_setLc (i := 4) (own := [("_law_rule_here", 5)]) (g := gName 5) rfl sc_law.nd rfl rfl (sw_true rfl rfl rfl (by decide +kernel)) (pi_list (pv 2)) (blkOk_by (own := [("_law_rule_here", 5)]) (N := n_law) (sc := defScope s_law) (by decide +kernel)) (fun _ _ _ _ _ => (pg_name (i := 5) sc_law.nd rfl (Or.inl rfl))) (fun _ _ _ _ _ => pts_nil) (fun _ _ _ _ _ => (pe_new h_Watcher hr rfl (pa_cons (pv 5) pa_nil))))
        (pss_cons (ps_set (i := 6) sc_law.nd rfl (Or.inl rfl) (pe_lst (pa_cons (pe_lst pa_nil) (pa_cons (pe_lst pa_nil) (pa_cons (pe_lst pa_nil) pa_nil)))))
        (pss_cons (ps_set (i := 7) sc_law.nd rfl (Or.inl rfl) (pe_op op_add pe_int (pe_fn h__law_off hr rfl (pa_cons (pv 1) (pa_cons pe_int pa_nil)))))
        (pss_cons (ps_for PassesOwn.never rfl (pi_range1 rfl g_range (pa_cons (pe_fn h__law_off hr rfl (pa_cons (pv 1) (pa_cons (pe_ix ix_list (pe_lst (pa_cons pe_int (pa_cons pe_int pa_nil))) (pe_callTy call_int1 (by rfl) g_int (by decide +kernel) (pa_cons (pe_cmpR op_eq (pe_fn h__law_off hr rfl (pa_cons (pv 1) (pa_cons pe_int pa_nil))) pe_int (nomark _)) pa_nil)) (fun _ _ => rfl)) pa_nil))) pa_nil)) (pg_name (i := 8) sc_law.nd rfl (Or.inl rfl))
          (pss_cons (ps_set (i := 3) sc_law.nd rfl (Or.inl rfl) (pe_fn h__law_off hr rfl (pa_cons (pv 1) (pa_cons pe_int pa_nil))))
            (pss_cons (ps_set (i := 9) sc_law.nd rfl (Or.inl rfl) (pe_op op_mul (pe_fn h__law_off hr rfl (pa_cons (pv 1) (pa_cons pe_int pa_nil))) (pe_callTy call_int1 (by rfl) g_int (by decide +kernel) (pa_cons (pe_cmpR op_eq (pe_fn h__law_off hr rfl (pa_cons (pv 1) (pa_cons (pv 7) pa_nil))) pe_int (nomark _)) pa_nil))))
            (pss_cons (ps_expr (pe_bm PySem.F.plainAttrs_list PySem.F.slot_list_append PySem.F.type_list_append mt_append (pe_ix ix_list (pv 6) (pv 3) (fun _ _ => rfl)) (pa_cons (pv 9) pa_nil)))
            (pss_one (ps_if (pt_not (pt_val (pe_fn h__law_alike hr rfl (pa_cons (pe_mth h_Watcher_hear (pe_ix ix_list (pv 4) (pv 3) (fun _ _ => rfl)) hr (pa_cons (pv 9) pa_nil)) (pa_cons (pe_fn h__law_gone hr rfl (pa_cons (pe_ix ix_list (pv 2) (pv 3) (fun _ _ => rfl)) (pa_cons (pe_ix ix_list (pv 6) (pv 3) (fun _ _ => rfl)) pa_nil))) pa_nil)))))
              (pss_one (ps_ret pe_bl))
              pss_nil))))))
        (pss_one (ps_ret pe_bl)))))))), ?_⟩
    refine ⟨_, rfl, a, 0, ns, rfl, hS, hlen, fun d H1 s1 nd hd => ?_⟩
    refine ⟨3, rfl, by decide, by decide, fun ra nra => lc_range (lo := 0) (n := 3) (fun i H' => ∃ (q : Nat → Addr) (r : Nat → Rule), Dr d H1 H' ∧ H' ra = some (.lst ((List.range i).map fun j => .ref (q j))) ∧ ∀ j, j < i → (r j).ok ∧ H' (q j) = some (.tup (r j).vs)) ?_ ?_ ?_⟩
    · exact ⟨fun _ => 0, fun _ => .since 1, (Dr.refl hd).new nra, upd_same, fun j hj => absurd hj (Nat.not_lt_zero _)⟩
    · rintro i H' hi ⟨q, r, D, e, hq⟩
      have nrd : ra ≠ d := hd.ne nra
      refine ⟨rfl, _, rfl, d, rfl, D.dice, fun r1 p H2 ho D2 np hp => ?_⟩
      refine ⟨_, D2.keep _ _ nrd e, szlt (by rw [List.length_map, List.length_range]; omega), fun j => if j < i then q j else p, fun j => if j < i then r j else r1, ?_, ?_, ?_⟩
      · refine ⟨?_, fun b o nb hb => ?_⟩
        · obtain ⟨ds, h1, h2⟩ := D2.dice
          exact ⟨ds, by rw [upd_ne (Ne.symm nrd)]; exact h1, h2⟩
        · rw [upd_ne (ne_of_none hb nra)]
          exact (D.trans D2).keep b o nb hb
      · rw [upd_same]
        exact congrArg (fun l => some (HO.lst l)) (rng_put q i p).symm
      · intro j hj
        by_cases hji : j < i
        · simp only [if_pos hji]
          refine ⟨(hq j hji).1, ?_⟩
          have hne : q j ≠ ra := ne_of (hq j hji).2 e (by intro z; cases z)
          obtain ⟨ds, h1, _⟩ := D.dice
          rw [upd_ne hne]
          exact D2.keep _ _ (ne_of (hq j hji).2 h1 (by intro z; cases z)) (hq j hji).2
        · simp only [if_neg hji]
          refine ⟨ho, ?_⟩
          rw [upd_ne (Ne.symm (ne_of_none e np))]
          exact hp
    · rintro H2 ⟨q, r, D, era, hq⟩
      have nrd : ra ≠ d := hd.ne nra
      refine ⟨_, rfl, ra, rfl, ⟨_, SqL.of era⟩, fun wa nwa => lc_list (K := K) (a := ra) (xs := [V.ref (q 0), V.ref (q 1), V.ref (q 2)]) (fun i H' => ∃ x : Nat → Addr, Same H2 H' ∧ H' wa = some (.lst ((List.range i).map fun j => .ref (x j))) ∧ (∀ j, j < i → WAt K C H' (x j) (r j) (firstS (r j))) ∧ ∀ j k, j < i → k < i → x j = x k → j = k) ?_ ?_ ?_ ?_⟩
      · exact ⟨fun _ => 0, Same.newB nwa, upd_same, fun j hj => absurd hj (Nat.not_lt_zero _), fun j k hj => absurd hj (Nat.not_lt_zero _)⟩
      · rintro i H' _ ⟨x, s2, _⟩
        exact SqL.of (s2 _ _ era)
      · rintro i y H' hi ⟨x, s2, e2, hw, hj⟩
        have hi3 : i < 3 := (List.getElem?_eq_some_iff.mp hi).1
        obtain rfl : V.ref (q i) = y := Option.some.inj ((three (fun j => V.ref (q j)) hi3).symm.trans hi)
        refine ⟨rfl, _, rfl, fun p dx np ndx ne => ?_⟩
        have hwn : ∀ o, H' wa = some o → wa ≠ p := fun o h => ne_of_none h np
        refine ⟨p, q i, dx, r i, rfl, upd_same, SqT.of ?_, (hq i hi3).1, fun H3 hW kp => ⟨rfl, ?_⟩⟩
        · have h1 := s2 _ _ (hq i hi3).2
          rw [upd_ne (ne_of_none h1 np), upd_ne (ne_of_none h1 ndx)]
          exact h1
        have s3 : Same H' H3 := fun b o hb => kp b o (ne_of_none hb np) (by rw [upd_ne (ne_of_none hb np), upd_ne (ne_of_none hb ndx)]; exact hb)
        refine ⟨_, s3 _ _ e2, szlt (by rw [List.length_map, List.length_range]; omega), fun j => if j < i then x j else p, (s2.trans s3).mutB nwa, ?_, ?_, ?_⟩
        · rw [upd_same]
          exact congrArg (fun l => some (HO.lst l)) (rng_put x i p).symm
        · have up : ∀ b o, (∀ xs, o ≠ .lst xs) → H3 b = some o → (upd H3 wa (.lst ((List.range i).map (fun j => .ref (x j)) ++ [.ref p]))) b = some o := fun b o n hb => by
            rw [upd_ne (ne_of hb (s3 _ _ e2) (n _))]
            exact hb
          intro j hj1
          by_cases hji : j < i
          · simp only [if_pos hji]
            exact ((hw j hji).same s3).keep up
          · obtain rfl : j = i := by omega
            simp only [if_neg hji]
            exact hW.keep up
        · intro j k hj1 hk1
          have fresh : ∀ j, j < i → x j ≠ p := fun j hji => by
            obtain ⟨dx', q', t', h1, _⟩ := (hw j hji).ex
            exact ne_of_none h1 np
          by_cases hji : j < i
          · by_cases hki : k < i
            · simp only [if_pos hji, if_pos hki]
              exact hj j k hji hki
            · simp only [if_pos hji, if_neg hki]
              exact fun e => absurd e (fresh j hji)
          · by_cases hki : k < i
            · simp only [if_neg hji, if_pos hki]
              exact fun e => absurd e.symm (fresh k hki)
            · intro _
              omega
      · rintro H3 ⟨x, s2, ewa, hw, hj⟩
        have D3 : Dr d H1 H3 := D.same s2
        have nwd : wa ≠ d := D.dice.ne nwa
        refine ⟨szle (Nat.le_of_ble_eq_true rfl), fun l0 n0 => ⟨szle (Nat.le_of_ble_eq_true rfl), fun l1 n1 => ⟨szle (Nat.le_of_ble_eq_true rfl), fun l2 n2 => ⟨szle (Nat.le_of_ble_eq_true rfl), fun ha nh => ?_⟩⟩⟩⟩
        have t0 := Same.newB (o := .lst []) n0
        have t1 := t0.moreB (o := .lst []) n1
        have t2 := t1.moreB (o := .lst []) n2
        have t3 := t2.moreB (o := .lst [.ref l0, .ref l1, .ref l2]) nh
        have w0 : W3 K C d ra wa ha q x (fun j => if j = 0 then l0 else if j = 1 then l1 else l2) r (fun _ => []) 0 (upd (upd (upd (upd H3 l0 (.lst [])) l1 (.lst [])) l2 (.lst [])) ha (.lst [.ref l0, .ref l1, .ref l2])) := by
          have t01 := Same.newB (o := .lst []) n1
          have t12 := Same.newB (o := .lst []) n2
          have t23 := Same.newB (o := .lst [.ref l0, .ref l1, .ref l2]) nh
          have e0 : (upd H3 l0 (.lst [])) l0 = some (.lst []) := upd_same
          have e1 : (upd (upd H3 l0 (.lst [])) l1 (.lst [])) l1 = some (.lst []) := upd_same
          have e2 : (upd (upd (upd H3 l0 (.lst [])) l1 (.lst [])) l2 (.lst [])) l2 = some (.lst []) := upd_same
          have m1 : H3 l1 = none := t0.free n1
          have m2 : H3 l2 = none := t1.free n2
          have d01 : l0 ≠ l1 := ne_of_none e0 n1
          have d02 : l0 ≠ l2 := ne_of_none (t01 _ _ e0) n2
          have d12 : l1 ≠ l2 := ne_of_none e1 n2
          have era3 := s2 _ _ era
          have a0 : l0 ≠ ha := ne_of_none (t12 _ _ (t01 _ _ e0)) nh
          have a1 : l1 ≠ ha := ne_of_none (t12 _ _ e1) nh
          have a2 : l2 ≠ ha := ne_of_none e2 nh
          refine ⟨D3.dice.same t3, t3 _ _ era3, t3 _ _ ewa, upd_same, fun j hj3 => ⟨(hq j hj3).1, t3 _ _ (s2 _ _ (hq j hj3).2)⟩, fun j hj3 => (hw j hj3).same t3, ?_, hj, ?_, ?_, ⟨nrd, nwd, D3.dice.ne (t2.free nh)⟩⟩
          · intro j hj3
            refine ⟨?_, Nat.le_refl _⟩
            match j, hj3 with
            | 0, _ => exact t23 _ _ (t12 _ _ (t01 _ _ e0))
            | 1, _ => exact t23 _ _ (t12 _ _ e1)
            | 2, _ => exact t23 _ _ e2
          · intro j k hj3 hk3
            match j, k, hj3, hk3 with
            | 0, 0, _, _ => exact fun _ => rfl
            | 0, 1, _, _ => exact fun e => absurd e d01
            | 0, 2, _, _ => exact fun e => absurd e d02
            | 1, 0, _, _ => exact fun e => absurd e.symm d01
            | 1, 1, _, _ => exact fun _ => rfl
            | 1, 2, _, _ => exact fun e => absurd e d12
            | 2, 0, _, _ => exact fun e => absurd e.symm d02
            | 2, 1, _, _ => exact fun e => absurd e.symm d12
            | 2, 2, _, _ => exact fun _ => rfl
          · intro j hj3
            match j, hj3 with
            | 0, _ => exact ⟨D3.dice.ne n0, (ne_of_none era3 n0).symm, (ne_of_none ewa n0).symm, a0⟩
            | 1, _ => exact ⟨D3.dice.ne m1, (ne_of_none era3 m1).symm, (ne_of_none ewa m1).symm, a1⟩
            | 2, _ => exact ⟨D3.dice.ne m2, (ne_of_none era3 m2).symm, (ne_of_none ewa m2).symm, a2⟩
        generalize (fun j => if j = 0 then l0 else if j = 1 then l1 else l2) = l at w0
        revert w0
        generalize (upd (upd (upd (upd H3 l0 (.lst [])) l1 (.lst [])) l2 (.lst [])) ha (.lst [.ref l0, .ref l1, .ref l2])) = G
        intro w0
        refine ⟨_, rfl, d, 6, rfl, w0.dice, by decide, by decide, fun o1 H4 a1 b1 D4 => ⟨_, _, rfl, rfl, ?_⟩⟩
        have w1 := w0.dr D4
        refine ⟨_, rfl, szle (Nat.le_of_ble_eq_true rfl), fun li nli => ⟨_, rfl, d, 6, rfl, (w1.same (Same.newB nli)).dice, by decide, by decide, fun o2 H5 a2 b2 D5 => ⟨rfl, Or.inr ⟨_, rfl, ?_⟩⟩⟩⟩
        have w2 := (w1.same (Same.newB nli)).dr D5
        have eli : H5 li = some (.lst [.int 61, .int 301]) := D5.keep _ _ (w1.dice.ne nli) upd_same
        obtain ⟨v, hv1, hv2, hv3⟩ : ∃ v : Int, atI [V.int 61, V.int 301] (if decide (V.int o2 = V.int 0) then 1 else 0) = some (.int v) ∧ 0 < v ∧ v < 1000 := by
          by_cases h : V.int o2 = V.int 0
          · rw [decide_eq_true h]
            exact ⟨301, rfl, by decide, by decide⟩
          · rw [decide_eq_false h]
            exact ⟨61, rfl, by decide, by decide⟩
        refine ⟨li, _, _, .int v, rfl, rfl, SqL.of eli, hv1, d, v, rfl, w2.dice, hv2, by omega, fun o3 H6 a3 b3 D6 => ⟨o3, rfl, by omega, by omega, ?_⟩⟩
        have w3 := w2.dr D6
        refine for_range (lo := 0) (n := o3.toNat) (fun i σ H' => ∃ (hs : Nat → List Int) (v3 v5 v8 v9 : Option V), σ = [some (.ref a), some (.ref d), some (.ref ra), v3, some (.ref wa), v5, some (.ref ha), some (.int (1 + o1)), v8, v9] ∧ W3 K C d ra wa ha q x l r hs i H') ?_ ?_ ?_
        · exact ⟨_, _, _, _, _, rfl, w3⟩
        · rintro i σ H7 hi ⟨hs, v3, v5, v8, v9, rfl, w7⟩
          refine ⟨_, rfl, d, 3, rfl, w7.dice, by decide, by decide, fun kk H8 a4 b4 D8 => ?_⟩
          have w8 := w7.dr D8
          refine ⟨_, rfl, d, 10, rfl, w8.dice, by decide, by decide, fun m H9 a5 b5 D9 => ?_⟩
          have w9 := w8.dr D9
          refine ⟨_, rfl, _, rfl, d, 1 + o1, rfl, w9.dice, by omega, by omega, fun o H10 a6 b6 D10 => ⟨rfl, Or.inr ⟨_, rfl, _, _, rfl, rfl, Or.inl ⟨by omega, by omega⟩, ?_⟩⟩⟩
          have w10 := w9.dr D10
          dsimp only
          generalize (m * if decide (V.int o = V.int 0) = true then 1 else 0) = M
          obtain ⟨kn, rfl⟩ : ∃ kn : Nat, kk = (kn : Int) := ⟨kk.toNat, by omega⟩
          have hk3 : kn < 3 := by omega
          have hlk := w10.lst kn hk3
          obtain ⟨hok, hqk⟩ := w10.rule kn hk3
          have hsz : (hs kn).length ≤ 1000 := by omega
          -- heard[k].append(many)
          refine ⟨_, rfl, _, rfl, ha, _, _, .ref (l kn), rfl, rfl, SqL.of w10.hha, atI_nat (three (fun j => V.ref (l j)) hk3), Or.inl ⟨rfl, _, SqL.of hlk.1⟩, _, rfl, l kn, _, _, rfl, rfl, hlk.1, szlt (by rw [List.length_map]; omega), ?_⟩
          have el : (hs kn).map V.int ++ [V.int M] = (hs kn ++ [M]).map V.int := by rw [List.map_append]; rfl
          rw [el]
          have up : ∀ b o, b ≠ l kn → H10 b = some o → (upd H10 (l kn) (.lst ((hs kn ++ [M]).map V.int))) b = some o := fun b o nb hb => by rw [upd_ne nb]; exact hb
          have upn : ∀ b o, (∀ xs, o ≠ .lst xs) → H10 b = some o → (upd H10 (l kn) (.lst ((hs kn ++ [M]).map V.int))) b = some o := fun b o no hb => up b o (ne_of hb hlk.1 (no _)) hb
          have hlk' : (upd H10 (l kn) (.lst ((hs kn ++ [M]).map V.int))) (l kn) = some (.lst ((hs kn ++ [M]).map V.int)) := upd_same
          have sp := w10.sep kn hk3
          revert up upn hlk'
          generalize (upd H10 (l kn) (.lst ((hs kn ++ [M]).map V.int))) = H11
          intro up upn hlk'
          have hwk := (w10.wat kn hk3).keep upn
          obtain ⟨dx, q', t', hx1, _⟩ := hwk.ex
          -- watchers[k].hear(many)
          refine ⟨_, rfl, _, rfl, wa, _, _, .ref (x kn), rfl, rfl, SqL.of (up _ _ sp.2.2.1.symm w10.hwa), atI_nat (three (fun j => V.ref (x j)) hk3), x kn, dx, _, rfl, hx1, wF_no _ _ (by decide +kernel) (by decide +kernel), _, rfl, x kn, M, r kn, _, rfl, hwk, hok, stOk_of _ _, fun H12 hW kp => ?_⟩
          have up2 : ∀ b o, b ≠ l kn → (∀ C dx fs, o ≠ .ins C dx fs) → H10 b = some o → H12 b = some o := fun b o nb no hb => by
            have h1 := up b o nb hb
            exact kp b o (ne_of h1 hx1 (no _ _ _)) h1
          have hra2 := up2 _ _ sp.2.1.symm (by intro _ _ _ z; cases z) w10.hra
          have hha2 := up2 _ _ sp.2.2.2.symm (by intro _ _ _ z; cases z) w10.hha
          have hl2 : H12 (l kn) = some (.lst ((hs kn ++ [M]).map V.int)) := kp _ _ (ne_of hlk' hx1 (by intro z; cases z)) hlk'
          have hq2 : ∀ j, j < 3 → H12 (q j) = some (.tup (r j).vs) := fun j hj3 => up2 _ _ (ne_of (w10.rule j hj3).2 hlk.1 (by intro z; cases z)) (by intro _ _ _ z; cases z) (w10.rule j hj3).2
          -- _law_gone(rules[k], heard[k])
          refine ⟨_, rfl, _, rfl, ra, _, _, .ref (q kn), rfl, rfl, SqL.of hra2, atI_nat (three (fun j => V.ref (q j)) hk3), _, rfl, _, rfl, ha, _, _, .ref (l kn), rfl, rfl, SqL.of hha2, atI_nat (three (fun j => V.ref (l j)) hk3), q kn, l kn, r kn, hs kn ++ [M], rfl, SqT.of (hq2 kn hk3), hok, SqL.of hl2, by rw [List.length_append]; simp; omega, fun H13 s13 => ?_⟩
          have eg : goneS (r kn) (nextS (r kn) (stOf (r kn) (hs kn)) M) = goneH (r kn) (hs kn ++ [M]) := by rw [← stOf_snoc, gone_is _ hok]
          rw [eg]
          refine ⟨_, _, .bool (goneH (r kn) (hs kn ++ [M])), rfl, .bl _, .bl _, .bool _ _, fun H14 s14 => ⟨_, rfl, iteF ?_⟩⟩
          have w12 : W3 K C d ra wa ha q x l r (fun j => if j = kn then hs j ++ [M] else hs j) (i + 1) H12 := by
            refine ⟨?_, hra2, ?_, hha2, fun j hj3 => ⟨(w10.rule j hj3).1, hq2 j hj3⟩, ?_, ?_, w10.xinj, w10.linj, w10.sep, w10.sepd⟩
            · obtain ⟨ds, hd1, hd2⟩ := w10.dice
              exact ⟨ds, up2 _ _ sp.1.symm (by intro _ _ _ z; cases z) hd1, hd2⟩
            · exact up2 _ _ sp.2.2.1.symm (by intro _ _ _ z; cases z) w10.hwa
            · intro j hj3
              by_cases hjk : j = kn
              · subst hjk
                simp only [if_true]
                rw [stOf_snoc]
                exact hW
              · simp only [if_neg hjk]
                have hne : x j ≠ x kn := fun e => hjk (w10.xinj _ _ hj3 hk3 e)
                refine (w10.wat j hj3).keepT (fun o ho => ?_) (fun b o n1 n2 hb => ?_)
                · obtain ⟨dx', q'', t'', hx2, _⟩ := (w10.wat j hj3).ex
                  exact kp _ _ hne (up _ _ (ne_of hx2 hlk.1 (by intro z; cases z)) ho)
                · exact up2 _ _ (ne_of hb hlk.1 (n1 _)) n2 hb
            · intro j hj3
              by_cases hjk : j = kn
              · subst hjk
                simp only [if_true]
                exact ⟨hl2, by rw [List.length_append]; simp; omega⟩
              · simp only [if_neg hjk]
                have hlj := w10.lst j hj3
                exact ⟨up2 _ _ (fun e => hjk (w10.linj _ _ hj3 hk3 e)) (by intro _ _ _ z; cases z) hlj.1, by omega⟩
          exact ⟨_, _, _, _, _, rfl, w12.same (s13.trans s14)⟩
        · rintro σ H7 ⟨hs, v3, v5, v8, v9, rfl, w7⟩
          exact k H7
end
end Bw
set_option Elab.async false
set_option linter.all false
set_option maxRecDepth 100000
set_option maxHeartbeats 0
namespace Bw
open PySem PySem.Spec PyProof.Rows L2
def d_is_rule : He.DefD := ⟨("is_rule", none), "is_rule", "is_rule", defArgs s_is_rule, defBody s_is_rule, defScope s_is_rule, [], []⟩
def d_need_rule : He.DefD := ⟨("need_rule", none), "need_rule", "need_rule", defArgs s_need_rule, defBody s_need_rule, defScope s_need_rule, [], []⟩
def d_next_state : He.DefD := ⟨("next_state", none), "next_state", "next_state", defArgs s_next_state, defBody s_next_state, defScope s_next_state, [], []⟩
def d_first_state : He.DefD := ⟨("first_state", none), "first_state", "first_state", defArgs s_first_state, defBody s_first_state, defScope s_first_state, [], []⟩
def d_is_gone : He.DefD := ⟨("is_gone", none), "is_gone", "is_gone", defArgs s_is_gone, defBody s_is_gone, defScope s_is_gone, [], []⟩
def d_Watcher___init__ : He.DefD := ⟨("Watcher", some "__init__"), "__init__", "Watcher.__init__", defArgs s_Watcher___init__, defBody s_Watcher___init__, defScope s_Watcher___init__, [], []⟩
def d_Watcher_hear : He.DefD := ⟨("Watcher", some "hear"), "hear", "Watcher.hear", defArgs s_Watcher_hear, defBody s_Watcher_hear, defScope s_Watcher_hear, [], []⟩
def d__law_dice : He.DefD := ⟨("_law_dice", none), "_law_dice", "_law_dice", defArgs s__law_dice, defBody s__law_dice, defScope s__law_dice, [], []⟩
def d__law_off : He.DefD := ⟨("_law_off", none), "_law_off", "_law_off", defArgs s__law_off, defBody s__law_off, defScope s__law_off, [], []⟩
def d__law_alike : He.DefD := ⟨("_law_alike", none), "_law_alike", "_law_alike", defArgs s__law_alike, defBody s__law_alike, defScope s__law_alike, [], []⟩
def d__law_rule : He.DefD := ⟨("_law_rule", none), "_law_rule", "_law_rule", defArgs s__law_rule, defBody s__law_rule, defScope s__law_rule, [], []⟩
def d__law_gone : He.DefD := ⟨("_law_gone", none), "_law_gone", "_law_gone", defArgs s__law_gone, defBody s__law_gone, defScope s__law_gone, [], []⟩
def d_law : He.DefD := ⟨("law", none), "law", "law", defArgs s_law, defBody s_law, defScope s_law, [], []⟩
def fn : List He.DefD := [d_is_rule, d_need_rule, d_next_state, d_first_state, d_is_gone, d_Watcher___init__, d_Watcher_hear, d__law_dice, d__law_off, d__law_alike, d__law_rule, d__law_gone, d_law]
def fa : List He.Fa := [.free "len", .free "min", .free "sum", .free "abs", .free "isinstance", .free "bool", .free "int", .free "str", .free "tuple", .free "list", .free "all", .free "range", .int "MOST_SILENT" 12, .int "MOST_WIDE" 5, .int "MOST_MANY" 3, .glo "is_rule", .glo "need_rule", .glo "next_state", .glo "first_state", .glo "is_gone", .glo "_law_dice", .glo "_law_off", .glo "_law_alike", .glo "_law_rule", .glo "_law_gone", .glo "law", .glo "Watcher", .cls "Watcher", .mkr "Watcher", .noat "Watcher" "rule", .noat "Watcher" "kept", .meth "Watcher" "hear"]
abbrev R : PySem.W.OpenRow := PySem.W.OpenLaw.row PySem.Challenge.rw_beatwatch_k03_watchers
abbrev hk : PySem.W.Hook := He.hookD 5 fa fn
def ob (s : PySem.W.SharedT) : He.AlD := He.obsDG 5 fa fn (HandSHeadRun.getT s)
theorem ob_eq (s : PySem.W.SharedT) : ob s = hk.obs s.abs := He.obsDG_eq (HandSHeadRun.getT_eq s)
def loose : List Str := ["BeatError", "BadRule", "MOST_SILENT", "MOST_WIDE", "MOST_MANY", "is_rule", "need_rule", "next_state", "first_state", "is_gone", "Watcher", "_law_dice", "_law_off", "_law_alike", "_law_rule", "_law_gone"]
theorem run (w : World) : HandSHeadRun.RunEq R (PySem.W.view R.prog [19]) hk ob 20000 loose w := by
  intro os
  kernel_rfl
theorem facts {P : Program} {w : World} {K : PySem.W.Frag} {h : Heap} {mg : Str → Option Value} {f : Addr} (X : K.In h) (G : h.Ns mainGlobals mg) (hfa : mg ("law" : Str) = some (.ref f)) (c : He.SaysD fa fn K) :
    ∃ fd : FuncData, (∀ (s : Shared) (v : Value), BindsTo s fd ⟨[v], []⟩ [("_law_script", v)]) ∧ ∀ base : Heap, K.In base → base.Ns mainGlobals mg → FnOk P w K mg base CX0 5 f fd ["_law_script"] (spLaw K) := by
  have g_len : mg "len" = none := He.free_ok X G (c.fact 0 (f := .free "len") rfl)
  have g_min : mg "min" = none := He.free_ok X G (c.fact 1 (f := .free "min") rfl)
  have g_sum : mg "sum" = none := He.free_ok X G (c.fact 2 (f := .free "sum") rfl)
  have g_abs : mg "abs" = none := He.free_ok X G (c.fact 3 (f := .free "abs") rfl)
  have g_isinstance : mg "isinstance" = none := He.free_ok X G (c.fact 4 (f := .free "isinstance") rfl)
  have g_bool : mg "bool" = none := He.free_ok X G (c.fact 5 (f := .free "bool") rfl)
  have g_int : mg "int" = none := He.free_ok X G (c.fact 6 (f := .free "int") rfl)
  have g_str : mg "str" = none := He.free_ok X G (c.fact 7 (f := .free "str") rfl)
  have g_tuple : mg "tuple" = none := He.free_ok X G (c.fact 8 (f := .free "tuple") rfl)
  have g_list : mg "list" = none := He.free_ok X G (c.fact 9 (f := .free "list") rfl)
  have g_all : mg "all" = none := He.free_ok X G (c.fact 10 (f := .free "all") rfl)
  have g_range : mg "range" = none := He.free_ok X G (c.fact 11 (f := .free "range") rfl)
  obtain ⟨t_MOST_SILENT, g_MOST_SILENT⟩ := He.int_ok X G (c.fact 12 (f := .int "MOST_SILENT" 12) rfl)
  obtain ⟨t_MOST_WIDE, g_MOST_WIDE⟩ := He.int_ok X G (c.fact 13 (f := .int "MOST_WIDE" 5) rfl)
  obtain ⟨t_MOST_MANY, g_MOST_MANY⟩ := He.int_ok X G (c.fact 14 (f := .int "MOST_MANY" 3) rfl)
  have g_is_rule : mg "is_rule" = some (.ref (He.ga K "is_rule")) := He.glo_ok X G (c.fact 15 (f := .glo "is_rule") rfl)
  have g_need_rule : mg "need_rule" = some (.ref (He.ga K "need_rule")) := He.glo_ok X G (c.fact 16 (f := .glo "need_rule") rfl)
  have g_next_state : mg "next_state" = some (.ref (He.ga K "next_state")) := He.glo_ok X G (c.fact 17 (f := .glo "next_state") rfl)
  have g_first_state : mg "first_state" = some (.ref (He.ga K "first_state")) := He.glo_ok X G (c.fact 18 (f := .glo "first_state") rfl)
  have g_is_gone : mg "is_gone" = some (.ref (He.ga K "is_gone")) := He.glo_ok X G (c.fact 19 (f := .glo "is_gone") rfl)
  have g__law_dice : mg "_law_dice" = some (.ref (He.ga K "_law_dice")) := He.glo_ok X G (c.fact 20 (f := .glo "_law_dice") rfl)
  have g__law_off : mg "_law_off" = some (.ref (He.ga K "_law_off")) := He.glo_ok X G (c.fact 21 (f := .glo "_law_off") rfl)
  have g__law_alike : mg "_law_alike" = some (.ref (He.ga K "_law_alike")) := He.glo_ok X G (c.fact 22 (f := .glo "_law_alike") rfl)
  have g__law_rule : mg "_law_rule" = some (.ref (He.ga K "_law_rule")) := He.glo_ok X G (c.fact 23 (f := .glo "_law_rule") rfl)
  have g__law_gone : mg "_law_gone" = some (.ref (He.ga K "_law_gone")) := He.glo_ok X G (c.fact 24 (f := .glo "_law_gone") rfl)
  have g_law : mg "law" = some (.ref (He.ga K "law")) := He.glo_ok X G (c.fact 25 (f := .glo "law") rfl)
  have g_Watcher : mg "Watcher" = some (.ref (He.ga K "Watcher")) := He.glo_ok X G (c.fact 26 (f := .glo "Watcher") rfl)
  have cl_Watcher : Cls K (He.ga K "Watcher") := He.cls_ok (c.fact 27 (f := .cls "Watcher") rfl)
  have mk_Watcher := He.mkr_ok (c.fact 28 (f := .mkr "Watcher") rfl)
  have na_Watcher_rule := He.noat_ok (c.fact 29 (f := .noat "Watcher" "rule") rfl)
  have na_Watcher_kept := He.noat_ok (c.fact 30 (f := .noat "Watcher" "kept") rfl)
  have me_Watcher_hear := He.meth_ok (c.fact 31 (f := .meth "Watcher" "hear") rfl)
  obtain ⟨fd_is_rule, F_is_rule⟩ := c.def_ 0 (d := d_is_rule) rfl
  have b_is_rule : Binds K fd_is_rule ["rule"] [] := FunD.bindsN (ps := ["rule"]) F_is_rule fun _ _ _ _ _ _ us hl => match us, hl with | [_], _ => rfl
  obtain ⟨fd_need_rule, F_need_rule⟩ := c.def_ 1 (d := d_need_rule) rfl
  have b_need_rule : Binds K fd_need_rule ["rule"] [] := FunD.bindsN (ps := ["rule"]) F_need_rule fun _ _ _ _ _ _ us hl => match us, hl with | [_], _ => rfl
  obtain ⟨fd_next_state, F_next_state⟩ := c.def_ 2 (d := d_next_state) rfl
  have b_next_state : Binds K fd_next_state ["rule", "state", "many"] [] := FunD.bindsN (ps := ["rule", "state", "many"]) F_next_state fun _ _ _ _ _ _ us hl => match us, hl with | [_, _, _], _ => rfl
  obtain ⟨fd_first_state, F_first_state⟩ := c.def_ 3 (d := d_first_state) rfl
  have b_first_state : Binds K fd_first_state ["rule"] [] := FunD.bindsN (ps := ["rule"]) F_first_state fun _ _ _ _ _ _ us hl => match us, hl with | [_], _ => rfl
  obtain ⟨fd_is_gone, F_is_gone⟩ := c.def_ 4 (d := d_is_gone) rfl
  have b_is_gone : Binds K fd_is_gone ["rule", "state"] [] := FunD.bindsN (ps := ["rule", "state"]) F_is_gone fun _ _ _ _ _ _ us hl => match us, hl with | [_, _], _ => rfl
  obtain ⟨fd_Watcher___init__, F_Watcher___init__⟩ := c.def_ 5 (d := d_Watcher___init__) rfl
  have b_Watcher___init__ : Binds K fd_Watcher___init__ ["self", "rule"] [] := FunD.bindsN (ps := ["self", "rule"]) F_Watcher___init__ fun _ _ _ _ _ _ us hl => match us, hl with | [_, _], _ => rfl
  obtain ⟨fd_Watcher_hear, F_Watcher_hear⟩ := c.def_ 6 (d := d_Watcher_hear) rfl
  have b_Watcher_hear : Binds K fd_Watcher_hear ["self", "many"] [] := FunD.bindsN (ps := ["self", "many"]) F_Watcher_hear fun _ _ _ _ _ _ us hl => match us, hl with | [_, _], _ => rfl
  obtain ⟨fd__law_dice, F__law_dice⟩ := c.def_ 7 (d := d__law_dice) rfl
  have b__law_dice : Binds K fd__law_dice ["_law_script", "_law_k"] [] := FunD.bindsN (ps := ["_law_script", "_law_k"]) F__law_dice fun _ _ _ _ _ _ us hl => match us, hl with | [_, _], _ => rfl
  obtain ⟨fd__law_off, F__law_off⟩ := c.def_ 8 (d := d__law_off) rfl
  have b__law_off : Binds K fd__law_off ["_law_d", "_law_most"] [] := FunD.bindsN (ps := ["_law_d", "_law_most"]) F__law_off fun _ _ _ _ _ _ us hl => match us, hl with | [_, _], _ => rfl
  obtain ⟨fd__law_alike, F__law_alike⟩ := c.def_ 9 (d := d__law_alike) rfl
  have b__law_alike : Binds K fd__law_alike ["_law_found", "_law_due"] [] := FunD.bindsN (ps := ["_law_found", "_law_due"]) F__law_alike fun _ _ _ _ _ _ us hl => match us, hl with | [_, _], _ => rfl
  obtain ⟨fd__law_rule, F__law_rule⟩ := c.def_ 10 (d := d__law_rule) rfl
  have b__law_rule : Binds K fd__law_rule ["_law_d"] [] := FunD.bindsN (ps := ["_law_d"]) F__law_rule fun _ _ _ _ _ _ us hl => match us, hl with | [_], _ => rfl
  obtain ⟨fd__law_gone, F__law_gone⟩ := c.def_ 11 (d := d__law_gone) rfl
  have b__law_gone : Binds K fd__law_gone ["_law_rule_here", "_law_heard"] [] := FunD.bindsN (ps := ["_law_rule_here", "_law_heard"]) F__law_gone fun _ _ _ _ _ _ us hl => match us, hl with | [_, _], _ => rfl
  obtain ⟨fd_law, F_law⟩ := c.def_ 12 (d := d_law) rfl
  have b_law : Binds K fd_law ["_law_script"] [] := FunD.bindsN (ps := ["_law_script"]) F_law fun _ _ _ _ _ _ us hl => match us, hl with | [_], _ => rfl
  cases hfa.symm.trans g_law
  have b := FunD.bindsA (ps := ["_law_script"]) F_law fun _ _ _ _ _ _ us hl => match us, hl with | [_], _ => rfl
  refine ⟨fd_law, fun s v => b s [v] rfl, fun base _ _ => ?_⟩
  have h__law_off : Has P w K mg base 1 "_law_off" ["_law_d", "_law_most"] spOff := ⟨_, _, g__law_off, F__law_off.kp, b__law_off, ok__law_off F__law_off g_len⟩
  have h__law_dice : Has P w K mg base 1 "_law_dice" ["_law_script", "_law_k"] (spDice K) := ⟨_, _, g__law_dice, F__law_dice.kp, b__law_dice, ok__law_dice F__law_dice g_abs⟩
  have h__law_rule : Has P w K mg base 2 "_law_rule" ["_law_d"] spRule := ⟨_, _, g__law_rule, F__law_rule.kp, b__law_rule, ok__law_rule F__law_rule h__law_off⟩
  have h__law_alike : Has P w K mg base 1 "_law_alike" ["_law_found", "_law_due"] (spAlike K 0) := ⟨_, _, g__law_alike, F__law_alike.kp, b__law_alike, ok__law_alike F__law_alike b__law_alike g__law_alike g_isinstance g_bool g_int g_str g_tuple g_list g_len g_all g_range 1⟩
  have h__law_gone : Has P w K mg base 1 "_law_gone" ["_law_rule_here", "_law_heard"] (spLGone K) := ⟨_, _, g__law_gone, F__law_gone.kp, b__law_gone, ok__law_gone F__law_gone g_len g_sum⟩
  have h_is_rule : Has P w K mg base 1 "is_rule" ["rule"] (spIsRule K) := ⟨_, _, g_is_rule, F_is_rule.kp, b_is_rule, ok_is_rule F_is_rule g_len g_MOST_SILENT g_MOST_WIDE g_MOST_MANY⟩
  have h_need_rule : Has P w K mg base 2 "need_rule" ["rule"] (spNeedRule K) := ⟨_, _, g_need_rule, F_need_rule.kp, b_need_rule, ok_need_rule F_need_rule h_is_rule⟩
  have h_first_state : Has P w K mg base 1 "first_state" ["rule"] (spFirst K) := ⟨_, _, g_first_state, F_first_state.kp, b_first_state, ok_first_state F_first_state⟩
  have h_next_state : Has P w K mg base 1 "next_state" ["rule", "state", "many"] (spNext K) := ⟨_, _, g_next_state, F_next_state.kp, b_next_state, ok_next_state F_next_state g_min⟩
  have h_is_gone : Has P w K mg base 1 "is_gone" ["rule", "state"] (spGone K) := ⟨_, _, g_is_gone, F_is_gone.kp, b_is_gone, ok_is_gone F_is_gone g_len g_sum⟩
  have T : WTxt K (He.ga K "Watcher") := ⟨cl_Watcher, na_Watcher_rule, na_Watcher_kept⟩
  have h_Watcher : HasC P w K mg base 3 "Watcher" (He.ga K "Watcher") ["self", "rule"] (spWInit K (He.ga K "Watcher")) := ⟨_, _, mk_Watcher, g_Watcher, b_Watcher___init__, ok_Watcher___init__ F_Watcher___init__ T h_need_rule h_first_state⟩
  have h_Watcher_hear : HasM P w K mg base 2 (He.ga K "Watcher") "hear" ["self", "many"] (spHear K (He.ga K "Watcher")) := ⟨_, _, cl_Watcher, me_Watcher_hear, b_Watcher_hear, ok_Watcher_hear F_Watcher_hear T h_next_state h_is_gone⟩
  exact ok_law F_law g_range g_int h__law_dice h__law_off h__law_rule h__law_alike h__law_gone h_Watcher h_Watcher_hear
end Bw
open PySem PySem.W PySem.Calls PyProof.Rows
set_option maxRecDepth 100000 in
set_option maxHeartbeats 0 in
theorem PySem.Challenge.cw_beatwatch_k03_watchers_holds : PySem.Challenge.rw_beatwatch_k03_watchers.Holds := by
  w_on; o_law
  refine HandSHeadRun.head_any (r := OpenLaw.row PySem.Challenge.rw_beatwatch_k03_watchers) (q := view (OpenLaw.row PySem.Challenge.rw_beatwatch_k03_watchers).prog [19]) (H := Bw.hk) (ob := Bw.ob) (M := 20000) (loose := Bw.loose) (d := HandSHeadRun.topDef (OpenLaw.row PySem.Challenge.rw_beatwatch_k03_watchers).prog 19) (kwd := []) Bw.ob_eq
    (by kernel_rfl) (fun s => by kernel_rfl) Bw.run (by kernel_rfl) (by kernel_rfl) (by kernel_rfl) (by rfl) (by first | assumption | decide +kernel) (by decide +kernel) ⟨rfl, rfl, rfl, rfl, rfl, by decide +kernel⟩ ?hw ?hc
  case hw => w_witness2
  case hc =>
    refine L2.walk_ofE (l := PySem.Challenge.rw_beatwatch_k03_watchers) (n := 63) (k := 5) (x := "_law_script") (CX := L2.CX0) rfl (by decide) (by kernel_rfl) ⟨rfl, by decide, by decide⟩ ?F (fun _ _ _ _ z => z)
    intro w mg fa h Y G hmg0
    obtain ⟨K, KX, c⟩ := Y
    have hmg : mg ("law" : PySem.Str) = some (.ref fa) := by
      have e : (HandSHeadRun.topDef (OpenLaw.row PySem.Challenge.rw_beatwatch_k03_watchers).prog 19).name = ("law" : PySem.Str) := by kernel_rfl
      rw [← e]
      exact hmg0
    obtain ⟨fd, hb, hF⟩ := Bw.facts (P := (PySem.Challenge.rw_beatwatch_k03_watchers).prog) (w := w) KX G hmg c
    exact ⟨K, fd, Bw.spLaw K, KX, hb, fun H a ns hl _ hS => ⟨a, ns, rfl, hS, hl, fun _ => rfl⟩, hF⟩

