import PyProof.Rows.All
import Wide.All
import OpenK.AllK
import Wide.FinOn
import HandS.ForMost
import HandS.IsInst
import HandS.Style
import HandS.Wide
import PySem.Challenge.RW_turnedtrees_k08_whole_weights
set_option Elab.async false
set_option linter.all false
set_option maxRecDepth 100000
set_option maxHeartbeats 4000000
section
open PySem PySem.W PyProof.Rows
open_top wkHead for PySem.Challenge.rw_turnedtrees_k08_whole_weights
end
/-! The mathematics: trees, what the program's defs and the law's defs reckon, and that both agree over all kept shapes of the keys 1 to 6. -/
namespace Wt

inductive Tr where
  | nil
  | node (l : Tr) (k : Int) (r : Tr)
  deriving DecidableEq

def Tr.size : Tr → Int
  | .nil => 0
  | .node l _ r => l.size + 1 + r.size
def Tr.keys : Tr → List Int
  | .nil => []
  | .node l k r => l.keys ++ [k] ++ r.keys
def Tr.ht : Tr → Nat
  | .nil => 0
  | .node l _ r => max l.ht r.ht + 1
def Tr.isNil : Tr → Bool
  | .nil => true
  | .node _ _ _ => false
def btw : Tr → Int → Int → Bool
  | .nil, _, _ => true
  | .node l k r, lo, hi => (decide (lo ≤ k) && decide (k ≤ hi)) && (btw l lo (k - 1) && btw r (k + 1) hi)

/-! the program's defs -/
def leftUp : Tr → Option Tr
  | .node (.node a k b) p c => some (.node a k (.node b p c))
  | _ => none
def rightUp : Tr → Option Tr
  | .node a p (.node b k c) => some (.node (.node a p b) k c)
  | _ => none
def greater (a b : Tr) : Bool := decide (a.size + 1 > 3 * (b.size + 1))
def inner (a b : Tr) : Bool := decide (a.size + 1 ≥ 2 * (b.size + 1))
def setR : Tr → Option Tr
  | .nil => none
  | .node l t r =>
    if (Tr.node l t r).size > 8 then none
    else if greater l r = true then
      match l with
      | .nil => none
      | .node ll lt lr =>
        if inner lr ll = true then (rightUp (.node ll lt lr)).bind fun l' => leftUp (.node l' t r)
        else leftUp (.node (.node ll lt lr) t r)
    else if greater r l = true then
      match r with
      | .nil => none
      | .node rl rt rr =>
        if inner rl rr = true then (leftUp (.node rl rt rr)).bind fun r' => rightUp (.node l t r')
        else rightUp (.node l t (.node rl rt rr))
    else some (.node l t r)
def putR : Tr → Int → Option Tr
  | .nil, k => some (.node .nil k .nil)
  | .node l t r, k =>
    if k < t then (putR l k).bind fun l' => setR (.node l' t r)
    else (putR r k).bind fun r' => setR (.node l t r')
def least : Tr → Option Int
  | .nil => none
  | .node .nil k _ => some k
  | .node (.node a b c) _ _ => least (.node a b c)
def takeR : Tr → Int → Option Tr
  | .nil, _ => none
  | .node l t r, k =>
    if k < t then (takeR l k).bind fun l' => setR (.node l' t r)
    else if k > t then (takeR r k).bind fun r' => setR (.node l t r')
    else if (l.isNil || r.isNil) = true then some (if r.isNil = true then l else r)
    else (least r).bind fun n => (takeR r n).bind fun r' => setR (.node l n r')
def parts : Tr → List Tr
  | .nil => []
  | .node l k r => [.node l k r] ++ parts l ++ parts r
def okPart : Tr → Bool
  | .nil => true
  | .node a _ b => !(greater a b || greater b a)
def areR (t : Tr) : Bool := (parts t).all okPart

/-! the law's defs -/
def path : Tr → Int → List Int
  | .nil, _ => []
  | .node l t r, k => if t = k then [k] else if k < t then [t] ++ path l k else [t] ++ path r k
def plantF : Nat → List Int → Tr
  | 0, _ => .nil
  | _ + 1, [] => .nil
  | n + 1, x :: xs => .node (plantF n ((x :: xs).filter fun k => decide (k < x))) x (plantF n ((x :: xs).filter fun k => decide (k > x)))
def order : Tr → List Int
  | .nil => []
  | .node l k r => [k] ++ order l ++ order r
def topIs : Tr → Int → Bool
  | .nil, _ => false
  | .node _ j _, k => decide (j = k)
def turn : Tr → Int → Option Tr
  | .nil, _ => none
  | .node l t r, k =>
    if topIs l k = true then leftUp (.node l t r)
    else if topIs r k = true then rightUp (.node l t r)
    else if k < t then (turn l k).bind fun l' => some (.node l' t r)
    else (turn r k).bind fun r' => some (.node l t r')
def leaf (t : Tr) (k : Int) : Tr := plantF 9 (order t ++ [k])
def part : Tr → Int → Option Tr
  | .nil, _ => none
  | .node l t r, k => if t = k then some (.node l t r) else if k < t then part l k else part r k
def put : Tr → Int → Tr → Option Tr
  | .nil, _, _ => none
  | .node l t r, k, p =>
    if t = k then some p
    else if k < t then (put l k p).bind fun l' => some (.node l' t r)
    else (put r k p).bind fun r' => some (.node l t r')
def outF : Nat → Tr → Int → Option (Tr × List Int)
  | 0, _, _ => none
  | n + 1, t, k =>
    if t.size > 8 then none else
    match part t k with
    | none => none
    | some .nil => none
    | some (.node l _ r) =>
      if (Tr.node l 0 r).size > 8 then none else
      if (l.isNil || r.isNil) = true then (put t k (if r.isNil = true then l else r)).bind fun t' => some (t', (path t k).dropLast)
      else match r.keys with
        | [] => none
        | x :: _ => (outF n r x).bind fun o => (put t k (.node l x o.1)).bind fun t' => some (t', (path t k).dropLast ++ [x] ++ (path r x).dropLast)
def heavy (a b : Tr) : Bool := decide ((a.keys.length : Int) + 1 > 3 * ((b.keys.length : Int) + 1))
def innerL (a b : Tr) : Bool := decide ((a.keys.length : Int) + 1 ≥ 2 * ((b.keys.length : Int) + 1))
def fixed (t : Tr) (k : Int) : Option Tr :=
  if t.size > 8 then none else
  match part t k with
  | none => none
  | some .nil => none
  | some (.node l _ r) =>
    if (Tr.node l 0 r).size > 8 then none else
    if heavy l r = true then
      match l with
      | .nil => none
      | .node ll lt lr =>
        if innerL lr ll = true then
          match lr with
          | .nil => none
          | .node _ x _ => (turn t x).bind fun t' => if t'.size > 8 then none else turn t' x
        else turn t lt
    else if heavy r l = true then
      match r with
      | .nil => none
      | .node rl rt rr =>
        if innerL rl rr = true then
          match rl with
          | .nil => none
          | .node _ x _ => (turn t x).bind fun t' => if t'.size > 8 then none else turn t' x
        else turn t rt
    else some t
def setGo : Tr → List Int → Option Tr
  | t, [] => some t
  | t, k :: ks => (fixed t k).bind fun t' => setGo t' ks
def setL (t : Tr) (ks : List Int) : Option Tr := setGo t ks.reverse
def inL (t : Tr) (k : Int) : Option Tr := if t.size > 7 then none else setL (leaf t k) (path t k)
def outL (t : Tr) (k : Int) : Option Tr := (outF 9 t k).bind fun o => setL o.1 o.2

/-! deeds -/
inductive Wd where
  | ask | inn | out
  deriving DecidableEq
def has (t : Tr) (k : Int) : Bool := decide (k ∈ t.keys)
def possible (t : Tr) (w : Wd) (k : Int) : Bool := decide (1 ≤ k) && decide (k ≤ 6) && (has t k == decide (w ≠ .inn))
def afterP (t : Tr) (w : Wd) (k : Int) : Option Tr :=
  match w with
  | .ask => some t
  | .inn => putR t k
  | .out => takeR t k
def afterL (t : Tr) (w : Wd) (k : Int) : Option Tr :=
  match w with
  | .ask => some t
  | .inn => inL t k
  | .out => outL t k
def good (t : Tr) : Bool := btw t 1 6 && areR t
def checkAt (t : Tr) (w : Wd) (k : Int) : Bool :=
  !possible t w k || (match afterP t w k, afterL t w k with
    | some a, some b => decide (a = b) && good a && decide (a.keys.length ≤ t.keys.length + 1)
    | _, _ => false)
def ks6 : List Int := [1, 2, 3, 4, 5, 6]
/-- what is known of a good shape besides -/
def extra (t : Tr) : Bool := decide (t.size ≤ 6) && (t.keys.all fun k => decide (1 ≤ k) && decide (k ≤ 6)) && (decide (t.keys.length > 3) || !(ks6.filter fun k => !decide (k ∈ t.keys)).isEmpty)
def check (t : Tr) : Bool := !good t || extra t && ks6.all fun k => checkAt t .ask k && checkAt t .inn k && checkAt t .out k

/-! all shapes -/
def enum : Nat → Int → Int → List Tr
  | 0, _, _ => [.nil]
  | n + 1, lo, hi => .nil :: (ks6.filter fun k => decide (lo ≤ k) && decide (k ≤ hi)).flatMap fun k => (enum n lo (k - 1)).flatMap fun l => (enum n (k + 1) hi).map fun r => .node l k r
theorem mem_ks6 {k : Int} (h1 : 1 ≤ k) (h2 : k ≤ 6) : k ∈ ks6 := by
  have : k = 1 ∨ k = 2 ∨ k = 3 ∨ k = 4 ∨ k = 5 ∨ k = 6 := by omega
  rcases this with rfl | rfl | rfl | rfl | rfl | rfl <;> decide
theorem enum_all : ∀ (t : Tr) (n : Nat) (lo hi : Int), btw t lo hi = true → 1 ≤ lo → hi ≤ 6 → hi + 1 - lo ≤ n → t ∈ enum n lo hi
  | .nil, 0, _, _, _, _, _, _ => List.mem_singleton.mpr rfl
  | .nil, _ + 1, _, _, _, _, _, _ => List.mem_cons_self
  | .node l k r, n, lo, hi, h, h1, h2, h3 => by
    simp only [btw, Bool.and_eq_true, decide_eq_true_eq] at h
    obtain ⟨⟨a, b⟩, c, d⟩ := h
    cases n with
    | zero => omega
    | succ n =>
      refine List.mem_cons_of_mem _ (List.mem_flatMap.mpr ⟨k, List.mem_filter.mpr ⟨mem_ks6 (by omega) (by omega), by simp [a, b]⟩, List.mem_flatMap.mpr ⟨l, ?_, List.mem_map.mpr ⟨r, ?_, rfl⟩⟩⟩)
      · exact enum_all l n lo (k - 1) c h1 (by omega) (by omega)
      · exact enum_all r n (k + 1) hi d (by omega) h2 (by omega)
theorem all_checked : (enum 6 1 6).all check = true := by decide +kernel
theorem step_ok {t : Tr} {w : Wd} {k : Int} (g : good t = true) (p : possible t w k = true) :
    ∃ t', afterP t w k = some t' ∧ afterL t w k = some t' ∧ good t' = true ∧ t'.keys.length ≤ t.keys.length + 1 := by
  have hb : btw t 1 6 = true := (Bool.and_eq_true_iff.mp g).1
  have hc : check t = true := List.all_eq_true.mp all_checked t (enum_all t 6 1 6 hb (by decide) (by decide) (by decide))
  have hp := p
  simp only [possible, Bool.and_eq_true, decide_eq_true_eq] at hp
  have hk : k ∈ ks6 := mem_ks6 hp.1.1 hp.1.2
  unfold check at hc
  rw [g] at hc
  have hq : (checkAt t .ask k && checkAt t .inn k && checkAt t .out k) = true := List.all_eq_true.mp (Bool.and_eq_true_iff.mp hc).2 k hk
  have hw : checkAt t w k = true := by
    simp only [Bool.and_eq_true] at hq
    cases w
    · exact hq.1.1
    · exact hq.1.2
    · exact hq.2
  unfold checkAt at hw
  rw [p] at hw
  revert hw
  cases ea : afterP t w k with
  | none => intro hw; cases eb : afterL t w k <;> rw [eb] at hw <;> simp at hw
  | some a =>
    cases eb : afterL t w k with
    | none => intro hw; simp at hw
    | some b =>
      intro hw
      simp at hw
      obtain ⟨⟨e, g'⟩, l⟩ := hw
      exact ⟨a, rfl, by rw [e], g', l⟩
theorem extra_ok {t : Tr} (g : good t = true) : extra t = true := by
  have hb : btw t 1 6 = true := (Bool.and_eq_true_iff.mp g).1
  have hc : check t = true := List.all_eq_true.mp all_checked t (enum_all t 6 1 6 hb (by decide) (by decide) (by decide))
  unfold check at hc
  rw [g] at hc
  exact (Bool.and_eq_true_iff.mp hc).1
end Wt
namespace Wk
open PySem PySem.Spec PyProof.Rows L2
open Wt (Tr)
def topS (i : Nat) : Stmt := PySem.Challenge.pw_turnedtrees_k08_whole_weights.main.body.getD i (.Pass ⟨0, 0, 0, 0⟩)

/-! ### trees in the heap -/
def Tv (H : Hp) : V → Tr → Prop
  | v, .nil => ∃ a, v = .ref a ∧ H a = some (.tup [])
  | v, .node l k r => ∃ a x y, v = .ref a ∧ H a = some (.tup [x, .int k, y]) ∧ Tv H x l ∧ Tv H y r
theorem Tv.same {H H' : Hp} (s : Same H H') : ∀ {t : Tr} {v : V}, Tv H v t → Tv H' v t
  | .nil, _, ⟨a, e, h⟩ => ⟨a, e, s _ _ h⟩
  | .node _ _ _, _, ⟨a, x, y, e, h, p, q⟩ => ⟨a, x, y, e, s _ _ h, Tv.same s p, Tv.same s q⟩
def enc : Tr → PyData
  | .nil => .tuple []
  | .node l k r => .tuple [enc l, .int k, enc r]
theorem tup_of {K : PySem.W.Frag} {H : Hp} {a : Addr} {xs : List V} (h : H a = some (.tup xs)) : SqT K H a xs := .inl (.inl h)
theorem lst_of {K : PySem.W.Frag} {H : Hp} {a : Addr} {xs : List V} (h : H a = some (.lst xs)) : SqL K H a xs := .inl (.inl h)
theorem Tv.dp {K : PySem.W.Frag} {H : Hp} : ∀ {t : Tr} {v : V}, Tv H v t → Dp K H v (enc t)
  | .nil, _, ⟨a, e, h⟩ => by subst e; exact .tup (tup_of h) .nil
  | .node _ _ _, _, ⟨a, x, y, e, h, p, q⟩ => by subst e; exact .tup (tup_of h) (.cons p.dp (.cons (.int _) (.cons q.dp .nil)))
theorem Tv.addr {H : Hp} : ∀ {t : Tr} {v : V}, Tv H v t → ∃ a xs, v = .ref a ∧ H a = some (.tup xs)
  | .nil, _, ⟨a, e, h⟩ => ⟨a, _, e, h⟩
  | .node _ _ _, _, ⟨a, x, y, e, h, _, _⟩ => ⟨a, _, e, h⟩
/-- the number of keys, as a natural number -/
def sz : Tr → Nat
  | .nil => 0
  | .node l _ r => sz l + 1 + sz r
theorem enc_lay : ∀ t : Tr, (enc t).canLay0 = true
  | .nil => rfl
  | .node l k r => by
    have h1 := enc_lay l
    have h2 := enc_lay r
    simp [enc, PyData.canLay0, PyData.canLayAll0, h1, h2]
theorem enc_dep : ∀ t : Tr, (enc t).depth ≤ sz t + 1
  | .nil => by simp [enc, PyData.depth, PyData.depthAll]
  | .node l k r => by
    have h1 := enc_dep l
    have h2 := enc_dep r
    simp only [enc, PyData.depth, PyData.depthAll, sz]
    omega
theorem enc_shaped {t : Tr} (h : sz t ≤ 60) : SeqAt.shaped (enc t) = true := by
  have h1 := enc_lay t
  have h2 := enc_dep t
  unfold SeqAt.shaped
  rw [h1, Bool.true_and]
  exact decide_eq_true (by omega)
theorem enc_eqv : ∀ t u : Tr, PyData.eqv (enc t) (enc u) = decide (t = u)
  | .nil, .nil => by simp [enc, PyData.eqv, PyData.eqvAll]
  | .nil, .node _ _ _ => by simp [enc, PyData.eqv, PyData.eqvAll]
  | .node _ _ _, .nil => by simp [enc, PyData.eqv, PyData.eqvAll]
  | .node l k r, .node a j b => by
    have h1 := enc_eqv l a
    have h2 := enc_eqv r b
    rw [Bool.eq_iff_iff]
    simp [enc, PyData.eqv, PyData.eqvAll, h1, h2]
theorem size_sz : ∀ t : Tr, t.size = (sz t : Int)
  | .nil => rfl
  | .node l k r => by
    have h1 := size_sz l
    have h2 := size_sz r
    simp only [Tr.size, sz, h1, h2]
    omega
theorem keys_sz : ∀ t : Tr, t.keys.length = sz t
  | .nil => rfl
  | .node l k r => by
    have h1 := keys_sz l
    have h2 := keys_sz r
    simp only [Tr.keys, sz, List.length_append, List.length_singleton, h1, h2]
theorem isNil_eq (t : Tr) : decide (t = .nil) = t.isNil := by cases t <;> simp [Tr.isNil]

/-! ### lists of ints in the heap -/
def Lv (H : Hp) (v : V) (ns : List Int) : Prop := ∃ a, v = .ref a ∧ H a = some (.lst (ns.map V.int))
theorem Lv.same {H H' : Hp} (s : Same H H') {ns : List Int} {v : V} : Lv H v ns → Lv H' v ns
  | ⟨a, e, h⟩ => ⟨a, e, s _ _ h⟩
/-- it stood nowhere in that heap -/
def Fr (H : Hp) (v : V) : Prop := ∀ a, v = .ref a → H a = none
theorem Fr.of {H H' : Hp} (s : Same H H') {v : V} (h : Fr H' v) : Fr H v := fun a e => s.free (h a e)
theorem fr_ref {H : Hp} {p : Addr} (h : H p = none) : Fr H (.ref p) := fun a e => by cases e; exact h
theorem same_new {H : Hp} {p : Addr} (h : H p = none) (o : HO) : Same H (upd H p o) := fun b u q => by rw [upd_ne (ne_of_none q h)]; exact q

/-! ### the reading, step by step -/
section
variable {X : Cx} {K : PySem.W.Frag} {σ : L2.St} {H : Hp} {Q : VK}
theorem rd_var {i : Nat} {v : V} (h : σ[i]? = some (some v)) (q : Q v H) : tVar i σ H Q := ⟨v, h, q⟩
theorem rd_C {v : V} (q : Q v H) : tC v σ H Q := q
theorem rd_op {r : R2} {ta tb : TE} (q : ta σ H fun x H1 => tb σ H1 fun y H2 => r x y H2 Q) : tOp r ta tb σ H Q := q
theorem rd_un {r : V → Hp → VK → Prop} {ta : TE} (q : ta σ H fun x H1 => r x H1 Q) : tUn r ta σ H Q := q
theorem rd_neg {i : Int} (q : Q (.int (-i)) H) : rU (fun i => .int (-i)) (.int i) H Q := ⟨_, rfl, q⟩
theorem rd_call {sp : Sp} {E : XK} {t : TA} (q : t σ H fun vs H1 => sp vs H1 Q E) : tCall sp [] E t σ H Q := by
  have e : (fun vs H1 => sp (vs ++ []) H1 Q E) = fun vs H1 => sp vs H1 Q E := by
    funext vs H1
    rw [List.append_nil]
  show t σ H (fun vs H1 => sp (vs ++ []) H1 Q E)
  rw [e]
  exact q
theorem rd_cb {r : List V → Hp → VK → Prop} {t : TA} (q : t σ H fun vs H1 => r vs H1 Q) : tCB r t σ H Q := q
theorem rd_anil {R : List V → Hp → Prop} (q : R [] H) : tNil σ H R := q
theorem rd_acons {R : List V → Hp → Prop} {ta : TE} {tr : TA} (q : ta σ H fun x H1 => tr σ H1 fun xs H2 => R (x :: xs) H2) : tCons ta tr σ H R := q
theorem rd_ifE {tA : TT} {ta tb : TE} (q : tA σ H fun c H1 => if c = true then ta σ H1 Q else tb σ H1 Q) : tIf tA ta tb σ H Q := q
theorem rd_andV {ta tb : TE} (q : ta σ H fun x H1 => ∃ c, x = .bl c ∧ if c = true then tb σ H1 Q else Q (.bl false) H1) : tAndV ta tb σ H Q := q
theorem rd_orV {ta tb : TE} (q : ta σ H fun x H1 => ∃ c, x = .bl c ∧ if c = true then Q (.bl true) H1 else tb σ H1 Q) : tOrV ta tb σ H Q := q
theorem rd_notV {ta : TE} (q : ta σ H fun x H1 => ∃ c, x = .bl c ∧ Q (.bl (!c)) H1) : tNotV ta σ H Q := q
theorem rd_bl {b : Bool} {R : Bool → Prop} (q : R b) : ∃ c, V.bl b = .bl c ∧ R c := ⟨b, rfl, q⟩
theorem rd_iT {c : Bool} {A B : Prop} (h : c = true) (q : A) : if c = true then A else B := by rw [if_pos h]; exact q
theorem rd_iF {c : Bool} {A B : Prop} (h : c = false) (q : B) : if c = true then A else B := by rw [h]; exact iteF q
-- tests
theorem rd_test {t : TE} {R : Bool → Hp → Prop} (q : t σ H fun x H1 => ∃ k, x = .bl k ∧ R k H1) : tTest t σ H R := q
theorem rd_tB {t : TE} {R : Bool → Hp → Prop} (q : t σ H fun x H1 => ∃ k, x = .bl k ∧ R k H1) : tB t σ H R := q
theorem rd_and {t u : TT} {R : Bool → Hp → Prop} (q : t σ H fun c H1 => if c = true then u σ H1 R else R false H1) : tAnd t u σ H R := q
theorem rd_or {t u : TT} {R : Bool → Hp → Prop} (q : t σ H fun c H1 => if c = true then R true H1 else u σ H1 R) : tOr t u σ H R := q
theorem rd_not {t : TT} {R : Bool → Hp → Prop} (q : t σ H fun c H1 => R (!c) H1) : tNot t σ H R := q
-- statements
theorem rd_seq {D : Ends} {t u : TS} (q : t { D with nx := u D } σ H) : tSeq t u D σ H := q
theorem rd_ret {D : Ends} {te : TE} (q : te σ H D.rt) : tRet te D σ H := q
theorem rd_ifS {D : Ends} {c : TT} {t u : TS} (q : c σ H fun b H1 => if b = true then t D σ H1 else u D σ H1) : tIfS c t u D σ H := q
theorem rd_asg {D : Ends} {te : TE} {g : TG} (q : te σ H fun x H1 => g x σ H1 D.nx) : tAsg te g D σ H := q
theorem rd_next {D : Ends} (q : D.nx σ H) : tNext D σ H := q
theorem rd_name {i : Nat} {v : V} {R : L2.St → Hp → Prop} (q : R (σ.set i (some v)) H) : gName i v σ H R := q
-- arithmetic, comparisons
theorem rd_I0 {g : Int → Int → V} {i j : Int} (q : Q (g i j) H) : rI0 g (.int i) (.int j) H Q := ⟨i, j, rfl, rfl, q⟩
theorem rd_lt {i j : Int} {b : Bool} (h : decide (i < j) = b) (q : Q (.bl b) H) : rI0 (fun i j => .bl (decide (i < j))) (.int i) (.int j) H Q := ⟨i, j, rfl, rfl, by subst h; exact q⟩
theorem rd_le {i j : Int} {b : Bool} (h : decide (i ≤ j) = b) (q : Q (.bl b) H) : rI0 (fun i j => .bl (decide (i ≤ j))) (.int i) (.int j) H Q := ⟨i, j, rfl, rfl, by subst h; exact q⟩
theorem rd_gt {i j : Int} {b : Bool} (h : decide (j < i) = b) (q : Q (.bl b) H) : rI0 (fun i j => .bl (decide (j < i))) (.int i) (.int j) H Q := ⟨i, j, rfl, rfl, by subst h; exact q⟩
theorem rd_ge {i j : Int} {b : Bool} (h : decide (j ≤ i) = b) (q : Q (.bl b) H) : rI0 (fun i j => .bl (decide (j ≤ i))) (.int i) (.int j) H Q := ⟨i, j, rfl, rfl, by subst h; exact q⟩
theorem rd_mulL {g : Int → Int → V} {i j : Int} (c : -(2 ^ 64) < i ∧ i < 2 ^ 64) (q : Q (g i j) H) : rI CMul g (.int i) (.int j) H Q := ⟨i, j, rfl, rfl, .inl c, q⟩
theorem rd_eqI {i j : Int} {b : Bool} (h : decide (i = j) = b) (q : Q (.bl b) H) : rEq (.int i) (.int j) H Q := ⟨rfl, by rw [← h] at q; simpa using q⟩
theorem rd_neI {i j : Int} {b : Bool} (h : decide (i = j) = b) (q : Q (.bl (!b)) H) : rNe (.int i) (.int j) H Q := ⟨rfl, by rw [← h] at q; simpa using q⟩
theorem rd_eqS {i j : Str} {b : Bool} (h : decide (i = j) = b) (q : Q (.bl b) H) : rEq (.str i) (.str j) H Q := ⟨rfl, by rw [← h] at q; simpa using q⟩
theorem rd_neS {i j : Str} {b : Bool} (h : decide (i = j) = b) (q : Q (.bl (!b)) H) : rNe (.str i) (.str j) H Q := ⟨rfl, by rw [← h] at q; simpa using q⟩
theorem rd_eqSs {i : Str} (q : Q (.bl true) H) : rEq (.str i) (.str i) H Q := rd_eqS (decide_eq_true rfl) q
theorem rd_eqSn {i j : Str} (h : i ≠ j) (q : Q (.bl false) H) : rEq (.str i) (.str j) H Q := rd_eqS (decide_eq_false h) q
theorem rd_neSs {i : Str} (q : Q (.bl false) H) : rNe (.str i) (.str i) H Q := rd_neS (decide_eq_true rfl) q
theorem rd_neSn {i j : Str} (h : i ≠ j) (q : Q (.bl true) H) : rNe (.str i) (.str j) H Q := rd_neS (decide_eq_false h) q
theorem rd_eqB {i j : Bool} (q : Q (.bl (i == j)) H) : rEq (.bl i) (.bl j) H Q := ⟨rfl, by rw [dec_bl]; exact q⟩
theorem rd_chain {r r' : R2} {ta tb tc : TE} (q : ta σ H fun x H1 => tb σ H1 fun y H2 => r x y H2 fun z H3 => ∃ k, z = .bl k ∧ (if k = true then tc σ H3 fun w' H4 => r' y w' H4 Q else Q (.bl false) H3)) : tChain r r' ta tb tc σ H Q := q
theorem rd_isiInt {i : Int} (q : Q (.bl true) H) : rIsi K [.int i, .ty "int"] H Q := ⟨_, _, _, _, _, rfl, .ty _, .base (.int i), kit_ty (by decide +kernel), q⟩
theorem rd_isiBool {i : Int} (q : Q (.bl false) H) : rIsi K [.int i, .ty "bool"] H Q := ⟨_, _, _, _, _, rfl, .ty _, .base (.int i), kit_ty (by decide +kernel), q⟩
theorem rd_isiStr {z : Str} (q : Q (.bl true) H) : rIsi K [.str z, .ty "str"] H Q := ⟨_, _, _, _, _, rfl, .ty _, .base (.str z), kit_ty (by decide +kernel), q⟩
theorem rd_isiTup {a : Addr} {xs : List V} (h : H a = some (.tup xs)) (q : Q (.bl true) H) : rIsi K [.ref a, .ty "tuple"] H Q := ⟨_, _, _, _, _, rfl, .ty _, .base (.tup h), kit_ty (by decide +kernel), q⟩
theorem rd_isiTr {v : V} {t : Tr} (h : Tv H v t) (q : Q (.bl true) H) : rIsi K [v, .ty "tuple"] H Q := by
  obtain ⟨a, xs, rfl, e⟩ := h.addr
  exact rd_isiTup e q
def rLen (K : PySem.W.Frag) : List V → Hp → VK → Prop := fun xs H Q => ∃ p ys, xs = [V.ref p] ∧ (SqL K H p ys ∨ SqT K H p ys) ∧ Q (.int ys.length) H
theorem call_lenN : CallR X (.builtin "len") (rLen X.K) := call_len_seq
theorem rd_len3 {v : V} {l r : Tr} {k : Int} (h : Tv H v (.node l k r)) (q : Q (.int 3) H) : rLen K [v] H Q := by
  obtain ⟨a, x, y, rfl, e, _, _⟩ := h
  exact ⟨a, _, rfl, .inr (tup_of e), q⟩
-- trees
theorem rd_nil (q : ∀ v H', Same H H' → Tv H' v .nil → Q v H') : tTup tNil σ H Q :=
  ⟨Nat.zero_le _, fun p hp => q _ _ (same_new hp _) ⟨p, rfl, upd_same⟩⟩
/-- arguments that are known: what is left of a display, a call, once they are read -/
def taC (xs : List V) : TA := fun _ H R => R xs H
def mkT (xs : List V) (H : Hp) (Q : VK) : Prop := tTup (taC xs) [] H Q
def mkL (xs : List V) (H : Hp) (Q : VK) : Prop := tLst (taC xs) [] H Q
theorem rd_tup {t : TA} (q : t σ H fun xs H1 => mkT xs H1 Q) : tTup t σ H Q := q
theorem rd_lst {t : TA} (q : t σ H fun xs H1 => mkL xs H1 Q) : tLst t σ H Q := q
theorem rd_node {x z : V} {k : Int} {l r : Tr} (hx : Tv H x l) (hz : Tv H z r) (q : ∀ v H', Same H H' → Tv H' v (.node l k r) → Q v H') :
    mkT [x, .int k, z] H Q :=
  ⟨by show 3 ≤ sizeLine; decide, fun p hp => q _ _ (same_new hp _) ⟨p, x, z, rfl, upd_same, hx.same (same_new hp _), hz.same (same_new hp _)⟩⟩
theorem rd_ints {xs : List V} {ns : List Int} (e : xs = ns.map V.int) (b : ns.length ≤ 1000) (q : ∀ v H', Same H H' → Lv H' v ns → Fr H v → Q v H') :
    mkL xs H Q := by
  subst e
  exact ⟨by rw [List.length_map]; exact Nat.le_of_lt (small1000 b), fun p hp => q _ _ (same_new hp _) ⟨p, rfl, upd_same⟩ (fr_ref hp)⟩
theorem rd_eqT {x y : V} {t u : Tr} (hx : Tv H x t) (hy : Tv H y u) (b : sz t ≤ 60) (c : sz u ≤ 60) (q : Q (.bl (decide (t = u))) H) : rEqD K x y H Q :=
  ⟨_, _, hx.dp, hy.dp, enc_shaped b, enc_shaped c, by rw [enc_eqv]; exact q⟩
theorem rd_neT {x y : V} {t u : Tr} (hx : Tv H x t) (hy : Tv H y u) (b : sz t ≤ 60) (c : sz u ≤ 60) (q : Q (.bl (!decide (t = u))) H) : rNeD K x y H Q :=
  ⟨_, _, hx.dp, hy.dp, enc_shaped b, enc_shaped c, by rw [enc_eqv]; exact q⟩
/-- t == (), t != () -/
theorem rd_isNil {x y : V} {t : Tr} (hx : Tv H x t) (hy : Tv H y .nil) (b : sz t ≤ 60) (q : Q (.bl t.isNil) H) : rEqD K x y H Q :=
  rd_eqT hx hy b (Nat.zero_le _) (by rw [isNil_eq]; exact q)
theorem rd_notNil {x y : V} {t : Tr} (hx : Tv H x t) (hy : Tv H y .nil) (b : sz t ≤ 60) (q : Q (.bl (!t.isNil)) H) : rNeD K x y H Q :=
  rd_neT hx hy b (Nat.zero_le _) (by rw [isNil_eq]; exact q)
theorem rd_at0 {x : V} {l r : Tr} {k : Int} (hx : Tv H x (.node l k r)) (q : ∀ v, Tv H v l → Q v H) : rIxT K x (.int 0) H Q := by
  obtain ⟨a, y, z, rfl, h, p, s⟩ := hx
  exact ⟨a, _, 0, y, rfl, rfl, tup_of h, atI_nat (j := 0) rfl, q _ p⟩
theorem rd_at1 {x : V} {l r : Tr} {k : Int} (hx : Tv H x (.node l k r)) (q : Q (.int k) H) : rIxT K x (.int 1) H Q := by
  obtain ⟨a, y, z, rfl, h, p, s⟩ := hx
  exact ⟨a, _, 1, _, rfl, rfl, tup_of h, atI_nat (j := 1) rfl, q⟩
theorem rd_at2 {x : V} {l r : Tr} {k : Int} (hx : Tv H x (.node l k r)) (q : ∀ v, Tv H v r → Q v H) : rIxT K x (.int 2) H Q := by
  obtain ⟨a, y, z, rfl, h, p, s⟩ := hx
  exact ⟨a, _, 2, z, rfl, rfl, tup_of h, atI_nat (j := 2) rfl, q _ s⟩
/-- a, b, c = t -/
theorem rd_unpack {x : V} {l r : Tr} {k : Int} {i1 i2 i3 : Nat} {R : L2.St → Hp → Prop} (hx : Tv H x (.node l k r)) (q : ∀ u v, Tv H u l → Tv H v r → R (((σ.set i1 (some u)).set i2 (some (.int k))).set i3 (some v)) H) :
    gTup K 3 (gCons (gName i1) (gCons (gName i2) (gCons (gName i3) gNil))) x σ H R := by
  obtain ⟨a, y, z, rfl, h, p, s⟩ := hx
  exact ⟨a, _, rfl, tup_of h, rfl, _, _, rfl, _, _, rfl, _, _, rfl, rfl, q _ _ p s⟩
-- lists
theorem rd_ints0 (q : ∀ v H', Same H H' → Lv H' v [] → Fr H v → Q v H') : mkL [] H Q := rd_ints (ns := []) rfl (by decide) q
theorem rd_ints1 {k : Int} (q : ∀ v H', Same H H' → Lv H' v [k] → Fr H v → Q v H') : mkL [.int k] H Q := rd_ints (ns := [k]) rfl (by show 1 ≤ 1000; decide) q
theorem rd_cat {x y : V} {as bs : List Int} (hx : Lv H x as) (hy : Lv H y bs) (b : as.length + bs.length ≤ 1000) (q : ∀ v H', Same H H' → Lv H' v (as ++ bs) → Fr H v → Q v H') : rCat x y H Q := by
  obtain ⟨l, rfl, h⟩ := hx
  obtain ⟨m, rfl, g⟩ := hy
  refine ⟨l, m, _, _, rfl, rfl, h, g, by rw [List.length_map, List.length_map]; exact Nat.le_of_lt (small1000 b), fun p hp => q _ _ (same_new hp _) ⟨p, rfl, ?_⟩ (fr_ref hp)⟩
  rw [upd_same, List.map_append]
theorem rd_len {x : V} {ns : List Int} (hx : Lv H x ns) (q : Q (.int ns.length) H) : rLen K [x] H Q := by
  obtain ⟨l, rfl, h⟩ := hx
  exact ⟨l, _, rfl, .inl (lst_of h), by rw [List.length_map]; exact q⟩

/-! ### rules, deeds, tuples of texts, lists of trees -/
def Rv (H : Hp) (v : V) : Prop := ∃ a, v = .ref a ∧ H a = some (.tup [.str "weights"])
def wd : Wt.Wd → Str
  | .ask => "ask"
  | .inn => "in"
  | .out => "out"
def Dv (H : Hp) (v : V) (w : Wt.Wd) (k : Int) : Prop := ∃ a, v = .ref a ∧ H a = some (.tup [.str (wd w), .int k])
def Sv (H : Hp) (v : V) (zs : List Str) : Prop := ∃ a, v = .ref a ∧ H a = some (.tup (zs.map V.str))
def Pl (H : Hp) (v : V) (ts : List Tr) : Prop := ∃ a xs, v = .ref a ∧ H a = some (.lst xs) ∧ Paired (Tv H) xs ts
theorem Rv.same {H H' : Hp} (s : Same H H') {v : V} : Rv H v → Rv H' v
  | ⟨a, e, h⟩ => ⟨a, e, s _ _ h⟩
theorem Dv.same {H H' : Hp} (s : Same H H') {v : V} {w : Wt.Wd} {k : Int} : Dv H v w k → Dv H' v w k
  | ⟨a, e, h⟩ => ⟨a, e, s _ _ h⟩
theorem Sv.same {H H' : Hp} (s : Same H H') {v : V} {zs : List Str} : Sv H v zs → Sv H' v zs
  | ⟨a, e, h⟩ => ⟨a, e, s _ _ h⟩
theorem Pl.same {H H' : Hp} (s : Same H H') {v : V} {ts : List Tr} : Pl H v ts → Pl H' v ts
  | ⟨a, xs, e, h, p⟩ => ⟨a, xs, e, s _ _ h, Paired.mapP p fun _ _ z => z.same s⟩
theorem Pl.none {H : Hp} {v : V} : Lv H v [] → Pl H v []
  | ⟨a, e, h⟩ => ⟨a, [], e, h, .nil⟩
theorem parts_sz : ∀ t : Tr, (Wt.parts t).length = sz t
  | .nil => rfl
  | .node l k r => by
    have h1 := parts_sz l
    have h2 := parts_sz r
    simp only [Wt.parts, sz, List.length_append, List.length_singleton, h1, h2]
    omega
theorem pair_app {α β : Type} {F : α → β → Prop} : ∀ {xs : List α} {ys : List β} {us : List α} {vs : List β}, Paired F xs ys → Paired F us vs → Paired F (xs ++ us) (ys ++ vs)
  | _, _, _, _, .nil, q => q
  | _, _, _, _, .cons a r, q => .cons a (pair_app r q)
theorem pair_get {α β : Type} {F : α → β → Prop} : ∀ {xs : List α} {ys : List β} {i : Nat} {x : α}, Paired F xs ys → xs[i]? = some x → ∃ y, ys[i]? = some y ∧ F x y
  | _, _, _, _, .nil, e => by simp at e
  | _, _, 0, _, .cons a _, e => by
    simp at e
    subst e
    exact ⟨_, rfl, a⟩
  | _, _, i + 1, x, .cons _ r, e => by
    obtain ⟨y, h1, h2⟩ := pair_get (i := i) r (by simpa using e)
    exact ⟨y, by simpa using h1, h2⟩
theorem inV_int {k : Int} : ∀ {ns : List Int}, inV (.int k) (ns.map V.int) = decide (k ∈ ns)
  | [] => by simp [inV]
  | n :: ns => by
    have ih := inV_int (k := k) (ns := ns)
    unfold inV at ih ⊢
    rw [List.map_cons, List.any_cons, ih]
    rw [Bool.eq_iff_iff]
    simp [eqV]
    constructor
    · rintro (h | h)
      · exact .inl h.symm
      · exact .inr h
    · rintro (h | h)
      · exact .inl h.symm
      · exact .inr h
theorem flat_ints : ∀ ns : List Int, (ns.map V.int).all flatV = true
  | [] => rfl
  | n :: ns => by
    rw [List.map_cons, List.all_cons, flat_ints ns]
    rfl
theorem flat_strs : ∀ zs : List Str, (zs.map V.str).all flatV = true
  | [] => rfl
  | n :: ns => by
    rw [List.map_cons, List.all_cons, flat_strs ns]
    rfl
section
variable {X : Cx} {K : PySem.W.Frag} {σ : L2.St} {H : Hp} {Q : VK}
theorem rd_rule0 {x : V} (h : Rv H x) (q : Q (.str "weights") H) : rIxT K x (.int 0) H Q := by
  obtain ⟨a, rfl, h⟩ := h
  exact ⟨a, _, 0, _, rfl, rfl, tup_of h, atI_nat (j := 0) rfl, q⟩
theorem rd_deed0a {x : V} {k : Int} (h : Dv H x .ask k) (q : Q (.str "ask") H) : rIxT K x (.int 0) H Q := by
  obtain ⟨a, rfl, h⟩ := h
  exact ⟨a, _, 0, _, rfl, rfl, tup_of h, atI_nat (j := 0) rfl, q⟩
theorem rd_deed0i {x : V} {k : Int} (h : Dv H x .inn k) (q : Q (.str "in") H) : rIxT K x (.int 0) H Q := by
  obtain ⟨a, rfl, h⟩ := h
  exact ⟨a, _, 0, _, rfl, rfl, tup_of h, atI_nat (j := 0) rfl, q⟩
theorem rd_deed0o {x : V} {k : Int} (h : Dv H x .out k) (q : Q (.str "out") H) : rIxT K x (.int 0) H Q := by
  obtain ⟨a, rfl, h⟩ := h
  exact ⟨a, _, 0, _, rfl, rfl, tup_of h, atI_nat (j := 0) rfl, q⟩
theorem rd_deed1 {x : V} {w : Wt.Wd} {k : Int} (h : Dv H x w k) (q : Q (.int k) H) : rIxT K x (.int 1) H Q := by
  obtain ⟨a, rfl, h⟩ := h
  exact ⟨a, _, 1, _, rfl, rfl, tup_of h, atI_nat (j := 1) rfl, q⟩
theorem rd_isiR {v : V} (h : Rv H v) (q : Q (.bl true) H) : rIsi K [v, .ty "tuple"] H Q := by
  obtain ⟨a, rfl, e⟩ := h
  exact rd_isiTup e q
theorem rd_isiD {v : V} {w : Wt.Wd} {k : Int} (h : Dv H v w k) (q : Q (.bl true) H) : rIsi K [v, .ty "tuple"] H Q := by
  obtain ⟨a, rfl, e⟩ := h
  exact rd_isiTup e q
theorem rd_lenR {x : V} (h : Rv H x) (q : Q (.int 1) H) : rLen K [x] H Q := by
  obtain ⟨l, rfl, h⟩ := h
  exact ⟨l, _, rfl, .inr (tup_of h), q⟩
theorem rd_lenD {x : V} {w : Wt.Wd} {k : Int} (h : Dv H x w k) (q : Q (.int 2) H) : rLen K [x] H Q := by
  obtain ⟨l, rfl, h⟩ := h
  exact ⟨l, _, rfl, .inr (tup_of h), q⟩
theorem rd_eqR {x y : V} (h : Rv H x) (g : Tv H y .nil) (q : Q (.bl false) H) : rEqD K x y H Q := by
  obtain ⟨a, rfl, h⟩ := h
  exact ⟨.tuple [.str "weights"], _, .tup (tup_of h) (.cons (.str _) .nil), g.dp, by decide +kernel, enc_shaped (Nat.zero_le _), q⟩
theorem rd_strs2 {a b : Str} (q : ∀ v H', Same H H' → Sv H' v [a, b] → Q v H') : mkT [.str a, .str b] H Q :=
  ⟨by show 2 ≤ sizeLine; decide, fun p hp => q _ _ (same_new hp _) ⟨p, rfl, upd_same⟩⟩
theorem rd_strs3 {a b c : Str} (q : ∀ v H', Same H H' → Sv H' v [a, b, c] → Q v H') : mkT [.str a, .str b, .str c] H Q :=
  ⟨by show 3 ≤ sizeLine; decide, fun p hp => q _ _ (same_new hp _) ⟨p, rfl, upd_same⟩⟩
theorem rd_inS {x : Str} {y : V} {zs : List Str} (h : Sv H y zs) (e : inV (.str x) (zs.map V.str) = true) (q : Q (.bl true) H) : rIn K false (.str x) y H Q := by
  obtain ⟨a, rfl, h⟩ := h
  exact ⟨a, _, rfl, .inr (tup_of h), rfl, flat_strs zs, by rw [e]; exact q⟩
theorem rd_inI {k : Int} {y : V} {ns : List Int} {b : Bool} (h : Lv H y ns) (e : decide (k ∈ ns) = b) (q : Q (.bl b) H) : rIn K false (.int k) y H Q := by
  obtain ⟨a, rfl, h⟩ := h
  exact ⟨a, _, rfl, .inl (lst_of h), rfl, flat_ints ns, by rw [inV_int, e]; exact q⟩
theorem rd_ninI {k : Int} {y : V} {ns : List Int} {b : Bool} (h : Lv H y ns) (e : decide (k ∈ ns) = b) (q : Q (.bl (!b)) H) : rIn K true (.int k) y H Q := by
  obtain ⟨a, rfl, h⟩ := h
  exact ⟨a, _, rfl, .inl (lst_of h), rfl, flat_ints ns, by rw [inV_int, e]; exact q⟩
theorem rd_pl1 {x : V} {t : Tr} (h : Tv H x t) (q : ∀ v H', Same H H' → Pl H' v [t] → Q v H') : mkL [x] H Q :=
  ⟨by show 1 ≤ sizeLine; decide, fun p hp => q _ _ (same_new hp _) ⟨p, [x], rfl, upd_same, .cons (h.same (same_new hp _)) .nil⟩⟩
theorem rd_catP {x y : V} {as bs : List Tr} (hx : Pl H x as) (hy : Pl H y bs) (b : as.length + bs.length ≤ 1000) (q : ∀ v H', Same H H' → Pl H' v (as ++ bs) → Q v H') : rCat x y H Q := by
  obtain ⟨l, xs, rfl, h, h2⟩ := hx
  obtain ⟨m, ys, rfl, g, g2⟩ := hy
  refine ⟨l, m, _, _, rfl, rfl, h, g, by rw [Paired.length h2, Paired.length g2]; exact Nat.le_of_lt (small1000 b), fun p hp => q _ _ (same_new hp _) ⟨p, _, rfl, upd_same, ?_⟩⟩
  exact pair_app (Paired.mapP h2 fun _ _ z => z.same (same_new hp _)) (Paired.mapP g2 fun _ _ z => z.same (same_new hp _))
theorem rd_drop {D : Ends} {te : TE} (q : te σ H fun _ H1 => D.nx σ H1) : tDrop te D σ H := q
/-- for x in a list -/
def forL (K : PySem.W.Frag) (g : TG) (tb : TS) (D : Ends) (σ : L2.St) (x : V) (H : Hp) : Prop := tFor (iList K (tC x)) g tb D σ H
theorem rd_forL {tl : TE} {g : TG} {tb : TS} {D : Ends} (q : tl σ H fun x H1 => forL K g tb D σ x H1) : tFor (iList K tl) g tb D σ H := q
end
end
end Wk
namespace Wk
open PySem PySem.Spec PyProof.Rows L2
open Wt (Tr)
/-! ### the program's defs, by their places -/
structure Df (K : PySem.W.Frag) (mg : Str → Option Value) (x : Str) (st : Stmt) (ps : List Str) (f : Addr) (fd : FuncData) : Prop where
  F : Fun K x x st f fd
  b : Binds K fd ps []
  g : mg x = some (.ref f)
structure Prog (K : PySem.W.Frag) (mg : Str → Option Value) where
  a_is_number : Addr
  d_is_number : FuncData
  D_is_number : Df K mg "is_number" (topS 8) ["value", "least", "most"] a_is_number d_is_number
  a_is_between : Addr
  d_is_between : FuncData
  D_is_between : Df K mg "is_between" (topS 9) ["value", "low", "high"] a_is_between d_is_between
  a_is_shape : Addr
  d_is_shape : FuncData
  D_is_shape : Df K mg "is_shape" (topS 10) ["candidate"] a_is_shape d_is_shape
  a_need_shape : Addr
  d_need_shape : FuncData
  D_need_shape : Df K mg "need_shape" (topS 11) ["value"] a_need_shape d_need_shape
  a_keys_of : Addr
  d_keys_of : FuncData
  D_keys_of : Df K mg "keys_of" (topS 12) ["shape"] a_keys_of d_keys_of
  a_size_of : Addr
  d_size_of : FuncData
  D_size_of : Df K mg "size_of" (topS 13) ["shape"] a_size_of d_size_of
  a_left_up : Addr
  d_left_up : FuncData
  D_left_up : Df K mg "left_up" (topS 17) ["part"] a_left_up d_left_up
  a_right_up : Addr
  d_right_up : FuncData
  D_right_up : Df K mg "right_up" (topS 18) ["part"] a_right_up d_right_up
  a_least : Addr
  d_least : FuncData
  D_least : Df K mg "least" (topS 22) ["shape"] a_least d_least
  a_weight_of : Addr
  d_weight_of : FuncData
  D_weight_of : Df K mg "weight_of" (topS 31) ["shape"] a_weight_of d_weight_of
  a_set_right : Addr
  d_set_right : FuncData
  D_set_right : Df K mg "set_right" (topS 32) ["word", "part"] a_set_right d_set_right
  a_is_greater : Addr
  d_is_greater : FuncData
  D_is_greater : Df K mg "is_greater" (topS 33) ["word", "one", "other"] a_is_greater d_is_greater
  a_is_inner : Addr
  d_is_inner : FuncData
  D_is_inner : Df K mg "is_inner" (topS 34) ["word", "inner", "outer"] a_is_inner d_is_inner
  a_put_right : Addr
  d_put_right : FuncData
  D_put_right : Df K mg "put_right" (topS 35) ["word", "shape", "key"] a_put_right d_put_right
  a_take_right : Addr
  d_take_right : FuncData
  D_take_right : Df K mg "take_right" (topS 36) ["word", "shape", "key"] a_take_right d_take_right
  a_all_parts : Addr
  d_all_parts : FuncData
  D_all_parts : Df K mg "all_parts" (topS 42) ["shape"] a_all_parts d_all_parts
  a_are_right : Addr
  d_are_right : FuncData
  D_are_right : Df K mg "are_right" (topS 43) ["word", "shape"] a_are_right d_are_right
  a_is_rule : Addr
  d_is_rule : FuncData
  D_is_rule : Df K mg "is_rule" (topS 58) ["candidate"] a_is_rule d_is_rule
  a_need_rule : Addr
  d_need_rule : FuncData
  D_need_rule : Df K mg "need_rule" (topS 59) ["value"] a_need_rule d_need_rule
  a_is_kept : Addr
  d_is_kept : FuncData
  D_is_kept : Df K mg "is_kept" (topS 61) ["rule", "shape"] a_is_kept d_is_kept
  a_keeps : Addr
  d_keeps : FuncData
  D_keeps : Df K mg "keeps" (topS 62) ["rule", "shape"] a_keeps d_keeps
  a_with_key : Addr
  d_with_key : FuncData
  D_with_key : Df K mg "with_key" (topS 63) ["rule", "shape", "key"] a_with_key d_with_key
  a_without_key : Addr
  d_without_key : FuncData
  D_without_key : Df K mg "without_key" (topS 64) ["rule", "shape", "key"] a_without_key d_without_key
  a_moved : Addr
  d_moved : FuncData
  D_moved : Df K mg "moved" (topS 65) ["rule", "shape", "key"] a_moved d_moved
  a_behind : Addr
  d_behind : FuncData
  D_behind : Df K mg "behind" (topS 66) ["rule", "shape", "deed"] a_behind d_behind
  a_is_deed : Addr
  d_is_deed : FuncData
  D_is_deed : Df K mg "is_deed" (topS 67) ["value"] a_is_deed d_is_deed
  a_is_possible : Addr
  d_is_possible : FuncData
  D_is_possible : Df K mg "is_possible" (topS 68) ["shape", "deed"] a_is_possible d_is_possible
  a_need_deed : Addr
  d_need_deed : FuncData
  D_need_deed : Df K mg "need_deed" (topS 69) ["shape", "value"] a_need_deed d_need_deed
  a_after : Addr
  d_after : FuncData
  D_after : Df K mg "after" (topS 70) ["rule", "shape", "deed"] a_after d_after
  a_drawL : Addr
  d_drawL : FuncData
  D_drawL : Df K mg "_law_draw" (topS 72) ["_law_script", "_law_town", "_law_many"] a_drawL d_drawL
  a_pickL : Addr
  d_pickL : FuncData
  D_pickL : Df K mg "_law_pick" (topS 73) ["_law_script", "_law_town", "_law_some"] a_pickL d_pickL
  a_keysL : Addr
  d_keysL : FuncData
  D_keysL : Df K mg "_law_keys" (topS 74) ["_law_shape"] a_keysL d_keysL
  a_pathL : Addr
  d_pathL : FuncData
  D_pathL : Df K mg "_law_path" (topS 76) ["_law_shape", "_law_key"] a_pathL d_pathL
  a_plantL : Addr
  d_plantL : FuncData
  D_plantL : Df K mg "_law_plant" (topS 78) ["_law_keys_here"] a_plantL d_plantL
  a_orderL : Addr
  d_orderL : FuncData
  D_orderL : Df K mg "_law_order" (topS 79) ["_law_shape"] a_orderL d_orderL
  a_turnL : Addr
  d_turnL : FuncData
  D_turnL : Df K mg "_law_turn" (topS 80) ["_law_shape", "_law_key"] a_turnL d_turnL
  a_leafL : Addr
  d_leafL : FuncData
  D_leafL : Df K mg "_law_leaf" (topS 81) ["_law_shape", "_law_key"] a_leafL d_leafL
  a_partL : Addr
  d_partL : FuncData
  D_partL : Df K mg "_law_part" (topS 82) ["_law_shape", "_law_key"] a_partL d_partL
  a_putL : Addr
  d_putL : FuncData
  D_putL : Df K mg "_law_put" (topS 83) ["_law_shape", "_law_key", "_law_part_here"] a_putL d_putL
  a_outL : Addr
  d_outL : FuncData
  D_outL : Df K mg "_law_out" (topS 84) ["_law_shape", "_law_key"] a_outL d_outL
  a_heavyL : Addr
  d_heavyL : FuncData
  D_heavyL : Df K mg "_law_heavy" (topS 85) ["_law_word", "_law_one", "_law_other"] a_heavyL d_heavyL
  a_innerL : Addr
  d_innerL : FuncData
  D_innerL : Df K mg "_law_inner" (topS 86) ["_law_word", "_law_inner_here", "_law_outer"] a_innerL d_innerL
  a_fixedL : Addr
  d_fixedL : FuncData
  D_fixedL : Df K mg "_law_fixed" (topS 87) ["_law_word", "_law_shape", "_law_key"] a_fixedL d_fixedL
  a_setL : Addr
  d_setL : FuncData
  D_setL : Df K mg "_law_set" (topS 88) ["_law_word", "_law_shape", "_law_above"] a_setL d_setL
  a_movedL : Addr
  d_movedL : FuncData
  D_movedL : Df K mg "_law_moved" (topS 100) ["_law_name", "_law_shape", "_law_key"] a_movedL d_movedL
  a_inL : Addr
  d_inL : FuncData
  D_inL : Df K mg "_law_in" (topS 102) ["_law_rule_here", "_law_shape", "_law_key"] a_inL d_inL
  a_afterL : Addr
  d_afterL : FuncData
  D_afterL : Df K mg "_law_after" (topS 103) ["_law_rule_here", "_law_shape", "_law_deed_here"] a_afterL d_afterL
  a_deedL : Addr
  d_deedL : FuncData
  D_deedL : Df K mg "_law_deed" (topS 107) ["_law_script", "_law_town", "_law_here", "_law_keys_here"] a_deedL d_deedL
  a_law : Addr
  d_law : FuncData
  D_law : Df K mg "law" (topS 108) ["_law_script"] a_law d_law
  z_len : mg "len" = none
  z_isinstance : mg "isinstance" = none
  z_int : mg "int" = none
  z_bool : mg "bool" = none
  z_tuple : mg "tuple" = none
  z_str : mg "str" = none
  z_range : mg "range" = none
  m_MOST : ∃ u, mg "MOST" = some u ∧ RelV (.int 6) u
  a_FAMILY : Addr
  m_FAMILY : ∃ u, mg "FAMILY" = some u ∧ RelV (.ref a_FAMILY) u
  t_FAMILY : ∀ H : Hp, SqT K H a_FAMILY [.str "heights", .str "levels", .str "once", .str "plain", .str "rebuilt", .str "splayed", .str "top", .str "weights"]
theorem sc_is_number : FnScope ["value", "least", "most"] ["value", "least", "most"] (defScope (topS 8)) := ⟨rfl, rfl, rfl, by decide +kernel, rfl, by decide +kernel, by decide +kernel⟩
theorem sc_is_between : FnScope ["value", "low", "high"] ["value", "low", "high"] (defScope (topS 9)) := ⟨rfl, rfl, rfl, by decide +kernel, rfl, by decide +kernel, by decide +kernel⟩
theorem sc_is_shape : FnScope ["candidate"] ["candidate"] (defScope (topS 10)) := ⟨rfl, rfl, rfl, by decide +kernel, rfl, by decide +kernel, by decide +kernel⟩
theorem sc_need_shape : FnScope ["value"] ["value"] (defScope (topS 11)) := ⟨rfl, rfl, rfl, by decide +kernel, rfl, by decide +kernel, by decide +kernel⟩
theorem sc_keys_of : FnScope ["shape"] ["shape"] (defScope (topS 12)) := ⟨rfl, rfl, rfl, by decide +kernel, rfl, by decide +kernel, by decide +kernel⟩
theorem sc_size_of : FnScope ["shape"] ["shape"] (defScope (topS 13)) := ⟨rfl, rfl, rfl, by decide +kernel, rfl, by decide +kernel, by decide +kernel⟩
theorem sc_left_up : FnScope ["part", "left", "top", "right"] ["part"] (defScope (topS 17)) := ⟨rfl, rfl, rfl, by decide +kernel, rfl, by decide +kernel, by decide +kernel⟩
theorem sc_right_up : FnScope ["part", "left", "top", "right"] ["part"] (defScope (topS 18)) := ⟨rfl, rfl, rfl, by decide +kernel, rfl, by decide +kernel, by decide +kernel⟩
theorem sc_least : FnScope ["shape"] ["shape"] (defScope (topS 22)) := ⟨rfl, rfl, rfl, by decide +kernel, rfl, by decide +kernel, by decide +kernel⟩
theorem sc_weight_of : FnScope ["shape"] ["shape"] (defScope (topS 31)) := ⟨rfl, rfl, rfl, by decide +kernel, rfl, by decide +kernel, by decide +kernel⟩
theorem sc_set_right : FnScope ["word", "part", "left", "top", "right"] ["word", "part"] (defScope (topS 32)) := ⟨rfl, rfl, rfl, by decide +kernel, rfl, by decide +kernel, by decide +kernel⟩
theorem sc_is_greater : FnScope ["word", "one", "other"] ["word", "one", "other"] (defScope (topS 33)) := ⟨rfl, rfl, rfl, by decide +kernel, rfl, by decide +kernel, by decide +kernel⟩
theorem sc_is_inner : FnScope ["word", "inner", "outer"] ["word", "inner", "outer"] (defScope (topS 34)) := ⟨rfl, rfl, rfl, by decide +kernel, rfl, by decide +kernel, by decide +kernel⟩
theorem sc_put_right : FnScope ["word", "shape", "key", "left", "top", "right"] ["word", "shape", "key"] (defScope (topS 35)) := ⟨rfl, rfl, rfl, by decide +kernel, rfl, by decide +kernel, by decide +kernel⟩
theorem sc_take_right : FnScope ["word", "shape", "key", "left", "top", "right", "new"] ["word", "shape", "key"] (defScope (topS 36)) := ⟨rfl, rfl, rfl, by decide +kernel, rfl, by decide +kernel, by decide +kernel⟩
theorem sc_all_parts : FnScope ["shape"] ["shape"] (defScope (topS 42)) := ⟨rfl, rfl, rfl, by decide +kernel, rfl, by decide +kernel, by decide +kernel⟩
theorem sc_are_right : FnScope ["word", "shape", "part"] ["word", "shape"] (defScope (topS 43)) := ⟨rfl, rfl, rfl, by decide +kernel, rfl, by decide +kernel, by decide +kernel⟩
theorem sc_is_rule : FnScope ["candidate", "key"] ["candidate"] (defScope (topS 58)) := ⟨rfl, rfl, rfl, by decide +kernel, rfl, by decide +kernel, by decide +kernel⟩
theorem sc_need_rule : FnScope ["value"] ["value"] (defScope (topS 59)) := ⟨rfl, rfl, rfl, by decide +kernel, rfl, by decide +kernel, by decide +kernel⟩
theorem sc_is_kept : FnScope ["rule", "shape"] ["rule", "shape"] (defScope (topS 61)) := ⟨rfl, rfl, rfl, by decide +kernel, rfl, by decide +kernel, by decide +kernel⟩
theorem sc_keeps : FnScope ["rule", "shape"] ["rule", "shape"] (defScope (topS 62)) := ⟨rfl, rfl, rfl, by decide +kernel, rfl, by decide +kernel, by decide +kernel⟩
theorem sc_with_key : FnScope ["rule", "shape", "key"] ["rule", "shape", "key"] (defScope (topS 63)) := ⟨rfl, rfl, rfl, by decide +kernel, rfl, by decide +kernel, by decide +kernel⟩
theorem sc_without_key : FnScope ["rule", "shape", "key", "one"] ["rule", "shape", "key"] (defScope (topS 64)) := ⟨rfl, rfl, rfl, by decide +kernel, rfl, by decide +kernel, by decide +kernel⟩
theorem sc_moved : FnScope ["rule", "shape", "key"] ["rule", "shape", "key"] (defScope (topS 65)) := ⟨rfl, rfl, rfl, by decide +kernel, rfl, by decide +kernel, by decide +kernel⟩
theorem sc_behind : FnScope ["rule", "shape", "deed"] ["rule", "shape", "deed"] (defScope (topS 66)) := ⟨rfl, rfl, rfl, by decide +kernel, rfl, by decide +kernel, by decide +kernel⟩
theorem sc_is_deed : FnScope ["value"] ["value"] (defScope (topS 67)) := ⟨rfl, rfl, rfl, by decide +kernel, rfl, by decide +kernel, by decide +kernel⟩
theorem sc_is_possible : FnScope ["shape", "deed"] ["shape", "deed"] (defScope (topS 68)) := ⟨rfl, rfl, rfl, by decide +kernel, rfl, by decide +kernel, by decide +kernel⟩
theorem sc_need_deed : FnScope ["shape", "value"] ["shape", "value"] (defScope (topS 69)) := ⟨rfl, rfl, rfl, by decide +kernel, rfl, by decide +kernel, by decide +kernel⟩
theorem sc_after : FnScope ["rule", "shape", "deed"] ["rule", "shape", "deed"] (defScope (topS 70)) := ⟨rfl, rfl, rfl, by decide +kernel, rfl, by decide +kernel, by decide +kernel⟩
theorem sc_drawL : FnScope ["_law_script", "_law_town", "_law_many", "_law_one", "_law_at", "_law_mixed"] ["_law_script", "_law_town", "_law_many"] (defScope (topS 72)) := ⟨rfl, rfl, rfl, by decide +kernel, rfl, by decide +kernel, by decide +kernel⟩
theorem sc_pickL : FnScope ["_law_script", "_law_town", "_law_some"] ["_law_script", "_law_town", "_law_some"] (defScope (topS 73)) := ⟨rfl, rfl, rfl, by decide +kernel, rfl, by decide +kernel, by decide +kernel⟩
theorem sc_keysL : FnScope ["_law_shape"] ["_law_shape"] (defScope (topS 74)) := ⟨rfl, rfl, rfl, by decide +kernel, rfl, by decide +kernel, by decide +kernel⟩
theorem sc_pathL : FnScope ["_law_shape", "_law_key"] ["_law_shape", "_law_key"] (defScope (topS 76)) := ⟨rfl, rfl, rfl, by decide +kernel, rfl, by decide +kernel, by decide +kernel⟩
theorem sc_plantL : FnScope ["_law_keys_here", "_law_top", "_law_key"] ["_law_keys_here"] (defScope (topS 78)) := ⟨rfl, rfl, rfl, by decide +kernel, rfl, by decide +kernel, by decide +kernel⟩
theorem sc_orderL : FnScope ["_law_shape"] ["_law_shape"] (defScope (topS 79)) := ⟨rfl, rfl, rfl, by decide +kernel, rfl, by decide +kernel, by decide +kernel⟩
theorem sc_turnL : FnScope ["_law_shape", "_law_key", "_law_left", "_law_top", "_law_right"] ["_law_shape", "_law_key"] (defScope (topS 80)) := ⟨rfl, rfl, rfl, by decide +kernel, rfl, by decide +kernel, by decide +kernel⟩
theorem sc_leafL : FnScope ["_law_shape", "_law_key"] ["_law_shape", "_law_key"] (defScope (topS 81)) := ⟨rfl, rfl, rfl, by decide +kernel, rfl, by decide +kernel, by decide +kernel⟩
theorem sc_partL : FnScope ["_law_shape", "_law_key"] ["_law_shape", "_law_key"] (defScope (topS 82)) := ⟨rfl, rfl, rfl, by decide +kernel, rfl, by decide +kernel, by decide +kernel⟩
theorem sc_putL : FnScope ["_law_shape", "_law_key", "_law_part_here"] ["_law_shape", "_law_key", "_law_part_here"] (defScope (topS 83)) := ⟨rfl, rfl, rfl, by decide +kernel, rfl, by decide +kernel, by decide +kernel⟩
theorem sc_outL : FnScope ["_law_shape", "_law_key", "_law_left", "_law_top", "_law_right", "_law_above", "_law_new", "_law_own"] ["_law_shape", "_law_key"] (defScope (topS 84)) := ⟨rfl, rfl, rfl, by decide +kernel, rfl, by decide +kernel, by decide +kernel⟩
theorem sc_heavyL : FnScope ["_law_word", "_law_one", "_law_other"] ["_law_word", "_law_one", "_law_other"] (defScope (topS 85)) := ⟨rfl, rfl, rfl, by decide +kernel, rfl, by decide +kernel, by decide +kernel⟩
theorem sc_innerL : FnScope ["_law_word", "_law_inner_here", "_law_outer"] ["_law_word", "_law_inner_here", "_law_outer"] (defScope (topS 86)) := ⟨rfl, rfl, rfl, by decide +kernel, rfl, by decide +kernel, by decide +kernel⟩
theorem sc_fixedL : FnScope ["_law_word", "_law_shape", "_law_key", "_law_left", "_law_top", "_law_right", "_law_up"] ["_law_word", "_law_shape", "_law_key"] (defScope (topS 87)) := ⟨rfl, rfl, rfl, by decide +kernel, rfl, by decide +kernel, by decide +kernel⟩
theorem sc_setL : FnScope ["_law_word", "_law_shape", "_law_above", "_law_key"] ["_law_word", "_law_shape", "_law_above"] (defScope (topS 88)) := ⟨rfl, rfl, rfl, by decide +kernel, rfl, by decide +kernel, by decide +kernel⟩
theorem sc_movedL : FnScope ["_law_name", "_law_shape", "_law_key"] ["_law_name", "_law_shape", "_law_key"] (defScope (topS 100)) := ⟨rfl, rfl, rfl, by decide +kernel, rfl, by decide +kernel, by decide +kernel⟩
theorem sc_inL : FnScope ["_law_rule_here", "_law_shape", "_law_key", "_law_name", "_law_here", "_law_one"] ["_law_rule_here", "_law_shape", "_law_key"] (defScope (topS 102)) := ⟨rfl, rfl, rfl, by decide +kernel, rfl, by decide +kernel, by decide +kernel⟩
theorem sc_afterL : FnScope ["_law_rule_here", "_law_shape", "_law_deed_here", "_law_name", "_law_key", "_law_new", "_law_above", "_law_one"] ["_law_rule_here", "_law_shape", "_law_deed_here"] (defScope (topS 103)) := ⟨rfl, rfl, rfl, by decide +kernel, rfl, by decide +kernel, by decide +kernel⟩
theorem sc_deedL : FnScope ["_law_script", "_law_town", "_law_here", "_law_keys_here", "_law_away", "_law_key"] ["_law_script", "_law_town", "_law_here", "_law_keys_here"] (defScope (topS 107)) := ⟨rfl, rfl, rfl, by decide +kernel, rfl, by decide +kernel, by decide +kernel⟩
theorem sc_law : FnScope ["_law_script", "_law_town", "_law_rule_here", "_law_shape", "_law_k", "_law_deed_here", "_law_new", "_law_key"] ["_law_script"] (defScope (topS 108)) := ⟨rfl, rfl, rfl, by decide +kernel, rfl, by decide +kernel, by decide +kernel⟩
section
variable {X : Cx}
theorem pe_globE {x : Str} {v : V} {pos : Pos} (hg : Gl X x) (hm : ∃ u, X.mg x = some u ∧ RelV v u) (hd : (x == ("__debug__" : Str)) = false := by decide) : PE X (.Name x pos) (tC v) := by
  obtain ⟨u, h, r⟩ := hm
  exact pe_glob hg h r hd
theorem pe_never {e : Expr} : PE X e (fun _ _ _ => False) := ⟨fun _ _ _ _ _ _ h => h.elim⟩
end
section
variable {P : Program} {w : World} {K : PySem.W.Frag} {mg : Str → Option Value} {base : Heap}
theorem none_left {lv : Nat} {f : Addr} {fd : FuncData} {ps : List Str} {sp : Sp} (no : ∀ vs H Q E, ¬ sp vs H Q E) : FnOk P w K mg base CX0 lv f fd ps sp :=
  ⟨fun vs H Q E h => absurd h (no vs H Q E), fun A outer s H args us vs Q E _ _ _ _ h => absurd h (no vs H Q E)⟩
end
end Wk
namespace Wk
open PySem PySem.Spec PyProof.Rows L2
open Wt (Tr)
section
variable {P : Program} {w : World} {K : PySem.W.Frag} {mg : Str → Option Value} {base : Heap}
local macro_rules
  | `(tactic| walk_at "same") => `(tactic| first | exact Same.refl _ | assumption | (refine Same.trans (by assumption) ?_; walk_at "same"))
local macro_rules
  | `(tactic| walk_at "tv") => `(tactic| first | assumption | (refine Tv.same ?_ (by assumption); walk_at "same") | (refine Lv.same ?_ (by assumption); walk_at "same") | (refine Rv.same ?_ (by assumption); walk_at "same") | (refine Dv.same ?_ (by assumption); walk_at "same") | (refine Sv.same ?_ (by assumption); walk_at "same") | (refine Pl.same ?_ (by assumption); walk_at "same"))
local macro_rules
  | `(tactic| walk_at "go1") => `(tactic| first
    | with_reducible refine rd_seq ?_
    | with_reducible refine rd_ret ?_
    | with_reducible refine rd_asg ?_
    | with_reducible refine rd_ifS ?_
    | with_reducible refine rd_next ?_
    | with_reducible refine rd_name ?_
    | ((with_reducible refine rd_var (v := ?rdv) ?rdh ?_); (case rdh => exact rfl))
    | with_reducible refine rd_C ?_
    | with_reducible refine rd_op ?_
    | with_reducible refine rd_un ?_
    | with_reducible refine rd_neg ?_
    | with_reducible refine rd_call ?_
    | with_reducible refine rd_cb ?_
    | with_reducible refine rd_acons ?_
    | with_reducible refine rd_anil ?_
    | with_reducible refine rd_ifE ?_
    | with_reducible refine rd_andV ?_
    | with_reducible refine rd_orV ?_
    | with_reducible refine rd_notV ?_
    | with_reducible refine rd_bl ?_
    | with_reducible refine rd_test ?_
    | with_reducible refine rd_tB ?_
    | with_reducible refine rd_and ?_
    | with_reducible refine rd_or ?_
    | with_reducible refine rd_not ?_
    | ((with_reducible refine rd_lt (b := ?rdb) ?rdh ?_); (case rdh => first | assumption | exact rfl))
    | ((with_reducible refine rd_le (b := ?rdb) ?rdh ?_); (case rdh => first | assumption | exact rfl))
    | ((with_reducible refine rd_gt (b := ?rdb) ?rdh ?_); (case rdh => first | assumption | exact rfl))
    | ((with_reducible refine rd_ge (b := ?rdb) ?rdh ?_); (case rdh => first | assumption | exact rfl))
    | with_reducible refine rd_I0 ?_
    | ((with_reducible refine rd_mulL ?rdh ?_); (case rdh => constructor <;> decide))
    | ((with_reducible refine rd_eqI (b := ?rdb) ?rdh ?_); (case rdh => first | assumption | exact rfl))
    | ((with_reducible refine rd_neI (b := ?rdb) ?rdh ?_); (case rdh => first | assumption | exact rfl))
    | with_reducible refine rd_eqSs ?_
    | ((with_reducible refine rd_eqSn ?rdh ?_); (case rdh => decide +kernel))
    | with_reducible refine rd_neSs ?_
    | ((with_reducible refine rd_neSn ?rdh ?_); (case rdh => decide +kernel))
    | with_reducible refine rd_eqB ?_
    | with_reducible refine rd_chain ?_
    | with_reducible refine rd_isiInt ?_
    | with_reducible refine rd_isiBool ?_
    | with_reducible refine rd_isiStr ?_
    | ((with_reducible refine rd_isiTr (t := ?rdt) ?rdh ?_); (case rdh => walk_at "tv"))
    | ((with_reducible refine rd_len (ns := ?rdl) ?rdh ?_); (case rdh => walk_at "tv"))
    | ((with_reducible refine rd_len3 (l := ?rdl) (r := ?rdr) (k := ?rdk) ?rdh ?_); (case rdh => walk_at "tv")))
local macro_rules
  | `(tactic| walk_at "go") => `(tactic| repeat walk_at "go1")
local macro_rules
  | `(tactic| walk_at "le") => `(tactic| first | assumption | omega | (simp only [sz] at *; omega) | (simp only [List.length_append, List.length_cons, List.length_nil, keys_sz, parts_sz, sz] at *; omega))
local macro_rules
  | `(tactic| walk_at "go1") => `(tactic| first
    | ((with_reducible refine rd_nil ?_); intro _ _ _ _)
    | ((with_reducible refine rd_notNil (t := ?rdt) ?rdh ?rdi ?rdb ?_); (case rdh => walk_at "tv"); (case rdi => walk_at "tv"); (case rdb => walk_at "le"))
    | ((with_reducible refine rd_isNil (t := ?rdt) ?rdh ?rdi ?rdb ?_); (case rdh => walk_at "tv"); (case rdi => walk_at "tv"); (case rdb => walk_at "le"))
    | ((with_reducible refine rd_iT ?rdc ?_); (case rdc => first | assumption | exact rfl))
    | ((with_reducible refine rd_iF ?rdc ?_); (case rdc => first | assumption | exact rfl))
    | ((with_reducible refine rd_at0 (l := ?rdl) (r := ?rdr) (k := ?rdk) ?rdh ?_); (case rdh => walk_at "tv"); intro _ _)
    | ((with_reducible refine rd_at1 (l := ?rdl) (r := ?rdr) (k := ?rdk) ?rdh ?_); (case rdh => walk_at "tv"))
    | ((with_reducible refine rd_at2 (l := ?rdl) (r := ?rdr) (k := ?rdk) ?rdh ?_); (case rdh => walk_at "tv"); intro _ _)
    | ((with_reducible refine rd_ints0 ?_); intro _ _ _ _ _)
    | ((with_reducible refine rd_ints1 ?_); intro _ _ _ _ _)
    | ((with_reducible refine rd_cat (as := ?rda) (bs := ?rdc) ?rdh ?rdi ?rdb ?_); (case rdh => walk_at "tv"); (case rdi => walk_at "tv"); (case rdb => walk_at "le"); intro _ _ _ _ _)
    | ((with_reducible refine rd_tup ?_))
    | ((with_reducible refine rd_lst ?_))
    | ((with_reducible refine rd_unpack (l := ?rdl) (r := ?rdr) (k := ?rdk) ?rdh ?_); (case rdh => walk_at "tv"); intro _ _ _ _)
    | ((with_reducible refine rd_node (l := ?rdl) (r := ?rdr) ?rdh ?rdi ?_); (case rdh => walk_at "tv"); (case rdi => walk_at "tv"); intro _ _ _ _))
local macro_rules
  | `(tactic| walk_at "go1") => `(tactic| first
    | ((with_reducible refine rd_rule0 ?rdh ?_); (case rdh => walk_at "tv"))
    | ((with_reducible refine rd_deed0a (k := ?rdk) ?rdh ?_); (case rdh => walk_at "tv"))
    | ((with_reducible refine rd_deed0i (k := ?rdk) ?rdh ?_); (case rdh => walk_at "tv"))
    | ((with_reducible refine rd_deed0o (k := ?rdk) ?rdh ?_); (case rdh => walk_at "tv"))
    | with_reducible refine rd_drop ?_
    | ((with_reducible refine rd_deed1 (w := ?rdw) (k := ?rdk) ?rdh ?_); (case rdh => walk_at "tv"))
    | ((with_reducible refine rd_isiR ?rdh ?_); (case rdh => walk_at "tv"))
    | ((with_reducible refine rd_isiD (w := ?rdw) (k := ?rdk) ?rdh ?_); (case rdh => walk_at "tv"))
    | ((with_reducible refine rd_lenR ?rdh ?_); (case rdh => walk_at "tv"))
    | ((with_reducible refine rd_lenD (w := ?rdw) (k := ?rdk) ?rdh ?_); (case rdh => walk_at "tv"))
    | ((with_reducible refine rd_eqR ?rdh ?rdi ?_); (case rdh => walk_at "tv"); (case rdi => walk_at "tv"))
    | ((with_reducible refine rd_strs2 ?_); intro _ _ _ _)
    | ((with_reducible refine rd_strs3 ?_); intro _ _ _ _)
    | ((with_reducible refine rd_inS (zs := ?rdz) ?rdh ?rde ?_); (case rdh => walk_at "tv"); (case rde => decide +kernel))
    | ((with_reducible refine rd_inI (ns := ?rdz) (b := ?rdb) ?rdh ?rde ?_); (case rdh => walk_at "tv"); (case rde => first | assumption | exact rfl))
    | ((with_reducible refine rd_ninI (ns := ?rdz) (b := ?rdb) ?rdh ?rde ?_); (case rdh => walk_at "tv"); (case rde => first | assumption | exact rfl))
    | ((with_reducible refine rd_pl1 (t := ?rdt) ?rdh ?_); (case rdh => walk_at "tv"); intro _ _ _ _)
    | ((with_reducible refine rd_catP (as := ?rda) (bs := ?rdc) ?rdh ?rdi ?rdb ?_); (case rdh => walk_at "tv"); (case rdi => walk_at "tv"); (case rdb => walk_at "le"); intro _ _ _ _)
    | with_reducible refine rd_forL ?_)
/-! ### is_number -/
def spNumber : Sp := fun vs H Q _ => ∃ (i lo hi : Int), vs = [.int i, .int lo, .int hi] ∧ Q (.bl (decide (lo ≤ i) && decide (i ≤ hi))) H
theorem rd_number {i lo hi : Int} {b : Bool} {H : Hp} {Q : VK} {E : XK} (h : (decide (lo ≤ i) && decide (i ≤ hi)) = b) (q : Q (.bl b) H) : spNumber [.int i, .int lo, .int hi] H Q E := ⟨i, lo, hi, rfl, by rw [h]; exact q⟩
local macro_rules
  | `(tactic| walk_at "go1") => `(tactic| ((with_reducible refine rd_number (b := ?rdb) ?rdh ?_); (case rdh => first | assumption | exact rfl)))
theorem ok_is_number (p : Prog K mg) : FnOk P w K mg base CX0 1 p.a_is_number p.d_is_number ["value", "least", "most"] spNumber := by
  refine p.D_is_number.F.ok sc_is_number (fun vs H Q E h => ?_) (fun cdv A outer s H vs Q E hr h => ?_)
  · obtain ⟨i, lo, hi, rfl, _⟩ := h
    rfl
  obtain ⟨i, lo, hi, rfl, q⟩ := h
  refine ⟨_, (pss_one (ps_ret (pe_and (pe_callB call_isi rfl p.z_isinstance (by decide +kernel) (pa_cons (pv 0) (pa_cons (pe_bltn (v := .ty "int") (u := .type "int") rfl p.z_int (by decide +kernel) rfl) pa_nil))) (pe_and (pe_not (pe_callB call_isi rfl p.z_isinstance (by decide +kernel) (pa_cons (pv 0) (pa_cons (pe_bltn (v := .ty "bool") (u := .type "bool") rfl p.z_bool (by decide +kernel) rfl) pa_nil)))) (pe_one (pe_chain op_le op_le (pv 1) (pv 0) (pv 2))))))), ?_⟩
  cases h1 : decide (lo ≤ i) <;> rw [h1] at q <;> walk_at "go" <;> exact q
/-! ### is_between -/
def spBetween (n : Nat) : Sp := fun vs H Q _ => ∃ (v : V) (t : Tr) (lo hi : Int), vs = [v, .int lo, .int hi] ∧ Tv H v t ∧ sz t < n ∧ sz t ≤ 60 ∧ ∀ H', Same H H' → Q (.bl (Wt.btw t lo hi)) H'
theorem rd_between {n : Nat} {v : V} {t : Tr} {lo hi : Int} {b : Bool} {H : Hp} {Q : VK} {E : XK} (h : Tv H v t) (i : sz t < n) (j : sz t ≤ 60) (e : Wt.btw t lo hi = b) (q : ∀ H', Same H H' → Q (.bl b) H') : spBetween n [v, .int lo, .int hi] H Q E := ⟨v, t, lo, hi, rfl, h, i, j, by rw [e]; exact q⟩
local macro_rules
  | `(tactic| walk_at "go1") => `(tactic| ((with_reducible refine rd_between (t := ?rdt) (b := ?rdb) ?rdh ?rdi ?rdj ?rde ?_); (case rdh => walk_at "tv"); (case rdi => walk_at "le"); (case rdj => walk_at "le"); (case rde => first | assumption | exact rfl); intro _ _))
theorem ok_is_between (p : Prog K mg) : ∀ n, FnOk P w K mg base CX0 (n + 1) p.a_is_between p.d_is_between ["value", "low", "high"] (spBetween n)
  | 0 => none_left fun vs H Q E ⟨_, _, _, _, _, _, h, _⟩ => Nat.not_lt_zero _ h
  | n + 1 => by
    have ih := ok_is_between p n
    refine p.D_is_between.F.ok sc_is_between (fun vs H Q E h => ?_) (fun cdv A outer s H vs Q E hr h => ?_)
    · obtain ⟨v, t, lo, hi, rfl, _⟩ := h
      rfl
    obtain ⟨v, t, lo, hi, rfl, hv, hb, hc, q⟩ := h
    refine ⟨_, (pss_cons (ps_if (PW.pt (pw_and (pt_cmpR (op_eqD hr.units) (pv 0) (pe_tup pa_nil) (nomark _)) (pw_and1 (pt_val (pe_callB call_isi rfl p.z_isinstance (by decide +kernel) (pa_cons (pv 0) (pa_cons (pe_bltn (v := .ty "tuple") (u := .type "tuple") rfl p.z_tuple (by decide +kernel) rfl) pa_nil))))))) (pss_one (ps_ret pe_bl)) pss_nil)
      (pss_cons (ps_if (PW.pt (pw_or (pt_not (pt_val (pe_callB call_isi rfl p.z_isinstance (by decide +kernel) (pa_cons (pv 0) (pa_cons (pe_bltn (v := .ty "tuple") (u := .type "tuple") rfl p.z_tuple (by decide +kernel) rfl) pa_nil))))) (pw_or (pt_cmpR op_ne (pe_callB call_lenN rfl p.z_len PySem.boot_len (pa_cons (pv 0) pa_nil)) pe_int (nomark _)) (pw_or1 (pt_not (pt_val (pe_call (ok_is_number p) (hr.mono (by omega)) rfl p.D_is_number.g p.D_is_number.F.kp p.D_is_number.b .nil pass0 (pa_cons (pe_ix ix_tup (pv 0) pe_int (fun _ _ => rfl)) (pa_cons (pv 1) (pa_cons (pv 2) pa_nil)))))))))) (pss_one (ps_ret pe_bl)) pss_nil)
      (pss_one (ps_ret (pe_and (pe_call ih hr rfl p.D_is_between.g p.D_is_between.F.kp p.D_is_between.b .nil pass0 (pa_cons (pe_ix ix_tup (pv 0) pe_int (fun _ _ => rfl)) (pa_cons (pv 1) (pa_cons (pe_op op_sub (pe_ix ix_tup (pv 0) pe_int (fun _ _ => rfl)) pe_int) pa_nil)))) (pe_one (pe_call ih hr rfl p.D_is_between.g p.D_is_between.F.kp p.D_is_between.b .nil pass0 (pa_cons (pe_ix ix_tup (pv 0) pe_int (fun _ _ => rfl)) (pa_cons (pe_op op_add (pe_ix ix_tup (pv 0) pe_int (fun _ _ => rfl)) pe_int) (pa_cons (pv 2) pa_nil)))))))))), ?_⟩
    cases t with
    | nil =>
      walk_at "go"
      exact q _ (by walk_at "same")
    | node l k r =>
      cases h1 : (decide (lo ≤ k) && decide (k ≤ hi)) with
      | false =>
        walk_at "go"
        have e : Wt.btw (.node l k r) lo hi = false := by simp only [Wt.btw, h1, Bool.false_and]
        rw [e] at q
        exact q _ (by walk_at "same")
      | true =>
        cases h2 : Wt.btw l lo (k - 1) with
        | false =>
          walk_at "go"
          have e : Wt.btw (.node l k r) lo hi = false := by simp only [Wt.btw, h1, h2, Bool.true_and, Bool.false_and]
          rw [e] at q
          exact q _ (by walk_at "same")
        | true =>
          walk_at "go"
          have e : Wt.btw (.node l k r) lo hi = Wt.btw r (k + 1) hi := by simp only [Wt.btw, h1, h2, Bool.true_and]
          rw [e] at q
          exact q _ (by walk_at "same")
/-! ### is_shape, need_shape -/
def spShape : Sp := fun vs H Q _ => ∃ (v : V) (t : Tr), vs = [v] ∧ Tv H v t ∧ sz t ≤ 8 ∧ ∀ H', Same H H' → Q (.bl (Wt.btw t 1 6)) H'
theorem rd_shape {v : V} {t : Tr} {b : Bool} {H : Hp} {Q : VK} {E : XK} (h : Tv H v t) (i : sz t ≤ 8) (e : Wt.btw t 1 6 = b) (q : ∀ H', Same H H' → Q (.bl b) H') : spShape [v] H Q E := ⟨v, t, rfl, h, i, by rw [e]; exact q⟩
local macro_rules
  | `(tactic| walk_at "go1") => `(tactic| ((with_reducible refine rd_shape (t := ?rdt) (b := ?rdb) ?rdh ?rdi ?rde ?_); (case rdh => walk_at "tv"); (case rdi => walk_at "le"); (case rde => first | assumption | exact rfl); intro _ _))
theorem ok_is_shape (p : Prog K mg) : FnOk P w K mg base CX0 11 p.a_is_shape p.d_is_shape ["candidate"] spShape := by
  refine p.D_is_shape.F.ok sc_is_shape (fun vs H Q E h => ?_) (fun cdv A outer s H vs Q E hr h => ?_)
  · obtain ⟨v, t, rfl, _⟩ := h
    rfl
  obtain ⟨v, t, rfl, hv, hb, q⟩ := h
  refine ⟨_, (pss_one (ps_ret (pe_call (ok_is_between p 9) (hr.mono (by decide)) rfl p.D_is_between.g p.D_is_between.F.kp p.D_is_between.b .nil pass0 (pa_cons (pv 0) (pa_cons pe_int (pa_cons (pe_globE rfl p.m_MOST) pa_nil)))))), ?_⟩
  walk_at "go"
  exact q _ (by walk_at "same")
def spNeedShape : Sp := fun vs H Q _ => ∃ (v : V) (t : Tr), vs = [v] ∧ Tv H v t ∧ sz t ≤ 8 ∧ Wt.btw t 1 6 = true ∧ ∀ H', Same H H' → Q .non H'
theorem rd_needShape {v : V} {t : Tr} {H : Hp} {Q : VK} {E : XK} (h : Tv H v t) (i : sz t ≤ 8) (e : Wt.btw t 1 6 = true) (q : ∀ H', Same H H' → Q .non H') : spNeedShape [v] H Q E := ⟨v, t, rfl, h, i, e, q⟩
theorem ok_need_shape (p : Prog K mg) : FnOk P w K mg base CX0 12 p.a_need_shape p.d_need_shape ["value"] spNeedShape := by
  refine p.D_need_shape.F.ok sc_need_shape (fun vs H Q E h => ?_) (fun cdv A outer s H vs Q E hr h => ?_)
  · obtain ⟨v, t, rfl, _⟩ := h
    rfl
  obtain ⟨v, t, rfl, hv, hb, hs, q⟩ := h
  refine ⟨_, (pss_one (ps_if (pt_not (pt_val (pe_call (ok_is_shape p) (hr.mono (by decide)) rfl p.D_is_shape.g p.D_is_shape.F.kp p.D_is_shape.b .nil pass0 (pa_cons (pv 0) pa_nil)))) (pss_one ps_never) pss_nil)), ?_⟩
  walk_at "go"
  exact q _ (by walk_at "same")
/-! ### keys_of, size_of -/
def spKeys (n : Nat) : Sp := fun vs H Q _ => ∃ (v : V) (t : Tr), vs = [v] ∧ Tv H v t ∧ sz t < n ∧ sz t ≤ 60 ∧ ∀ u H', Same H H' → Lv H' u t.keys → Q u H'
theorem rd_keys {n : Nat} {v : V} {t : Tr} {ns : List Int} {H : Hp} {Q : VK} {E : XK} (h : Tv H v t) (b : sz t < n) (c : sz t ≤ 60) (e : t.keys = ns) (q : ∀ u H', Same H H' → Lv H' u ns → Q u H') : spKeys n [v] H Q E := ⟨v, t, rfl, h, b, c, by rw [e]; exact q⟩
local macro_rules
  | `(tactic| walk_at "go1") => `(tactic| ((with_reducible refine rd_keys (t := ?rdt) (ns := ?rdl) ?rdh ?rdb ?rdc ?rde ?_); (case rdh => walk_at "tv"); (case rdb => walk_at "le"); (case rdc => walk_at "le"); (case rde => first | assumption | exact rfl); intro _ _ _ _))
theorem ok_keys_of (p : Prog K mg) : ∀ n, FnOk P w K mg base CX0 n p.a_keys_of p.d_keys_of ["shape"] (spKeys n)
  | 0 => none_left fun vs H Q E ⟨_, _, _, _, h, _⟩ => Nat.not_lt_zero _ h
  | n + 1 => by
    have ih := ok_keys_of p n
    refine p.D_keys_of.F.ok sc_keys_of (fun vs H Q E h => ?_) (fun cdv A outer s H vs Q E hr h => ?_)
    · obtain ⟨v, t, rfl, _⟩ := h
      rfl
    obtain ⟨v, t, rfl, hv, hb, hc, q⟩ := h
    refine ⟨_, (pss_one (ps_ret (pe_ifExp (pt_cmpR (op_neD hr.units) (pv 0) (pe_tup pa_nil) (nomark _)) (pe_op op_cat (pe_op op_cat (pe_call ih hr rfl p.D_keys_of.g p.D_keys_of.F.kp p.D_keys_of.b .nil pass0 (pa_cons (pe_ix ix_tup (pv 0) pe_int (fun _ _ => rfl)) pa_nil)) (pe_lst (pa_cons (pe_ix ix_tup (pv 0) pe_int (fun _ _ => rfl)) pa_nil))) (pe_call ih hr rfl p.D_keys_of.g p.D_keys_of.F.kp p.D_keys_of.b .nil pass0 (pa_cons (pe_ix ix_tup (pv 0) pe_int (fun _ _ => rfl)) pa_nil))) (pe_lst pa_nil)))), ?_⟩
    cases t with
    | nil =>
      walk_at "go"
      exact q _ _ (by walk_at "same") (by walk_at "tv")
    | node l k r =>
      walk_at "go"
      exact q _ _ (by walk_at "same") (by walk_at "tv")
def spSize (n : Nat) : Sp := fun vs H Q _ => ∃ (v : V) (t : Tr), vs = [v] ∧ Tv H v t ∧ sz t < n ∧ sz t ≤ 60 ∧ ∀ H', Same H H' → Q (.int t.size) H'
theorem rd_size {n : Nat} {v : V} {t : Tr} {H : Hp} {Q : VK} {E : XK} (h : Tv H v t) (b : sz t < n) (c : sz t ≤ 60) (q : ∀ H', Same H H' → Q (.int t.size) H') : spSize n [v] H Q E := ⟨v, t, rfl, h, b, c, q⟩
local macro_rules
  | `(tactic| walk_at "go1") => `(tactic| ((with_reducible refine rd_size (t := ?rdt) ?rdh ?rdb ?rdc ?_); (case rdh => walk_at "tv"); (case rdb => walk_at "le"); (case rdc => walk_at "le"); intro _ _))
theorem ok_size_of (p : Prog K mg) : ∀ n, FnOk P w K mg base CX0 n p.a_size_of p.d_size_of ["shape"] (spSize n)
  | 0 => none_left fun vs H Q E ⟨_, _, _, _, h, _⟩ => Nat.not_lt_zero _ h
  | n + 1 => by
    have ih := ok_size_of p n
    refine p.D_size_of.F.ok sc_size_of (fun vs H Q E h => ?_) (fun cdv A outer s H vs Q E hr h => ?_)
    · obtain ⟨v, t, rfl, _⟩ := h
      rfl
    obtain ⟨v, t, rfl, hv, hb, hc, q⟩ := h
    refine ⟨_, (pss_one (ps_ret (pe_ifExp (pt_cmpR (op_neD hr.units) (pv 0) (pe_tup pa_nil) (nomark _)) (pe_op op_add (pe_op op_add (pe_call ih hr rfl p.D_size_of.g p.D_size_of.F.kp p.D_size_of.b .nil pass0 (pa_cons (pe_ix ix_tup (pv 0) pe_int (fun _ _ => rfl)) pa_nil)) pe_int) (pe_call ih hr rfl p.D_size_of.g p.D_size_of.F.kp p.D_size_of.b .nil pass0 (pa_cons (pe_ix ix_tup (pv 0) pe_int (fun _ _ => rfl)) pa_nil))) pe_int))), ?_⟩
    cases t with
    | nil =>
      walk_at "go"
      exact q _ (by walk_at "same")
    | node l k r =>
      walk_at "go"
      exact q _ (by walk_at "same")
/-! ### left_up, right_up -/
def spUp (f : Tr → Option Tr) : Sp := fun vs H Q _ => ∃ (v : V) (t t' : Tr), vs = [v] ∧ Tv H v t ∧ f t = some t' ∧ ∀ u H', Same H H' → Tv H' u t' → Q u H'
theorem rd_up {f : Tr → Option Tr} {v : V} {t t' : Tr} {H : Hp} {Q : VK} {E : XK} (h : Tv H v t) (e : f t = some t') (q : ∀ u H', Same H H' → Tv H' u t' → Q u H') : spUp f [v] H Q E := ⟨v, t, t', rfl, h, e, q⟩
local macro_rules
  | `(tactic| walk_at "go1") => `(tactic| ((with_reducible refine rd_up (t := ?rdt) (t' := ?rdu) ?rdh ?rde ?_); (case rdh => walk_at "tv"); (case rde => assumption); intro _ _ _ _))
theorem ok_left_up (p : Prog K mg) : FnOk P w K mg base CX0 1 p.a_left_up p.d_left_up ["part"] (spUp Wt.leftUp) := by
  refine p.D_left_up.F.ok sc_left_up (fun vs H Q E h => ?_) (fun cdv A outer s H vs Q E hr h => ?_)
  · obtain ⟨v, t, t', rfl, _⟩ := h
    rfl
  obtain ⟨v, t, t', rfl, hv, e, q⟩ := h
  refine ⟨_, (pss_cons (ps_asg (pv 0) (pg_tup (n := 3) rfl (pgs_cons (pg_name (i := 1) sc_left_up.nd rfl (Or.inl rfl)) (pgs_cons (pg_name (i := 2) sc_left_up.nd rfl (Or.inl rfl)) (pgs_cons (pg_name (i := 3) sc_left_up.nd rfl (Or.inl rfl)) pgs_nil)))))
      (pss_one (ps_ret (pe_tup (pa_cons (pe_ix ix_tup (pv 1) pe_int (fun _ _ => rfl)) (pa_cons (pe_ix ix_tup (pv 1) pe_int (fun _ _ => rfl)) (pa_cons (pe_tup (pa_cons (pe_ix ix_tup (pv 1) pe_int (fun _ _ => rfl)) (pa_cons (pv 2) (pa_cons (pv 3) pa_nil)))) pa_nil))))))), ?_⟩
  cases t with
  | nil => cases e
  | node l j c =>
    cases l with
    | nil => cases e
    | node a k b =>
      cases e
      walk_at "go"
      exact q _ _ (by walk_at "same") (by walk_at "tv")
theorem ok_right_up (p : Prog K mg) : FnOk P w K mg base CX0 1 p.a_right_up p.d_right_up ["part"] (spUp Wt.rightUp) := by
  refine p.D_right_up.F.ok sc_right_up (fun vs H Q E h => ?_) (fun cdv A outer s H vs Q E hr h => ?_)
  · obtain ⟨v, t, t', rfl, _⟩ := h
    rfl
  obtain ⟨v, t, t', rfl, hv, e, q⟩ := h
  refine ⟨_, (pss_cons (ps_asg (pv 0) (pg_tup (n := 3) rfl (pgs_cons (pg_name (i := 1) sc_right_up.nd rfl (Or.inl rfl)) (pgs_cons (pg_name (i := 2) sc_right_up.nd rfl (Or.inl rfl)) (pgs_cons (pg_name (i := 3) sc_right_up.nd rfl (Or.inl rfl)) pgs_nil)))))
      (pss_one (ps_ret (pe_tup (pa_cons (pe_tup (pa_cons (pv 1) (pa_cons (pv 2) (pa_cons (pe_ix ix_tup (pv 3) pe_int (fun _ _ => rfl)) pa_nil)))) (pa_cons (pe_ix ix_tup (pv 3) pe_int (fun _ _ => rfl)) (pa_cons (pe_ix ix_tup (pv 3) pe_int (fun _ _ => rfl)) pa_nil))))))), ?_⟩
  cases t with
  | nil => cases e
  | node a j r =>
    cases r with
    | nil => cases e
    | node b k c =>
      cases e
      walk_at "go"
      exact q _ _ (by walk_at "same") (by walk_at "tv")
/-! ### least, weight_of, is_greater, is_inner -/
def spLeast (n : Nat) : Sp := fun vs H Q _ => ∃ (v : V) (t : Tr) (k : Int), vs = [v] ∧ Tv H v t ∧ sz t < n ∧ sz t ≤ 60 ∧ Wt.least t = some k ∧ ∀ H', Same H H' → Q (.int k) H'
theorem rd_least {n : Nat} {v : V} {t : Tr} {k : Int} {H : Hp} {Q : VK} {E : XK} (h : Tv H v t) (b : sz t < n) (c : sz t ≤ 60) (e : Wt.least t = some k) (q : ∀ H', Same H H' → Q (.int k) H') : spLeast n [v] H Q E := ⟨v, t, k, rfl, h, b, c, e, q⟩
local macro_rules
  | `(tactic| walk_at "go1") => `(tactic| ((with_reducible refine rd_least (t := ?rdt) (k := ?rdk) ?rdh ?rdb ?rdc ?rde ?_); (case rdh => walk_at "tv"); (case rdb => walk_at "le"); (case rdc => walk_at "le"); (case rde => assumption); intro _ _))
theorem ok_least (p : Prog K mg) : ∀ n, FnOk P w K mg base CX0 n p.a_least p.d_least ["shape"] (spLeast n)
  | 0 => none_left fun vs H Q E ⟨_, _, _, _, _, h, _⟩ => Nat.not_lt_zero _ h
  | n + 1 => by
    have ih := ok_least p n
    refine p.D_least.F.ok sc_least (fun vs H Q E h => ?_) (fun cdv A outer s H vs Q E hr h => ?_)
    · obtain ⟨v, t, k, rfl, _⟩ := h
      rfl
    obtain ⟨v, t, k, rfl, hv, hb, hc, e, q⟩ := h
    refine ⟨_, (pss_one (ps_ret (pe_ifExp (pt_cmpR (op_eqD hr.units) (pe_ix ix_tup (pv 0) pe_int (fun _ _ => rfl)) (pe_tup pa_nil) (nomark _)) (pe_ix ix_tup (pv 0) pe_int (fun _ _ => rfl)) (pe_call ih hr rfl p.D_least.g p.D_least.F.kp p.D_least.b .nil pass0 (pa_cons (pe_ix ix_tup (pv 0) pe_int (fun _ _ => rfl)) pa_nil))))), ?_⟩
    cases t with
    | nil => cases e
    | node l j r =>
      cases l with
      | nil =>
        cases e
        walk_at "go"
        exact q _ (by walk_at "same")
      | node a i b =>
        have e' : Wt.least (.node a i b) = some k := e
        walk_at "go"
        exact q _ (by walk_at "same")
def spWeight : Sp := fun vs H Q _ => ∃ (v : V) (t : Tr), vs = [v] ∧ Tv H v t ∧ sz t ≤ 8 ∧ ∀ H', Same H H' → Q (.int (t.size + 1)) H'
theorem rd_weight {v : V} {t : Tr} {H : Hp} {Q : VK} {E : XK} (h : Tv H v t) (b : sz t ≤ 8) (q : ∀ H', Same H H' → Q (.int (t.size + 1)) H') : spWeight [v] H Q E := ⟨v, t, rfl, h, b, q⟩
local macro_rules
  | `(tactic| walk_at "go1") => `(tactic| ((with_reducible refine rd_weight (t := ?rdt) ?rdh ?rdb ?_); (case rdh => walk_at "tv"); (case rdb => walk_at "le"); intro _ _))
theorem ok_weight_of (p : Prog K mg) : FnOk P w K mg base CX0 10 p.a_weight_of p.d_weight_of ["shape"] spWeight := by
  refine p.D_weight_of.F.ok sc_weight_of (fun vs H Q E h => ?_) (fun cdv A outer s H vs Q E hr h => ?_)
  · obtain ⟨v, t, rfl, _⟩ := h
    rfl
  obtain ⟨v, t, rfl, hv, hb, q⟩ := h
  refine ⟨_, (pss_one (ps_ret (pe_op op_add (pe_call (ok_size_of p 9) (hr.mono (by decide)) rfl p.D_size_of.g p.D_size_of.F.kp p.D_size_of.b .nil pass0 (pa_cons (pv 0) pa_nil)) pe_int))), ?_⟩
  walk_at "go"
  exact q _ (by walk_at "same")
def spCmp (f : Tr → Tr → Bool) : Sp := fun vs H Q _ => ∃ (u v : V) (a b : Tr), vs = [.str "weights", u, v] ∧ Tv H u a ∧ Tv H v b ∧ sz a ≤ 8 ∧ sz b ≤ 8 ∧ ∀ H', Same H H' → Q (.bl (f a b)) H'
theorem rd_cmp {f : Tr → Tr → Bool} {u v : V} {a b : Tr} {c : Bool} {H : Hp} {Q : VK} {E : XK} (h : Tv H u a) (i : Tv H v b) (j : sz a ≤ 8) (k : sz b ≤ 8) (e : f a b = c) (q : ∀ H', Same H H' → Q (.bl c) H') : spCmp f [.str "weights", u, v] H Q E := ⟨u, v, a, b, rfl, h, i, j, k, by rw [e]; exact q⟩
local macro_rules
  | `(tactic| walk_at "go1") => `(tactic| ((with_reducible refine rd_cmp (a := ?rda) (b := ?rdb) (c := ?rdc) ?rdh ?rdi ?rdj ?rdk ?rde ?_); (case rdh => walk_at "tv"); (case rdi => walk_at "tv"); (case rdj => walk_at "le"); (case rdk => walk_at "le"); (case rde => first | assumption | exact rfl); intro _ _))
theorem ok_is_greater (p : Prog K mg) : FnOk P w K mg base CX0 11 p.a_is_greater p.d_is_greater ["word", "one", "other"] (spCmp Wt.greater) := by
  refine p.D_is_greater.F.ok sc_is_greater (fun vs H Q E h => ?_) (fun cdv A outer s H vs Q E hr h => ?_)
  · obtain ⟨u, v, a, b, rfl, _⟩ := h
    rfl
  obtain ⟨u, v, a, b, rfl, hu, hv, h1, h2, q⟩ := h
  refine ⟨_, (pss_cons (ps_if (pt_cmpR op_eq (pv 0) pe_str (nomark _)) pss_never pss_nil)
      (pss_one (ps_ret (pe_cmpR op_gt (pe_call (ok_weight_of p) (hr.mono (by decide)) rfl p.D_weight_of.g p.D_weight_of.F.kp p.D_weight_of.b .nil pass0 (pa_cons (pv 1) pa_nil)) (pe_op op_mul pe_int (pe_call (ok_weight_of p) (hr.mono (by decide)) rfl p.D_weight_of.g p.D_weight_of.F.kp p.D_weight_of.b .nil pass0 (pa_cons (pv 2) pa_nil))) (nomark _))))), ?_⟩
  walk_at "go"
  exact q _ (by walk_at "same")
theorem ok_is_inner (p : Prog K mg) : FnOk P w K mg base CX0 11 p.a_is_inner p.d_is_inner ["word", "inner", "outer"] (spCmp Wt.inner) := by
  refine p.D_is_inner.F.ok sc_is_inner (fun vs H Q E h => ?_) (fun cdv A outer s H vs Q E hr h => ?_)
  · obtain ⟨u, v, a, b, rfl, _⟩ := h
    rfl
  obtain ⟨u, v, a, b, rfl, hu, hv, h1, h2, q⟩ := h
  refine ⟨_, (pss_cons (ps_if (pt_cmpR op_eq (pv 0) pe_str (nomark _)) pss_never pss_nil)
      (pss_one (ps_ret (pe_cmpR op_ge (pe_call (ok_weight_of p) (hr.mono (by decide)) rfl p.D_weight_of.g p.D_weight_of.F.kp p.D_weight_of.b .nil pass0 (pa_cons (pv 1) pa_nil)) (pe_op op_mul pe_int (pe_call (ok_weight_of p) (hr.mono (by decide)) rfl p.D_weight_of.g p.D_weight_of.F.kp p.D_weight_of.b .nil pass0 (pa_cons (pv 2) pa_nil))) (nomark _))))), ?_⟩
  walk_at "go"
  exact q _ (by walk_at "same")
/-! ### set_right -/
def spSet : Sp := fun vs H Q _ => ∃ (v : V) (t t' : Tr), vs = [.str "weights", v] ∧ Tv H v t ∧ Wt.setR t = some t' ∧ ∀ u H', Same H H' → Tv H' u t' → Q u H'
theorem rd_set {v : V} {t t' : Tr} {H : Hp} {Q : VK} {E : XK} (h : Tv H v t) (e : Wt.setR t = some t') (q : ∀ u H', Same H H' → Tv H' u t' → Q u H') : spSet [.str "weights", v] H Q E := ⟨v, t, t', rfl, h, e, q⟩
local macro_rules
  | `(tactic| walk_at "go1") => `(tactic| ((with_reducible refine rd_set (t := ?rdt) (t' := ?rdu) ?rdh ?rde ?_); (case rdh => walk_at "tv"); (case rde => assumption); intro _ _ _ _))
theorem ok_set_right (p : Prog K mg) : FnOk P w K mg base CX0 12 p.a_set_right p.d_set_right ["word", "part"] spSet := by
  refine p.D_set_right.F.ok sc_set_right (fun vs H Q E h => ?_) (fun cdv A outer s H vs Q E hr h => ?_)
  · obtain ⟨v, t, t', rfl, _⟩ := h
    rfl
  obtain ⟨v, t, t', rfl, hv, e, q⟩ := h
  refine ⟨_, (pss_cons (ps_asg (pv 1) (pg_tup (n := 3) rfl (pgs_cons (pg_name (i := 2) sc_set_right.nd rfl (Or.inl rfl)) (pgs_cons (pg_name (i := 3) sc_set_right.nd rfl (Or.inl rfl)) (pgs_cons (pg_name (i := 4) sc_set_right.nd rfl (Or.inl rfl)) pgs_nil)))))
      (pss_cons (ps_if (pt_val (pe_call (ok_is_greater p) (hr.mono (by decide)) rfl p.D_is_greater.g p.D_is_greater.F.kp p.D_is_greater.b .nil pass0 (pa_cons (pv 0) (pa_cons (pv 2) (pa_cons (pv 4) pa_nil))))) (pss_cons (ps_if (pt_val (pe_call (ok_is_inner p) (hr.mono (by decide)) rfl p.D_is_inner.g p.D_is_inner.F.kp p.D_is_inner.b .nil pass0 (pa_cons (pv 0) (pa_cons (pe_ix ix_tup (pv 2) pe_int (fun _ _ => rfl)) (pa_cons (pe_ix ix_tup (pv 2) pe_int (fun _ _ => rfl)) pa_nil))))) (pss_one (ps_set (i := 2) sc_set_right.nd rfl (Or.inl rfl) (pe_call (ok_right_up p) (hr.mono (by decide)) rfl p.D_right_up.g p.D_right_up.F.kp p.D_right_up.b .nil pass0 (pa_cons (pv 2) pa_nil)))) pss_nil)
      (pss_one (ps_ret (pe_call (ok_left_up p) (hr.mono (by decide)) rfl p.D_left_up.g p.D_left_up.F.kp p.D_left_up.b .nil pass0 (pa_cons (pe_tup (pa_cons (pv 2) (pa_cons (pv 3) (pa_cons (pv 4) pa_nil)))) pa_nil))))) pss_nil)
      (pss_cons (ps_if (pt_val (pe_call (ok_is_greater p) (hr.mono (by decide)) rfl p.D_is_greater.g p.D_is_greater.F.kp p.D_is_greater.b .nil pass0 (pa_cons (pv 0) (pa_cons (pv 4) (pa_cons (pv 2) pa_nil))))) (pss_cons (ps_if (pt_val (pe_call (ok_is_inner p) (hr.mono (by decide)) rfl p.D_is_inner.g p.D_is_inner.F.kp p.D_is_inner.b .nil pass0 (pa_cons (pv 0) (pa_cons (pe_ix ix_tup (pv 4) pe_int (fun _ _ => rfl)) (pa_cons (pe_ix ix_tup (pv 4) pe_int (fun _ _ => rfl)) pa_nil))))) (pss_one (ps_set (i := 4) sc_set_right.nd rfl (Or.inl rfl) (pe_call (ok_left_up p) (hr.mono (by decide)) rfl p.D_left_up.g p.D_left_up.F.kp p.D_left_up.b .nil pass0 (pa_cons (pv 4) pa_nil)))) pss_nil)
      (pss_one (ps_ret (pe_call (ok_right_up p) (hr.mono (by decide)) rfl p.D_right_up.g p.D_right_up.F.kp p.D_right_up.b .nil pass0 (pa_cons (pe_tup (pa_cons (pv 2) (pa_cons (pv 3) (pa_cons (pv 4) pa_nil)))) pa_nil))))) pss_nil)
      (pss_one (ps_ret (pv 1)))))), ?_⟩
  cases t with
  | nil => cases e
  | node l k r =>
    have hz : sz l + 1 + sz r ≤ 8 := by
      have h1 := size_sz (.node l k r)
      by_cases h2 : (Tr.node l k r).size > 8
      · simp only [Wt.setR, if_pos h2] at e
        cases e
      · simp only [sz] at h1
        omega
    have hn : ¬ (Tr.node l k r).size > 8 := by
      have h1 := size_sz (.node l k r)
      simp only [sz] at h1
      omega
    cases hg : Wt.greater l r with
    | true =>
      cases l with
      | nil => simp [Wt.setR, hn, hg] at e
      | node ll lt lr =>
        cases hi : Wt.inner lr ll with
        | true =>
          have e2 : ((Wt.rightUp (.node ll lt lr)).bind fun l' => Wt.leftUp (.node l' k r)) = some t' := by simpa [Wt.setR, hn, hg, hi] using e
          obtain ⟨l', e3, e4⟩ := Option.bind_eq_some_iff.mp e2
          walk_at "go"
          exact q _ _ (by walk_at "same") (by walk_at "tv")
        | false =>
          have e2 : Wt.leftUp (.node (.node ll lt lr) k r) = some t' := by simpa [Wt.setR, hn, hg, hi] using e
          walk_at "go"
          exact q _ _ (by walk_at "same") (by walk_at "tv")
    | false =>
      cases hh : Wt.greater r l with
      | true =>
        cases r with
        | nil => simp [Wt.setR, hn, hg, hh] at e
        | node rl rt rr =>
          cases hi : Wt.inner rl rr with
          | true =>
            have e2 : ((Wt.leftUp (.node rl rt rr)).bind fun r' => Wt.rightUp (.node l k r')) = some t' := by simpa [Wt.setR, hn, hg, hh, hi] using e
            obtain ⟨r', e3, e4⟩ := Option.bind_eq_some_iff.mp e2
            walk_at "go"
            exact q _ _ (by walk_at "same") (by walk_at "tv")
          | false =>
            have e2 : Wt.rightUp (.node l k (.node rl rt rr)) = some t' := by simpa [Wt.setR, hn, hg, hh, hi] using e
            walk_at "go"
            exact q _ _ (by walk_at "same") (by walk_at "tv")
      | false =>
        have e2 : Tr.node l k r = t' := by simpa [Wt.setR, hn, hg, hh] using e
        subst e2
        walk_at "go"
        exact q _ _ (by walk_at "same") (by walk_at "tv")
/-! ### put_right, take_right -/
def spKey (f : Tr → Int → Option Tr) (n : Nat) : Sp := fun vs H Q _ => ∃ (v : V) (t t' : Tr) (k : Int), vs = [.str "weights", v, .int k] ∧ Tv H v t ∧ sz t < n ∧ sz t ≤ 8 ∧ f t k = some t' ∧ ∀ u H', Same H H' → Tv H' u t' → Q u H'
theorem rd_key {f : Tr → Int → Option Tr} {n : Nat} {v : V} {t t' : Tr} {k : Int} {H : Hp} {Q : VK} {E : XK} (h : Tv H v t) (b : sz t < n) (c : sz t ≤ 8) (e : f t k = some t') (q : ∀ u H', Same H H' → Tv H' u t' → Q u H') : spKey f n [.str "weights", v, .int k] H Q E := ⟨v, t, t', k, rfl, h, b, c, e, q⟩
local macro_rules
  | `(tactic| walk_at "go1") => `(tactic| ((with_reducible refine rd_key (t := ?rdt) (t' := ?rdu) ?rdh ?rdb ?rdc ?rde ?_); (case rdh => walk_at "tv"); (case rdb => walk_at "le"); (case rdc => walk_at "le"); (case rde => assumption); intro _ _ _ _))
theorem ok_put_right (p : Prog K mg) : ∀ n, FnOk P w K mg base CX0 (n + 12) p.a_put_right p.d_put_right ["word", "shape", "key"] (spKey Wt.putR n)
  | 0 => none_left fun vs H Q E ⟨_, _, _, _, _, _, h, _⟩ => Nat.not_lt_zero _ h
  | n + 1 => by
    have ih := ok_put_right p n
    refine p.D_put_right.F.ok sc_put_right (fun vs H Q E h => ?_) (fun cdv A outer s H vs Q E hr h => ?_)
    · obtain ⟨v, t, t', k, rfl, _⟩ := h
      rfl
    obtain ⟨v, t, t', k, rfl, hv, hb, hc, e, q⟩ := h
    refine ⟨_, (pss_cons (ps_if (pt_cmpR (op_eqD hr.units) (pv 1) (pe_tup pa_nil) (nomark _)) (pss_one (ps_ret (pe_tup (pa_cons (pe_tup pa_nil) (pa_cons (pv 2) (pa_cons (pe_tup pa_nil) pa_nil)))))) pss_nil)
      (pss_cons (ps_asg (pv 1) (pg_tup (n := 3) rfl (pgs_cons (pg_name (i := 3) sc_put_right.nd rfl (Or.inl rfl)) (pgs_cons (pg_name (i := 4) sc_put_right.nd rfl (Or.inl rfl)) (pgs_cons (pg_name (i := 5) sc_put_right.nd rfl (Or.inl rfl)) pgs_nil)))))
      (pss_cons (ps_if (pt_cmpR op_lt (pv 2) (pv 4) (nomark _)) (pss_one (ps_ret (pe_call (ok_set_right p) (hr.mono (by omega)) rfl p.D_set_right.g p.D_set_right.F.kp p.D_set_right.b .nil pass0 (pa_cons (pv 0) (pa_cons (pe_tup (pa_cons (pe_call ih hr rfl p.D_put_right.g p.D_put_right.F.kp p.D_put_right.b .nil pass0 (pa_cons (pv 0) (pa_cons (pv 3) (pa_cons (pv 2) pa_nil)))) (pa_cons (pv 4) (pa_cons (pv 5) pa_nil)))) pa_nil))))) pss_nil)
      (pss_one (ps_ret (pe_call (ok_set_right p) (hr.mono (by omega)) rfl p.D_set_right.g p.D_set_right.F.kp p.D_set_right.b .nil pass0 (pa_cons (pv 0) (pa_cons (pe_tup (pa_cons (pv 3) (pa_cons (pv 4) (pa_cons (pe_call ih hr rfl p.D_put_right.g p.D_put_right.F.kp p.D_put_right.b .nil pass0 (pa_cons (pv 0) (pa_cons (pv 5) (pa_cons (pv 2) pa_nil)))) pa_nil)))) pa_nil)))))))), ?_⟩
    cases t with
    | nil =>
      cases e
      walk_at "go"
      exact q _ _ (by walk_at "same") (by walk_at "tv")
    | node l j r =>
      by_cases hk : k < j
      · have hd : decide (k < j) = true := decide_eq_true hk
        simp only [Wt.putR, if_pos hk] at e
        obtain ⟨l', e1, e2⟩ := Option.bind_eq_some_iff.mp e
        walk_at "go"
        exact q _ _ (by walk_at "same") (by walk_at "tv")
      · have hd : decide (k < j) = false := decide_eq_false hk
        simp only [Wt.putR, if_neg hk] at e
        obtain ⟨r', e1, e2⟩ := Option.bind_eq_some_iff.mp e
        walk_at "go"
        exact q _ _ (by walk_at "same") (by walk_at "tv")
theorem ok_take_right (p : Prog K mg) : ∀ n, FnOk P w K mg base CX0 (n + 12) p.a_take_right p.d_take_right ["word", "shape", "key"] (spKey Wt.takeR n)
  | 0 => none_left fun vs H Q E ⟨_, _, _, _, _, _, h, _⟩ => Nat.not_lt_zero _ h
  | n + 1 => by
    have ih := ok_take_right p n
    refine p.D_take_right.F.ok sc_take_right (fun vs H Q E h => ?_) (fun cdv A outer s H vs Q E hr h => ?_)
    · obtain ⟨v, t, t', k, rfl, _⟩ := h
      rfl
    obtain ⟨v, t, t', k, rfl, hv, hb, hc, e, q⟩ := h
    refine ⟨_, (pss_cons (ps_asg (pv 1) (pg_tup (n := 3) rfl (pgs_cons (pg_name (i := 3) sc_take_right.nd rfl (Or.inl rfl)) (pgs_cons (pg_name (i := 4) sc_take_right.nd rfl (Or.inl rfl)) (pgs_cons (pg_name (i := 5) sc_take_right.nd rfl (Or.inl rfl)) pgs_nil)))))
      (pss_cons (ps_if (pt_cmpR op_lt (pv 2) (pv 4) (nomark _)) (pss_one (ps_ret (pe_call (ok_set_right p) (hr.mono (by omega)) rfl p.D_set_right.g p.D_set_right.F.kp p.D_set_right.b .nil pass0 (pa_cons (pv 0) (pa_cons (pe_tup (pa_cons (pe_call ih hr rfl p.D_take_right.g p.D_take_right.F.kp p.D_take_right.b .nil pass0 (pa_cons (pv 0) (pa_cons (pv 3) (pa_cons (pv 2) pa_nil)))) (pa_cons (pv 4) (pa_cons (pv 5) pa_nil)))) pa_nil))))) pss_nil)
      (pss_cons (ps_if (pt_cmpR op_gt (pv 2) (pv 4) (nomark _)) (pss_one (ps_ret (pe_call (ok_set_right p) (hr.mono (by omega)) rfl p.D_set_right.g p.D_set_right.F.kp p.D_set_right.b .nil pass0 (pa_cons (pv 0) (pa_cons (pe_tup (pa_cons (pv 3) (pa_cons (pv 4) (pa_cons (pe_call ih hr rfl p.D_take_right.g p.D_take_right.F.kp p.D_take_right.b .nil pass0 (pa_cons (pv 0) (pa_cons (pv 5) (pa_cons (pv 2) pa_nil)))) pa_nil)))) pa_nil))))) pss_nil)
      (pss_cons (ps_if (PW.pt (pw_or (pt_cmpR (op_eqD hr.units) (pv 3) (pe_tup pa_nil) (nomark _)) (pw_or1 (pt_cmpR (op_eqD hr.units) (pv 5) (pe_tup pa_nil) (nomark _))))) (pss_one (ps_ret (pe_ifExp (pt_cmpR (op_eqD hr.units) (pv 5) (pe_tup pa_nil) (nomark _)) (pv 3) (pv 5)))) pss_nil)
      (pss_cons (ps_set (i := 6) sc_take_right.nd rfl (Or.inl rfl) (pe_call (ok_least p 9) (hr.mono (by omega)) rfl p.D_least.g p.D_least.F.kp p.D_least.b .nil pass0 (pa_cons (pv 5) pa_nil)))
      (pss_one (ps_ret (pe_call (ok_set_right p) (hr.mono (by omega)) rfl p.D_set_right.g p.D_set_right.F.kp p.D_set_right.b .nil pass0 (pa_cons (pv 0) (pa_cons (pe_tup (pa_cons (pv 3) (pa_cons (pv 6) (pa_cons (pe_call ih hr rfl p.D_take_right.g p.D_take_right.F.kp p.D_take_right.b .nil pass0 (pa_cons (pv 0) (pa_cons (pv 5) (pa_cons (pv 6) pa_nil)))) pa_nil)))) pa_nil)))))))))), ?_⟩
    cases t with
    | nil => cases e
    | node l j r =>
      by_cases hk : k < j
      · have hd : decide (k < j) = true := decide_eq_true hk
        simp only [Wt.takeR, if_pos hk] at e
        obtain ⟨l', e1, e2⟩ := Option.bind_eq_some_iff.mp e
        walk_at "go"
        exact q _ _ (by walk_at "same") (by walk_at "tv")
      · have hd : decide (k < j) = false := decide_eq_false hk
        by_cases hm : k > j
        · have hf : decide (j < k) = true := decide_eq_true hm
          simp only [Wt.takeR, if_neg hk, if_pos hm] at e
          obtain ⟨r', e1, e2⟩ := Option.bind_eq_some_iff.mp e
          walk_at "go"
          exact q _ _ (by walk_at "same") (by walk_at "tv")
        · have hf : decide (j < k) = false := decide_eq_false hm
          simp only [Wt.takeR, if_neg hk, if_neg hm] at e
          cases l with
          | nil =>
            cases r with
            | nil =>
              cases e
              walk_at "go"
              exact q _ _ (by walk_at "same") (by walk_at "tv")
            | node a i b =>
              cases e
              walk_at "go"
              exact q _ _ (by walk_at "same") (by walk_at "tv")
          | node a i b =>
            cases r with
            | nil =>
              cases e
              walk_at "go"
              exact q _ _ (by walk_at "same") (by walk_at "tv")
            | node c m d =>
              have e' : ((Wt.least (.node c m d)).bind fun x => (Wt.takeR (.node c m d) x).bind fun r' => Wt.setR (.node (.node a i b) x r')) = some t' := e
              obtain ⟨x, e1, e2⟩ := Option.bind_eq_some_iff.mp e'
              obtain ⟨r', e3, e4⟩ := Option.bind_eq_some_iff.mp e2
              walk_at "go"
              exact q _ _ (by walk_at "same") (by walk_at "tv")
/-! ### all_parts, are_right -/
def spParts (n : Nat) : Sp := fun vs H Q _ => ∃ (v : V) (t : Tr), vs = [v] ∧ Tv H v t ∧ sz t < n ∧ sz t ≤ 60 ∧ ∀ u H', Same H H' → Pl H' u (Wt.parts t) → Q u H'
theorem rd_parts {n : Nat} {v : V} {t : Tr} {H : Hp} {Q : VK} {E : XK} (h : Tv H v t) (b : sz t < n) (c : sz t ≤ 60) (q : ∀ u H', Same H H' → Pl H' u (Wt.parts t) → Q u H') : spParts n [v] H Q E := ⟨v, t, rfl, h, b, c, q⟩
local macro_rules
  | `(tactic| walk_at "go1") => `(tactic| ((with_reducible refine rd_parts (t := ?rdt) ?rdh ?rdb ?rdc ?_); (case rdh => walk_at "tv"); (case rdb => walk_at "le"); (case rdc => walk_at "le"); intro _ _ _ _))
theorem ok_all_parts (p : Prog K mg) : ∀ n, FnOk P w K mg base CX0 n p.a_all_parts p.d_all_parts ["shape"] (spParts n)
  | 0 => none_left fun vs H Q E ⟨_, _, _, _, h, _⟩ => Nat.not_lt_zero _ h
  | n + 1 => by
    have ih := ok_all_parts p n
    refine p.D_all_parts.F.ok sc_all_parts (fun vs H Q E h => ?_) (fun cdv A outer s H vs Q E hr h => ?_)
    · obtain ⟨v, t, rfl, _⟩ := h
      rfl
    obtain ⟨v, t, rfl, hv, hb, hc, q⟩ := h
    refine ⟨_, (pss_one (ps_ret (pe_ifExp (pt_cmpR (op_neD hr.units) (pv 0) (pe_tup pa_nil) (nomark _)) (pe_op op_cat (pe_op op_cat (pe_lst (pa_cons (pv 0) pa_nil)) (pe_call ih hr rfl p.D_all_parts.g p.D_all_parts.F.kp p.D_all_parts.b .nil pass0 (pa_cons (pe_ix ix_tup (pv 0) pe_int (fun _ _ => rfl)) pa_nil))) (pe_call ih hr rfl p.D_all_parts.g p.D_all_parts.F.kp p.D_all_parts.b .nil pass0 (pa_cons (pe_ix ix_tup (pv 0) pe_int (fun _ _ => rfl)) pa_nil))) (pe_lst pa_nil)))), ?_⟩
    cases t with
    | nil =>
      walk_at "go"
      exact q _ _ (by walk_at "same") (Pl.none (by walk_at "tv"))
    | node l k r =>
      walk_at "go"
      exact q _ _ (by walk_at "same") (by walk_at "tv")
theorem parts_node : ∀ {t x : Tr}, x ∈ Wt.parts t → ∃ l k r, x = .node l k r ∧ sz x ≤ sz t
  | .nil, x, h => by simp [Wt.parts] at h
  | .node l k r, x, h => by
    simp only [Wt.parts, List.mem_append, List.mem_singleton] at h
    rcases h with (h | h) | h
    · subst h
      exact ⟨_, _, _, rfl, Nat.le_refl _⟩
    · obtain ⟨a, b, c, e, z⟩ := parts_node h
      exact ⟨a, b, c, e, by simp only [sz]; omega⟩
    · obtain ⟨a, b, c, e, z⟩ := parts_node h
      exact ⟨a, b, c, e, by simp only [sz]; omega⟩
def spRight : Sp := fun vs H Q _ => ∃ (v : V) (t : Tr), vs = [.str "weights", v] ∧ Tv H v t ∧ sz t ≤ 8 ∧ ∀ H', Same H H' → Q (.bl (Wt.areR t)) H'
theorem rd_right {v : V} {t : Tr} {b : Bool} {H : Hp} {Q : VK} {E : XK} (h : Tv H v t) (i : sz t ≤ 8) (e : Wt.areR t = b) (q : ∀ H', Same H H' → Q (.bl b) H') : spRight [.str "weights", v] H Q E := ⟨v, t, rfl, h, i, by rw [e]; exact q⟩
local macro_rules
  | `(tactic| walk_at "go1") => `(tactic| ((with_reducible refine rd_right (t := ?rdt) (b := ?rdb) ?rdh ?rdi ?rde ?_); (case rdh => walk_at "tv"); (case rdi => walk_at "le"); (case rde => first | assumption | exact rfl); intro _ _))
theorem ok_are_right (p : Prog K mg) : FnOk P w K mg base CX0 12 p.a_are_right p.d_are_right ["word", "shape"] spRight := by
  refine p.D_are_right.F.ok sc_are_right (fun vs H Q E h => ?_) (fun cdv A outer s H vs Q E hr h => ?_)
  · obtain ⟨v, t, rfl, _⟩ := h
    rfl
  obtain ⟨v, t, rfl, hv, hc, q⟩ := h
  refine ⟨_, (pss_cons (ps_for PassesOwn.never rfl (pi_list (pe_call (ok_all_parts p 9) (hr.mono (by decide)) rfl p.D_all_parts.g p.D_all_parts.F.kp p.D_all_parts.b .nil pass0 (pa_cons (pv 1) pa_nil))) (pg_name (i := 2) sc_are_right.nd rfl (Or.inl rfl)) (pss_one (ps_if (PW.pt (pw_or (pt_val (pe_call (ok_is_greater p) (hr.mono (by decide)) rfl p.D_is_greater.g p.D_is_greater.F.kp p.D_is_greater.b .nil pass0 (pa_cons (pv 0) (pa_cons (pe_ix ix_tup (pv 2) pe_int (fun _ _ => rfl)) (pa_cons (pe_ix ix_tup (pv 2) pe_int (fun _ _ => rfl)) pa_nil))))) (pw_or1 (pt_val (pe_call (ok_is_greater p) (hr.mono (by decide)) rfl p.D_is_greater.g p.D_is_greater.F.kp p.D_is_greater.b .nil pass0 (pa_cons (pv 0) (pa_cons (pe_ix ix_tup (pv 2) pe_int (fun _ _ => rfl)) (pa_cons (pe_ix ix_tup (pv 2) pe_int (fun _ _ => rfl)) pa_nil)))))))) (pss_one (ps_ret pe_bl)) pss_nil)))
      (pss_one (ps_ret pe_bl))), ?_⟩
  walk_at "go"
  rename_i u H1 s1 h1
  obtain ⟨a, xs, rfl, ha, hp⟩ := h1
  refine ⟨a, rfl, ⟨_, lst_of ha⟩, for_list (xs := xs) (fun i σ' H' => ∃ y, σ' = [some (.str "weights"), some v, y] ∧ Same H1 H' ∧ ((Wt.parts t).take i).all Wt.okPart = true) ⟨none, rfl, Same.refl _, rfl⟩ ?_ ?_ ?_⟩
  · rintro i σ' H' _ ⟨y, _, s2, _⟩
    exact lst_of (s2 _ _ ha)
  · rintro i x σ' H' hx ⟨y, rfl, s2, hall⟩
    obtain ⟨tx, hy, htx⟩ := pair_get hp hx
    obtain ⟨l, k, r, rfl, hz⟩ := parts_node (List.mem_of_getElem? hy)
    have htake : (Wt.parts t).take (i + 1) = (Wt.parts t).take i ++ [.node l k r] := by rw [List.take_add_one, hy]; rfl
    have hmem : Tr.node l k r ∈ Wt.parts t := List.mem_of_getElem? hy
    have hbad : Wt.okPart (.node l k r) = false → Wt.areR t = false := fun z => by
      unfold Wt.areR
      rw [List.all_eq_false]
      exact ⟨_, hmem, by rw [z]; exact Bool.false_ne_true⟩
    simp only [sz] at hz
    cases hg : Wt.greater l r with
    | true =>
      walk_at "go"
      rw [hbad (by simp only [Wt.okPart, hg, Bool.true_or, Bool.not_true])] at q
      exact q _ (by walk_at "same")
    | false =>
      cases hh : Wt.greater r l with
      | true =>
        walk_at "go"
        rw [hbad (by simp only [Wt.okPart, hg, hh, Bool.false_or, Bool.not_true])] at q
        exact q _ (by walk_at "same")
      | false =>
        walk_at "go"
        refine ⟨_, rfl, by walk_at "same", ?_⟩
        rw [htake, List.all_append, hall]
        simp only [List.all_cons, List.all_nil, Wt.okPart, hg, hh, Bool.or_self, Bool.not_false, Bool.and_self]
  · rintro σ' H' ⟨y, rfl, s2, hall⟩
    have hl : xs.length = (Wt.parts t).length := Paired.length hp
    rw [hl, List.take_length] at hall
    have e : Wt.areR t = true := hall
    rw [e] at q
    walk_at "go"
    exact q _ (by walk_at "same")
/-! ### is_rule, need_rule -/
theorem rd_inF {K' : PySem.W.Frag} {H : Hp} {Q : VK} {a : Addr} {zs : List V} (h : SqT K' H a zs) (f : zs.all flatV = true) (e : inV (.str "weights") zs = true) (q : Q (.bl true) H) : rIn K' false (.str "weights") (.ref a) H Q :=
  ⟨a, _, rfl, .inr h, rfl, f, by rw [e]; exact q⟩
def spRule (r : V) : Sp := fun vs H Q _ => ∃ (v : V), vs = [v] ∧ Rv H v ∧ ∀ H', Same H H' → Q r H'
theorem rd_rule {r v : V} {H : Hp} {Q : VK} {E : XK} (h : Rv H v) (q : ∀ H', Same H H' → Q r H') : spRule r [v] H Q E := ⟨v, rfl, h, q⟩
local macro_rules
  | `(tactic| walk_at "go1") => `(tactic| first
    | ((with_reducible refine rd_rule ?rdh ?_); (case rdh => walk_at "tv"); intro _ _)
    | ((with_reducible refine rd_inF (zs := ?rdz) ?rdh ?rdf ?rde ?_); (case rdh => exact Prog.t_FAMILY _ _); (case rdf => exact rfl); (case rde => decide +kernel)))
theorem ok_is_rule (p : Prog K mg) : FnOk P w K mg base CX0 2 p.a_is_rule p.d_is_rule ["candidate"] (spRule (.bl true)) := by
  refine p.D_is_rule.F.ok sc_is_rule (fun vs H Q E h => ?_) (fun cdv A outer s H vs Q E hr h => ?_)
  · obtain ⟨v, rfl, _⟩ := h
    rfl
  obtain ⟨v, rfl, hv, q⟩ := h
  refine ⟨_, (pss_cons (ps_if (PW.pt (pw_or (pt_not (pt_val (pe_callB call_isi rfl p.z_isinstance (by decide +kernel) (pa_cons (pv 0) (pa_cons (pe_bltn (v := .ty "tuple") (u := .type "tuple") rfl p.z_tuple (by decide +kernel) rfl) pa_nil))))) (pw_or (pt_cmpR (op_eqD hr.units) (pv 0) (pe_tup pa_nil) (nomark _)) (pw_or1 (pt_not (pt_val (pe_callB call_isi rfl p.z_isinstance (by decide +kernel) (pa_cons (pe_ix ix_tup (pv 0) pe_int (fun _ _ => rfl)) (pa_cons (pe_bltn (v := .ty "str") (u := .type "str") rfl p.z_str (by decide +kernel) rfl) pa_nil))))))))) pss_never pss_nil)
      (pss_cons (ps_if (pt_cmpR op_in_seq (pe_ix ix_tup (pv 0) pe_int (fun _ _ => rfl)) (pe_globE rfl p.m_FAMILY) (by with_unfolding_all rfl)) (pss_one (ps_ret (pe_cmpR op_eq (pe_callB call_lenN rfl p.z_len PySem.boot_len (pa_cons (pv 0) pa_nil)) pe_int (nomark _)))) pss_nil)
      pss_never)), ?_⟩
  walk_at "go"
  exact q _ (by walk_at "same")
theorem ok_need_rule (p : Prog K mg) : FnOk P w K mg base CX0 3 p.a_need_rule p.d_need_rule ["value"] (spRule .non) := by
  refine p.D_need_rule.F.ok sc_need_rule (fun vs H Q E h => ?_) (fun cdv A outer s H vs Q E hr h => ?_)
  · obtain ⟨v, rfl, _⟩ := h
    rfl
  obtain ⟨v, rfl, hv, q⟩ := h
  refine ⟨_, (pss_one (ps_if (pt_not (pt_val (pe_call (ok_is_rule p) (hr.mono (by decide)) rfl p.D_is_rule.g p.D_is_rule.F.kp p.D_is_rule.b .nil pass0 (pa_cons (pv 0) pa_nil)))) (pss_one ps_never) pss_nil)), ?_⟩
  walk_at "go"
  exact q _ (by walk_at "same")
/-! ### is_kept, keeps -/
def spKept : Sp := fun vs H Q _ => ∃ (u v : V) (t : Tr), vs = [u, v] ∧ Rv H u ∧ Tv H v t ∧ sz t ≤ 8 ∧ Wt.btw t 1 6 = true ∧ ∀ H', Same H H' → Q (.bl (Wt.areR t)) H'
theorem rd_kept {u v : V} {t : Tr} {b : Bool} {H : Hp} {Q : VK} {E : XK} (g : Rv H u) (h : Tv H v t) (i : sz t ≤ 8) (j : Wt.btw t 1 6 = true) (e : Wt.areR t = b) (q : ∀ H', Same H H' → Q (.bl b) H') : spKept [u, v] H Q E := ⟨u, v, t, rfl, g, h, i, j, by rw [e]; exact q⟩
local macro_rules
  | `(tactic| walk_at "go1") => `(tactic| first
    | ((with_reducible refine rd_kept (t := ?rdt) (b := ?rdb) ?rdg ?rdh ?rdi ?rdj ?rde ?_); (case rdg => walk_at "tv"); (case rdh => walk_at "tv"); (case rdi => walk_at "le"); (case rdj => assumption); (case rde => first | assumption | exact rfl); intro _ _)
    | ((with_reducible refine rd_needShape (t := ?rdt) ?rdh ?rdi ?rde ?_); (case rdh => walk_at "tv"); (case rdi => walk_at "le"); (case rde => assumption); intro _ _))
theorem ok_is_kept (p : Prog K mg) : FnOk P w K mg base CX0 13 p.a_is_kept p.d_is_kept ["rule", "shape"] spKept := by
  refine p.D_is_kept.F.ok sc_is_kept (fun vs H Q E h => ?_) (fun cdv A outer s H vs Q E hr h => ?_)
  · obtain ⟨u, v, t, rfl, _⟩ := h
    rfl
  obtain ⟨u, v, t, rfl, hu, hv, hb, hc, q⟩ := h
  refine ⟨_, (pss_cons (ps_if (pt_cmpR op_in_seq (pe_ix ix_tup (pv 0) pe_int (fun _ _ => rfl)) (pe_tup (pa_cons pe_str (pa_cons pe_str pa_nil))) (by with_unfolding_all rfl)) (pss_one (ps_ret (pe_call (ok_are_right p) (hr.mono (by decide)) rfl p.D_are_right.g p.D_are_right.F.kp p.D_are_right.b .nil pass0 (pa_cons (pe_ix ix_tup (pv 0) pe_int (fun _ _ => rfl)) (pa_cons (pv 1) pa_nil))))) pss_nil)
      pss_never), ?_⟩
  walk_at "go"
  exact q _ (by walk_at "same")
theorem ok_keeps (p : Prog K mg) : FnOk P w K mg base CX0 14 p.a_keeps p.d_keeps ["rule", "shape"] spKept := by
  refine p.D_keeps.F.ok sc_keeps (fun vs H Q E h => ?_) (fun cdv A outer s H vs Q E hr h => ?_)
  · obtain ⟨u, v, t, rfl, _⟩ := h
    rfl
  obtain ⟨u, v, t, rfl, hu, hv, hb, hc, q⟩ := h
  refine ⟨_, (pss_cons (ps_expr (pe_call (ok_need_rule p) (hr.mono (by decide)) rfl p.D_need_rule.g p.D_need_rule.F.kp p.D_need_rule.b .nil pass0 (pa_cons (pv 0) pa_nil)))
      (pss_cons (ps_expr (pe_call (ok_need_shape p) (hr.mono (by decide)) rfl p.D_need_shape.g p.D_need_shape.F.kp p.D_need_shape.b .nil pass0 (pa_cons (pv 1) pa_nil)))
      (pss_one (ps_ret (pe_call (ok_is_kept p) (hr.mono (by decide)) rfl p.D_is_kept.g p.D_is_kept.F.kp p.D_is_kept.b .nil pass0 (pa_cons (pv 0) (pa_cons (pv 1) pa_nil))))))), ?_⟩
  walk_at "go"
  exact q _ (by walk_at "same")
/-! ### moved, with_key, without_key, behind -/
def spTurn (f : Tr → Int → Option Tr) : Sp := fun vs H Q _ => ∃ (u v : V) (t t' : Tr) (k : Int), vs = [u, v, .int k] ∧ Rv H u ∧ Tv H v t ∧ sz t ≤ 8 ∧ f t k = some t' ∧ ∀ x H', Same H H' → Tv H' x t' → Q x H'
theorem rd_turn {f : Tr → Int → Option Tr} {u v : V} {t t' : Tr} {k : Int} {H : Hp} {Q : VK} {E : XK} (g : Rv H u) (h : Tv H v t) (i : sz t ≤ 8) (e : f t k = some t') (q : ∀ x H', Same H H' → Tv H' x t' → Q x H') : spTurn f [u, v, .int k] H Q E := ⟨u, v, t, t', k, rfl, g, h, i, e, q⟩
local macro_rules
  | `(tactic| walk_at "go1") => `(tactic| ((with_reducible refine rd_turn (t := ?rdt) (t' := ?rdu) ?rdg ?rdh ?rdi ?rde ?_); (case rdg => walk_at "tv"); (case rdh => walk_at "tv"); (case rdi => walk_at "le"); (case rde => first | assumption | exact rfl); intro _ _ _ _))
theorem ok_moved (p : Prog K mg) : FnOk P w K mg base CX0 2 p.a_moved p.d_moved ["rule", "shape", "key"] (spTurn fun t _ => some t) := by
  refine p.D_moved.F.ok sc_moved (fun vs H Q E h => ?_) (fun cdv A outer s H vs Q E hr h => ?_)
  · obtain ⟨u, v, t, t', k, rfl, _⟩ := h
    rfl
  obtain ⟨u, v, t, t', k, rfl, hu, hv, hb, e, q⟩ := h
  cases e
  refine ⟨_, (pss_cons (ps_if (pt_cmpR op_eq (pe_ix ix_tup (pv 0) pe_int (fun _ _ => rfl)) pe_str (nomark _)) pss_never pss_nil)
      (pss_cons (ps_if (pt_cmpR op_eq (pe_ix ix_tup (pv 0) pe_int (fun _ _ => rfl)) pe_str (nomark _)) pss_never pss_nil)
      (pss_one (ps_ret (pe_ifExp (pt_cmpR op_eq (pe_ix ix_tup (pv 0) pe_int (fun _ _ => rfl)) pe_str (nomark _)) pe_never (pv 1)))))), ?_⟩
  walk_at "go"
  exact q _ _ (by walk_at "same") (by walk_at "tv")
theorem ok_with_key (p : Prog K mg) : FnOk P w K mg base CX0 22 p.a_with_key p.d_with_key ["rule", "shape", "key"] (spTurn Wt.putR) := by
  refine p.D_with_key.F.ok sc_with_key (fun vs H Q E h => ?_) (fun cdv A outer s H vs Q E hr h => ?_)
  · obtain ⟨u, v, t, t', k, rfl, _⟩ := h
    rfl
  obtain ⟨u, v, t, t', k, rfl, hu, hv, hb, e, q⟩ := h
  refine ⟨_, (pss_cons (ps_if (pt_cmpR op_in_seq (pe_ix ix_tup (pv 0) pe_int (fun _ _ => rfl)) (pe_tup (pa_cons pe_str (pa_cons pe_str pa_nil))) (by with_unfolding_all rfl)) (pss_one (ps_ret (pe_call (ok_put_right p 9) (hr.mono (by decide)) rfl p.D_put_right.g p.D_put_right.F.kp p.D_put_right.b .nil pass0 (pa_cons (pe_ix ix_tup (pv 0) pe_int (fun _ _ => rfl)) (pa_cons (pv 1) (pa_cons (pv 2) pa_nil)))))) pss_nil)
      pss_never), ?_⟩
  walk_at "go"
  exact q _ _ (by walk_at "same") (by walk_at "tv")
theorem ok_without_key (p : Prog K mg) : FnOk P w K mg base CX0 22 p.a_without_key p.d_without_key ["rule", "shape", "key"] (spTurn Wt.takeR) := by
  refine p.D_without_key.F.ok sc_without_key (fun vs H Q E h => ?_) (fun cdv A outer s H vs Q E hr h => ?_)
  · obtain ⟨u, v, t, t', k, rfl, _⟩ := h
    rfl
  obtain ⟨u, v, t, t', k, rfl, hu, hv, hb, e, q⟩ := h
  refine ⟨_, (pss_cons (ps_if (pt_cmpR op_in_seq (pe_ix ix_tup (pv 0) pe_int (fun _ _ => rfl)) (pe_tup (pa_cons pe_str (pa_cons pe_str pa_nil))) (by with_unfolding_all rfl)) (pss_one (ps_ret (pe_call (ok_take_right p 9) (hr.mono (by decide)) rfl p.D_take_right.g p.D_take_right.F.kp p.D_take_right.b .nil pass0 (pa_cons (pe_ix ix_tup (pv 0) pe_int (fun _ _ => rfl)) (pa_cons (pv 1) (pa_cons (pv 2) pa_nil)))))) pss_nil)
      pss_never), ?_⟩
  walk_at "go"
  exact q _ _ (by walk_at "same") (by walk_at "tv")
def spBehind : Sp := fun vs H Q _ => ∃ (u v d : V) (t t' : Tr) (w : Wt.Wd) (k : Int), vs = [u, v, d] ∧ Rv H u ∧ Tv H v t ∧ Dv H d w k ∧ sz t ≤ 8 ∧ Wt.afterP t w k = some t' ∧ ∀ x H', Same H H' → Tv H' x t' → Q x H'
theorem rd_behind {u v d : V} {t t' : Tr} {w : Wt.Wd} {k : Int} {H : Hp} {Q : VK} {E : XK} (g : Rv H u) (h : Tv H v t) (f : Dv H d w k) (i : sz t ≤ 8) (e : Wt.afterP t w k = some t') (q : ∀ x H', Same H H' → Tv H' x t' → Q x H') : spBehind [u, v, d] H Q E := ⟨u, v, d, t, t', w, k, rfl, g, h, f, i, e, q⟩
theorem ok_behind (p : Prog K mg) : FnOk P w K mg base CX0 23 p.a_behind p.d_behind ["rule", "shape", "deed"] spBehind := by
  refine p.D_behind.F.ok sc_behind (fun vs H Q E h => ?_) (fun cdv A outer s H vs Q E hr h => ?_)
  · obtain ⟨u, v, d, t, t', w, k, rfl, _⟩ := h
    rfl
  obtain ⟨u, v, d, t, t', w, k, rfl, hu, hv, hd, hb, e, q⟩ := h
  refine ⟨_, (pss_cons (ps_if (pt_cmpR op_eq (pe_ix ix_tup (pv 2) pe_int (fun _ _ => rfl)) pe_str (nomark _)) (pss_one (ps_ret (pe_call (ok_moved p) (hr.mono (by decide)) rfl p.D_moved.g p.D_moved.F.kp p.D_moved.b .nil pass0 (pa_cons (pv 0) (pa_cons (pv 1) (pa_cons (pe_ix ix_tup (pv 2) pe_int (fun _ _ => rfl)) pa_nil)))))) pss_nil)
      (pss_one (ps_ret (pe_ifExp (pt_cmpR op_eq (pe_ix ix_tup (pv 2) pe_int (fun _ _ => rfl)) pe_str (nomark _)) (pe_call (ok_with_key p) (hr.mono (by decide)) rfl p.D_with_key.g p.D_with_key.F.kp p.D_with_key.b .nil pass0 (pa_cons (pv 0) (pa_cons (pv 1) (pa_cons (pe_ix ix_tup (pv 2) pe_int (fun _ _ => rfl)) pa_nil)))) (pe_call (ok_without_key p) (hr.mono (by decide)) rfl p.D_without_key.g p.D_without_key.F.kp p.D_without_key.b .nil pass0 (pa_cons (pv 0) (pa_cons (pv 1) (pa_cons (pe_ix ix_tup (pv 2) pe_int (fun _ _ => rfl)) pa_nil)))))))), ?_⟩
  cases w with
  | ask =>
    cases e
    walk_at "go"
    exact q _ _ (by walk_at "same") (by walk_at "tv")
  | inn =>
    have e' : Wt.putR t k = some t' := e
    walk_at "go"
    exact q _ _ (by walk_at "same") (by walk_at "tv")
  | out =>
    have e' : Wt.takeR t k = some t' := e
    walk_at "go"
    exact q _ _ (by walk_at "same") (by walk_at "tv")
/-! ### is_deed, is_possible, need_deed -/
def spDeed : Sp := fun vs H Q _ => ∃ (d : V) (w : Wt.Wd) (k : Int), vs = [d] ∧ Dv H d w k ∧ ∀ H', Same H H' → Q (.bl (decide (1 ≤ k) && decide (k ≤ 6))) H'
theorem rd_deed {d : V} {w : Wt.Wd} {k : Int} {b : Bool} {H : Hp} {Q : VK} {E : XK} (h : Dv H d w k) (e : (decide (1 ≤ k) && decide (k ≤ 6)) = b) (q : ∀ H', Same H H' → Q (.bl b) H') : spDeed [d] H Q E := ⟨d, w, k, rfl, h, by rw [e]; exact q⟩
theorem ok_is_deed (p : Prog K mg) : FnOk P w K mg base CX0 2 p.a_is_deed p.d_is_deed ["value"] spDeed := by
  refine p.D_is_deed.F.ok sc_is_deed (fun vs H Q E h => ?_) (fun cdv A outer s H vs Q E hr h => ?_)
  · obtain ⟨d, w, k, rfl, _⟩ := h
    rfl
  obtain ⟨d, w, k, rfl, hd, q⟩ := h
  refine ⟨_, (pss_cons (ps_if (PW.pt (pw_or (pt_not (pt_val (pe_callB call_isi rfl p.z_isinstance (by decide +kernel) (pa_cons (pv 0) (pa_cons (pe_bltn (v := .ty "tuple") (u := .type "tuple") rfl p.z_tuple (by decide +kernel) rfl) pa_nil))))) (pw_or (pt_cmpR op_ne (pe_callB call_lenN rfl p.z_len PySem.boot_len (pa_cons (pv 0) pa_nil)) pe_int (nomark _)) (pw_or1 (pt_not (pt_val (pe_callB call_isi rfl p.z_isinstance (by decide +kernel) (pa_cons (pe_ix ix_tup (pv 0) pe_int (fun _ _ => rfl)) (pa_cons (pe_bltn (v := .ty "str") (u := .type "str") rfl p.z_str (by decide +kernel) rfl) pa_nil))))))))) pss_never pss_nil)
      (pss_one (ps_ret (pe_and (pe_cmpR op_in_seq (pe_ix ix_tup (pv 0) pe_int (fun _ _ => rfl)) (pe_tup (pa_cons pe_str (pa_cons pe_str (pa_cons pe_str pa_nil)))) (by with_unfolding_all rfl)) (pe_one (pe_call (ok_is_number p) (hr.mono (by decide)) rfl p.D_is_number.g p.D_is_number.F.kp p.D_is_number.b .nil pass0 (pa_cons (pe_ix ix_tup (pv 0) pe_int (fun _ _ => rfl)) (pa_cons pe_int (pa_cons (pe_globE rfl p.m_MOST) pa_nil))))))))), ?_⟩
  cases w <;> walk_at "go" <;> exact q _ (by walk_at "same")
def spPoss : Sp := fun vs H Q _ => ∃ (v d : V) (t : Tr) (w : Wt.Wd) (k : Int), vs = [v, d] ∧ Tv H v t ∧ Dv H d w k ∧ sz t ≤ 8 ∧ ∀ H', Same H H' → Q (.bl (Wt.has t k == decide (w ≠ .inn))) H'
theorem rd_poss {v d : V} {t : Tr} {w : Wt.Wd} {k : Int} {b : Bool} {H : Hp} {Q : VK} {E : XK} (g : Tv H v t) (h : Dv H d w k) (i : sz t ≤ 8) (e : (Wt.has t k == decide (w ≠ .inn)) = b) (q : ∀ H', Same H H' → Q (.bl b) H') : spPoss [v, d] H Q E := ⟨v, d, t, w, k, rfl, g, h, i, by rw [e]; exact q⟩
theorem ok_is_possible (p : Prog K mg) : FnOk P w K mg base CX0 10 p.a_is_possible p.d_is_possible ["shape", "deed"] spPoss := by
  refine p.D_is_possible.F.ok sc_is_possible (fun vs H Q E h => ?_) (fun cdv A outer s H vs Q E hr h => ?_)
  · obtain ⟨v, d, t, w, k, rfl, _⟩ := h
    rfl
  obtain ⟨v, d, t, w, k, rfl, hv, hd, hb, q⟩ := h
  refine ⟨_, (pss_one (ps_ret (pe_cmpR op_eq (pe_cmpR op_in_seq (pe_ix ix_tup (pv 1) pe_int (fun _ _ => rfl)) (pe_call (ok_keys_of p 9) (hr.mono (by decide)) rfl p.D_keys_of.g p.D_keys_of.F.kp p.D_keys_of.b .nil pass0 (pa_cons (pv 0) pa_nil)) (by with_unfolding_all rfl)) (pe_cmpR op_ne (pe_ix ix_tup (pv 1) pe_int (fun _ _ => rfl)) pe_str (nomark _)) (nomark _)))), ?_⟩
  cases w <;> walk_at "go" <;> exact q _ (by walk_at "same")
def spNeedDeed : Sp := fun vs H Q _ => ∃ (v d : V) (t : Tr) (w : Wt.Wd) (k : Int), vs = [v, d] ∧ Tv H v t ∧ Dv H d w k ∧ sz t ≤ 8 ∧ Wt.possible t w k = true ∧ ∀ H', Same H H' → Q .non H'
theorem rd_needDeed {v d : V} {t : Tr} {w : Wt.Wd} {k : Int} {H : Hp} {Q : VK} {E : XK} (g : Tv H v t) (h : Dv H d w k) (i : sz t ≤ 8) (e : Wt.possible t w k = true) (q : ∀ H', Same H H' → Q .non H') : spNeedDeed [v, d] H Q E := ⟨v, d, t, w, k, rfl, g, h, i, e, q⟩
local macro_rules
  | `(tactic| walk_at "go1") => `(tactic| first
    | ((with_reducible refine rd_behind (t := ?rdt) (t' := ?rdu) (w := ?rdw) (k := ?rdk) ?rdg ?rdh ?rdf ?rdi ?rde ?_); (case rdg => walk_at "tv"); (case rdh => walk_at "tv"); (case rdf => walk_at "tv"); (case rdi => walk_at "le"); (case rde => assumption); intro _ _ _ _)
    | ((with_reducible refine rd_deed (w := ?rdw) (k := ?rdk) (b := ?rdb) ?rdh ?rde ?_); (case rdh => walk_at "tv"); (case rde => first | assumption | exact rfl); intro _ _)
    | ((with_reducible refine rd_poss (t := ?rdt) (w := ?rdw) (k := ?rdk) (b := ?rdb) ?rdg ?rdh ?rdi ?rde ?_); (case rdg => walk_at "tv"); (case rdh => walk_at "tv"); (case rdi => walk_at "le"); (case rde => first | assumption | exact rfl); intro _ _)
    | ((with_reducible refine rd_needDeed (t := ?rdt) (w := ?rdw) (k := ?rdk) ?rdg ?rdh ?rdi ?rde ?_); (case rdg => walk_at "tv"); (case rdh => walk_at "tv"); (case rdi => walk_at "le"); (case rde => assumption); intro _ _))
theorem ok_need_deed (p : Prog K mg) : FnOk P w K mg base CX0 11 p.a_need_deed p.d_need_deed ["shape", "value"] spNeedDeed := by
  refine p.D_need_deed.F.ok sc_need_deed (fun vs H Q E h => ?_) (fun cdv A outer s H vs Q E hr h => ?_)
  · obtain ⟨v, d, t, w, k, rfl, _⟩ := h
    rfl
  obtain ⟨v, d, t, w, k, rfl, hv, hd, hb, e, q⟩ := h
  refine ⟨_, (pss_one (ps_if (PW.pt (pw_or (pt_not (pt_val (pe_call (ok_is_deed p) (hr.mono (by decide)) rfl p.D_is_deed.g p.D_is_deed.F.kp p.D_is_deed.b .nil pass0 (pa_cons (pv 1) pa_nil)))) (pw_or1 (pt_not (pt_val (pe_call (ok_is_possible p) (hr.mono (by decide)) rfl p.D_is_possible.g p.D_is_possible.F.kp p.D_is_possible.b .nil pass0 (pa_cons (pv 0) (pa_cons (pv 1) pa_nil)))))))) (pss_one ps_never) pss_nil)), ?_⟩
  have e1 : (decide (1 ≤ k) && decide (k ≤ 6)) = true := (Bool.and_eq_true_iff.mp e).1
  have e2 : (Wt.has t k == decide (w ≠ .inn)) = true := (Bool.and_eq_true_iff.mp e).2
  walk_at "go"
  exact q _ (by walk_at "same")
/-! ### after -/
def spAfter : Sp := fun vs H Q _ => ∃ (u v d : V) (t t' : Tr) (w : Wt.Wd) (k : Int), vs = [u, v, d] ∧ Rv H u ∧ Tv H v t ∧ Dv H d w k ∧ sz t ≤ 8 ∧ Wt.btw t 1 6 = true ∧ Wt.areR t = true ∧ Wt.possible t w k = true ∧ Wt.afterP t w k = some t' ∧
  ∀ x H', Same H H' → Tv H' x t' → Q x H'
theorem ok_after (p : Prog K mg) : FnOk P w K mg base CX0 24 p.a_after p.d_after ["rule", "shape", "deed"] spAfter := by
  refine p.D_after.F.ok sc_after (fun vs H Q E h => ?_) (fun cdv A outer s H vs Q E hr h => ?_)
  · obtain ⟨u, v, d, t, t', w, k, rfl, _⟩ := h
    rfl
  obtain ⟨u, v, d, t, t', w, k, rfl, hu, hv, hd, hb, h1, h2, h3, e, q⟩ := h
  refine ⟨_, (pss_cons (ps_expr (pe_call (ok_need_rule p) (hr.mono (by decide)) rfl p.D_need_rule.g p.D_need_rule.F.kp p.D_need_rule.b .nil pass0 (pa_cons (pv 0) pa_nil)))
      (pss_cons (ps_expr (pe_call (ok_need_shape p) (hr.mono (by decide)) rfl p.D_need_shape.g p.D_need_shape.F.kp p.D_need_shape.b .nil pass0 (pa_cons (pv 1) pa_nil)))
      (pss_cons (ps_if (pt_not (pt_val (pe_call (ok_is_kept p) (hr.mono (by decide)) rfl p.D_is_kept.g p.D_is_kept.F.kp p.D_is_kept.b .nil pass0 (pa_cons (pv 0) (pa_cons (pv 1) pa_nil))))) (pss_one ps_never) pss_nil)
      (pss_cons (ps_expr (pe_call (ok_need_deed p) (hr.mono (by decide)) rfl p.D_need_deed.g p.D_need_deed.F.kp p.D_need_deed.b .nil pass0 (pa_cons (pv 1) (pa_cons (pv 2) pa_nil))))
      (pss_one (ps_ret (pe_call (ok_behind p) (hr.mono (by decide)) rfl p.D_behind.g p.D_behind.F.kp p.D_behind.b .nil pass0 (pa_cons (pv 0) (pa_cons (pv 1) (pa_cons (pv 2) pa_nil)))))))))), ?_⟩
  walk_at "go"
  exact q _ _ (by walk_at "same") (by walk_at "tv")
/-! ### more of the reading: cut lists, filtered lists, pairs -/
theorem cut_last (xs : List V) : cutV xs none (some (-1)) = xs.dropLast := by
  unfold cutV
  have e : HT.sIx xs.length xs.length (some (-1)) = xs.length - 1 := by
    show (if (-1 : Int) < 0 then ((-1 : Int) + (xs.length : Int)).toNat else min (-1 : Int).toNat xs.length) = xs.length - 1
    rw [if_pos (by decide)]
    omega
  rw [e, HT.sIx_none, List.drop_zero, Nat.sub_zero, List.dropLast_eq_take]
theorem rd_slice {σ : L2.St} {H : Hp} {Q : VK} {r : V → Option Int → Option Int → Hp → VK → Prop} {te : TE} {tl th : TO} (q : te σ H fun x H1 => tl σ H1 fun l H2 => th σ H2 fun u H3 => r x l u H3 Q) : tSl r te tl th σ H Q := q
theorem rd_noPart {σ : L2.St} {H : Hp} {R : Option Int → Hp → Prop} (q : R none H) : tNoPart σ H R := q
theorem rd_part {σ : L2.St} {H : Hp} {t : TE} {R : Option Int → Hp → Prop} (q : t σ H fun x H1 => ∃ i, x = .int i ∧ R (some i) H1) : tPart t σ H R := q
theorem rd_exI {j : Int} {R : Int → Prop} (q : R j) : ∃ i, V.int j = .int i ∧ R i := ⟨j, rfl, q⟩
theorem rd_cutL {K : PySem.W.Frag} {H : Hp} {Q : VK} {x : V} {ns : List Int} (h : Lv H x ns) (q : ∀ v H', Same H H' → Lv H' v ns.dropLast → Q v H') : rSlL K x none (some (-1)) H Q := by
  obtain ⟨a, rfl, h⟩ := h
  refine ⟨a, _, rfl, lst_of h, fun p hp => q _ _ (same_new hp _) ⟨p, rfl, ?_⟩⟩
  rw [upd_same, cut_last, List.map_dropLast]
def revQ (K : PySem.W.Frag) (x : V) (H : Hp) (Q : VK) : Prop := tRevL K (tC x) [] H Q
theorem rd_revL {K : PySem.W.Frag} {σ : L2.St} {H : Hp} {Q : VK} {te : TE} (q : te σ H fun x H1 => revQ K x H1 Q) : tRevL K te σ H Q := q
theorem rd_rev {K : PySem.W.Frag} {H : Hp} {Q : VK} {x : V} {ns : List Int} (h : Lv H x ns) (q : ∀ v H', Same H H' → Lv H' v ns.reverse → Q v H') : revQ K x H Q := by
  obtain ⟨a, rfl, h⟩ := h
  refine ⟨a, _, rfl, lst_of h, fun p hp => q _ _ (same_new hp _) ⟨p, rfl, ?_⟩⟩
  rw [upd_same, List.map_reverse]
/-- a pair as it is -/
def Qv (H : Hp) (v : V) (x y : V) : Prop := ∃ a, v = .ref a ∧ H a = some (.tup [x, y])
theorem Qv.same {H H' : Hp} (s : Same H H') {v x y : V} : Qv H v x y → Qv H' v x y
  | ⟨a, e, h⟩ => ⟨a, e, s _ _ h⟩
theorem rd_pair {H : Hp} {Q : VK} {x y : V} (q : ∀ v H', Same H H' → Qv H' v x y → Q v H') : mkT [x, y] H Q :=
  ⟨by show 2 ≤ sizeLine; decide, fun p hp => q _ _ (same_new hp _) ⟨p, rfl, upd_same⟩⟩
theorem rd_unQ {K : PySem.W.Frag} {σ : L2.St} {H : Hp} {x y z : V} {i1 i2 : Nat} {R : L2.St → Hp → Prop} (h : Qv H x y z) (q : R ((σ.set i1 (some y)).set i2 (some z)) H) :
    gTup K 2 (gCons (gName i1) (gCons (gName i2) gNil)) x σ H R := by
  obtain ⟨a, rfl, h⟩ := h
  exact ⟨a, _, rfl, tup_of h, rfl, _, _, rfl, _, _, rfl, rfl, q⟩
theorem rd_lat0 {K : PySem.W.Frag} {H : Hp} {Q : VK} {x : V} {k : Int} {ks : List Int} (h : Lv H x (k :: ks)) (q : Q (.int k) H) : rIxL K x (.int 0) H Q := by
  obtain ⟨a, rfl, h⟩ := h
  exact ⟨a, _, 0, _, rfl, rfl, lst_of h, atI_nat (j := 0) rfl, q⟩
theorem ints_dp {K : PySem.W.Frag} {H : Hp} : ∀ ns : List Int, DpAll K H (ns.map V.int) (ns.map PyData.int)
  | [] => .nil
  | n :: ns => .cons (.int n) (ints_dp ns)
theorem ints_lay : ∀ ns : List Int, PyData.canLayAll0 (ns.map PyData.int) = true
  | [] => rfl
  | n :: ns => by simp [PyData.canLayAll0, PyData.canLay0, ints_lay ns]
theorem ints_dep : ∀ ns : List Int, PyData.depthAll (ns.map PyData.int) = 0
  | [] => rfl
  | n :: ns => by simp [PyData.depthAll, PyData.depth, ints_dep ns]
theorem ints_shaped (ns : List Int) : SeqAt.shaped (.list (ns.map PyData.int)) = true := by
  unfold SeqAt.shaped
  simp [PyData.canLay0, PyData.depth, ints_lay, ints_dep]
theorem ints_nil (ns : List Int) : PyData.eqv (.list (ns.map PyData.int)) (.list []) = ns.isEmpty := by
  cases ns <;> simp [PyData.eqv, PyData.eqvAll]
theorem rd_eqL {K : PySem.W.Frag} {H : Hp} {Q : VK} {x y : V} {ns : List Int} (h : Lv H x ns) (g : Lv H y []) (q : Q (.bl ns.isEmpty) H) : rEqD K x y H Q := by
  obtain ⟨a, rfl, h⟩ := h
  obtain ⟨b, rfl, g⟩ := g
  exact ⟨_, _, .lst (lst_of h) (ints_dp ns), .lst (lst_of g) .nil, ints_shaped ns, ints_shaped [], by rw [ints_nil]; exact q⟩
theorem rd_neL {K : PySem.W.Frag} {H : Hp} {Q : VK} {x y : V} {ns : List Int} (h : Lv H x ns) (g : Lv H y []) (q : Q (.bl (!ns.isEmpty)) H) : rNeD K x y H Q := by
  obtain ⟨a, rfl, h⟩ := h
  obtain ⟨b, rfl, g⟩ := g
  exact ⟨_, _, .lst (lst_of h) (ints_dp ns), .lst (lst_of g) .nil, ints_shaped ns, ints_shaped [], by rw [ints_nil]; exact q⟩
/-- a tree and a list of keys, in a tuple -/
def Ov (H : Hp) (v : V) (t : Tr) (ks : List Int) : Prop := ∃ a x y, v = .ref a ∧ H a = some (.tup [x, y]) ∧ Tv H x t ∧ Lv H y ks
theorem Ov.same {H H' : Hp} (s : Same H H') {v : V} {t : Tr} {ks : List Int} : Ov H v t ks → Ov H' v t ks
  | ⟨a, x, y, e, h, p, q⟩ => ⟨a, x, y, e, s _ _ h, p.same s, q.same s⟩
theorem rd_mkO {H : Hp} {Q : VK} {x y : V} {t : Tr} {ks : List Int} (hx : Tv H x t) (hy : Lv H y ks) (q : ∀ v H', Same H H' → Ov H' v t ks → Q v H') : mkT [x, y] H Q :=
  ⟨by show 2 ≤ sizeLine; decide, fun p hp => q _ _ (same_new hp _) ⟨p, x, y, rfl, upd_same, hx.same (same_new hp _), hy.same (same_new hp _)⟩⟩
theorem rd_out0 {K : PySem.W.Frag} {H : Hp} {Q : VK} {x : V} {t : Tr} {ks : List Int} (h : Ov H x t ks) (q : ∀ v, Tv H v t → Q v H) : rIxT K x (.int 0) H Q := by
  obtain ⟨a, y, z, rfl, h, p, s⟩ := h
  exact ⟨a, _, 0, y, rfl, rfl, tup_of h, atI_nat (j := 0) rfl, q _ p⟩
theorem rd_unO {K : PySem.W.Frag} {σ : L2.St} {H : Hp} {x : V} {t : Tr} {ks : List Int} {i1 i2 : Nat} {R : L2.St → Hp → Prop} (h : Ov H x t ks) (q : ∀ u v, Tv H u t → Lv H v ks → R ((σ.set i1 (some u)).set i2 (some v)) H) :
    gTup K 2 (gCons (gName i1) (gCons (gName i2) gNil)) x σ H R := by
  obtain ⟨a, y, z, rfl, h, p, s⟩ := h
  exact ⟨a, _, rfl, tup_of h, rfl, _, _, rfl, _, _, rfl, rfl, q _ _ p s⟩
/-- [k for k in a list if ..] -/
def lcL (K : PySem.W.Frag) (g : TG) (tt : L2.TT) (te : TE) (vs : List Nat) (σ : L2.St) (x : V) (H : Hp) (Q : VK) : Prop := tLc (iList K (tC x)) g tt te vs σ H Q
theorem rd_lcL {K : PySem.W.Frag} {g : TG} {tt : L2.TT} {te : TE} {vs : List Nat} {σ : L2.St} {H : Hp} {Q : VK} {tl : TE} (q : tl σ H fun x H1 => lcL K g tt te vs σ x H1 Q) : tLc (iList K tl) g tt te vs σ H Q := q
theorem filt_le {f : Int → Bool} {ns : List Int} {i : Nat} (b : ns.length ≤ 1000) : ((ns.take i).filter f).length ≤ 1000 := by
  have h1 := List.length_filter_le f (ns.take i)
  have h2 := List.length_take_le' i ns
  omega
theorem filt_step {f : Int → Bool} {ns : List Int} {i : Nat} {k : Int} (h : ns[i]? = some k) : (ns.take (i + 1)).filter f = (ns.take i).filter f ++ (if f k = true then [k] else []) := by
  rw [List.take_add_one, h, List.filter_append]
  congr 1
  cases hf : f k <;> simp [hf]
/-- how one turn goes: the test's answer is f k, then the item itself is taken -/
theorem lc_turn {f : Int → Bool} {ns : List Int} {i : Nat} {k : Int} {D : Addr} {H1 H2 : Hp} {tt : L2.TT} {te : TE} {σ2 : L2.St} (b : ns.length ≤ 1000) (hk : ns[i]? = some k) (hd : H1 D = none) (s : Same H1 H2) (hD : H2 D = some (.lst (((ns.take i).filter f).map V.int)))
    (turn : ∀ R : Bool → Hp → Prop, (∀ H3, Same H2 H3 → R (f k) H3) → tt σ2 H2 R) (item : ∀ H3 (R : VK), R (.int k) H3 → te σ2 H3 R) :
    tt σ2 H2 fun b H3 => if b = true then te σ2 H3 fun y H4 => ∃ acc, H4 D = some (.lst acc) ∧ acc.length < sizeLine ∧ (Same H1 (upd H4 D (.lst (acc ++ [y]))) ∧ (upd H4 D (.lst (acc ++ [y]))) D = some (.lst (((ns.take (i + 1)).filter f).map V.int)))
      else (Same H1 H3 ∧ H3 D = some (.lst (((ns.take (i + 1)).filter f).map V.int))) := by
  refine turn _ fun H3 s3 => ?_
  have s13 : Same H1 H3 := s.trans s3
  have hD3 := s3 _ _ hD
  rw [filt_step hk]
  cases hf : f k with
  | false =>
    refine iteF ⟨s13, ?_⟩
    simpa using hD3
  | true =>
    refine iteT (item _ _ ⟨_, hD3, ?_, fun c o e => ?_, ?_⟩)
    · rw [List.length_map]
      exact small1000 (filt_le b)
    · rw [upd_ne (ne_of_none e hd)]
      exact s13 _ _ e
    · rw [upd_same, if_pos rfl, List.map_append]
      rfl
theorem rd_filter {K : PySem.W.Frag} {i : Nat} {tt : L2.TT} {te : TE} {vs : List Nat} {σ : L2.St} {x : V} {H : Hp} {Q : VK} {ns : List Int} (f : Int → Bool) (h : Lv H x ns) (b : ns.length ≤ 1000) (hw : ∀ y, wipe ((wipe σ vs).set i y) vs = wipe σ vs)
    (turn : ∀ (k : Int) (H2 : Hp) (R : Bool → Hp → Prop), Same H H2 → (∀ H3, Same H2 H3 → R (f k) H3) → tt ((wipe σ vs).set i (some (.int k))) H2 R) (item : ∀ (k : Int) H3 (R : VK), R (.int k) H3 → te ((wipe σ vs).set i (some (.int k))) H3 R)
    (q : ∀ v H', Same H H' → Lv H' v (ns.filter f) → Q v H') : lcL K (gName i) tt te vs σ x H Q := by
  obtain ⟨a, rfl, ha⟩ := h
  refine ⟨a, rfl, ⟨_, lst_of ha⟩, fun D hd => lc_list (xs := ns.map V.int) (fun j H2 => Same H H2 ∧ H2 D = some (.lst (((ns.take j).filter f).map V.int))) ⟨same_new hd _, upd_same⟩ (fun j H2 _ ⟨s, _⟩ => lst_of (s _ _ ha)) (fun j y H2 hy ⟨s, hD⟩ => ?_) fun H2 ⟨s, hD⟩ => ?_⟩
  · rw [List.getElem?_map] at hy
    obtain ⟨k, hk, rfl⟩ := Option.map_eq_some_iff.mp hy
    exact ⟨hw _, lc_turn b hk hd s hD (turn k H2 · s) (item k)⟩
  · rw [List.length_map, List.take_length] at hD
    exact q _ _ s ⟨D, rfl, hD⟩
/-- [k for k in range(lo, hi) if ..] -/
def lcR (g : TG) (tt : L2.TT) (te : TE) (vs : List Nat) (σ : L2.St) (us : List V) (H : Hp) (Q : VK) : Prop := tLc (iRng2 (taC us)) g tt te vs σ H Q
theorem rd_lcR {g : TG} {tt : L2.TT} {te : TE} {vs : List Nat} {σ : L2.St} {H : Hp} {Q : VK} {ta : TA} (q : ta σ H fun us H1 => lcR g tt te vs σ us H1 Q) : tLc (iRng2 ta) g tt te vs σ H Q := q
theorem op_notInK {X : Cx} {K : PySem.W.Frag} (e : X.K = K) : OpR X (compareOp .NotIn) (rIn K true) := by
  subst e
  exact op_notIn_seq
theorem rd_filter6 {i : Nat} {tt : L2.TT} {te : TE} {vs : List Nat} {σ : L2.St} {H : Hp} {Q : VK} (f : Int → Bool) (hw : ∀ y, wipe ((wipe σ vs).set i y) vs = wipe σ vs)
    (turn : ∀ (k : Int) (H2 : Hp) (R : Bool → Hp → Prop), Same H H2 → (∀ H3, Same H2 H3 → R (f k) H3) → tt ((wipe σ vs).set i (some (.int k))) H2 R) (item : ∀ (k : Int) H3 (R : VK), R (.int k) H3 → te ((wipe σ vs).set i (some (.int k))) H3 R)
    (q : ∀ D H', H D = none → Same H H' → H' D = some (.lst ((Wt.ks6.filter f).map V.int)) → Q (.ref D) H') : lcR (gName i) tt te vs σ [.int 1, .int 7] H Q := by
  refine ⟨1, 7, rfl, ⟨by decide, by decide, by decide, by decide⟩, fun D hd => lc_range (lo := 1) (n := 6) (fun j H2 => Same H H2 ∧ H2 D = some (.lst (((Wt.ks6.take j).filter f).map V.int))) ⟨same_new hd _, upd_same⟩ (fun j H2 hj ⟨s, hD⟩ => ?_) fun H2 ⟨s, hD⟩ => ?_⟩
  · have hk : Wt.ks6[j]? = some (1 + (j : Int)) := by
      have : j = 0 ∨ j = 1 ∨ j = 2 ∨ j = 3 ∨ j = 4 ∨ j = 5 := by omega
      rcases this with rfl | rfl | rfl | rfl | rfl | rfl <;> rfl
    exact ⟨hw _, lc_turn (by decide) hk hd s hD (turn _ H2 · s) (item _)⟩
  · exact q _ _ hd s hD
local macro_rules
  | `(tactic| walk_at "tv") => `(tactic| first | (refine Ov.same ?_ (by assumption); walk_at "same") | (refine Qv.same ?_ (by assumption); walk_at "same"))
local macro_rules
  | `(tactic| walk_at "go1") => `(tactic| first
    | with_reducible refine rd_slice ?_
    | with_reducible refine rd_noPart ?_
    | with_reducible refine rd_part ?_
    | with_reducible refine rd_exI ?_
    | ((with_reducible refine rd_cutL (ns := ?rdl) ?rdh ?_); (case rdh => walk_at "tv"); intro _ _ _ _)
    | with_reducible refine rd_revL ?_
    | ((with_reducible refine rd_rev (ns := ?rdl) ?rdh ?_); (case rdh => walk_at "tv"); intro _ _ _ _)
    | ((with_reducible refine rd_unQ (y := ?rdy) (z := ?rdz) ?rdh ?_); (case rdh => walk_at "tv"))
    | ((with_reducible refine rd_lat0 (k := ?rdk) (ks := ?rdl) ?rdh ?_); (case rdh => walk_at "tv"))
    | ((with_reducible refine rd_eqL (ns := ?rdl) ?rdh ?rdi ?_); (case rdh => walk_at "tv"); (case rdi => walk_at "tv"))
    | ((with_reducible refine rd_neL (ns := ?rdl) ?rdh ?rdi ?_); (case rdh => walk_at "tv"); (case rdi => walk_at "tv"))
    | ((with_reducible refine rd_mkO (t := ?rdt) (ks := ?rdl) ?rdh ?rdi ?_); (case rdh => walk_at "tv"); (case rdi => walk_at "tv"); intro _ _ _ _)
    | ((with_reducible refine rd_out0 (t := ?rdt) (ks := ?rdl) ?rdh ?_); (case rdh => walk_at "tv"); intro _ _)
    | ((with_reducible refine rd_unO (t := ?rdt) (ks := ?rdl) ?rdh ?_); (case rdh => walk_at "tv"); intro _ _ _ _)
    | with_reducible refine rd_lcL ?_
    | with_reducible refine rd_lcR ?_)
/-! ### the law's own defs: keys, path, order -/
def spKeysN (n : Nat) : Sp := fun vs H Q _ => ∃ (v : V) (t : Tr), vs = [v] ∧ Tv H v t ∧ sz t < n ∧ sz t ≤ 60 ∧ ∀ u H', Same H H' → Lv H' u t.keys → Fr H u → Q u H'
theorem rd_keysN {n : Nat} {v : V} {t : Tr} {H : Hp} {Q : VK} {E : XK} (h : Tv H v t) (b : sz t < n) (c : sz t ≤ 60) (q : ∀ u H', Same H H' → Lv H' u t.keys → Fr H u → Q u H') : spKeysN n [v] H Q E := ⟨v, t, rfl, h, b, c, q⟩
local macro_rules
  | `(tactic| walk_at "go1") => `(tactic| ((with_reducible refine rd_keysN (t := ?rdt) ?rdh ?rdb ?rdc ?_); (case rdh => walk_at "tv"); (case rdb => walk_at "le"); (case rdc => walk_at "le"); intro _ _ _ _ _))
local macro_rules
  | `(tactic| walk_at "fr") => `(tactic| (refine Fr.of ?_ (by assumption); walk_at "same"))
theorem ok_keysN (p : Prog K mg) : ∀ n, FnOk P w K mg base CX0 n p.a_keysL p.d_keysL ["_law_shape"] (spKeysN n)
  | 0 => none_left fun vs H Q E ⟨_, _, _, _, h, _⟩ => Nat.not_lt_zero _ h
  | n + 1 => by
    have ih := ok_keysN p n
    refine p.D_keysL.F.ok sc_keysL (fun vs H Q E h => ?_) (fun cdv A outer s H vs Q E hr h => ?_)
    · obtain ⟨v, t, rfl, _⟩ := h
      rfl
    obtain ⟨v, t, rfl, hv, hb, hc, q⟩ := h
    refine ⟨_, (pss_one (ps_ret (pe_ifExp (pt_cmpR (op_neD hr.units) (pv 0) (pe_tup pa_nil) (nomark _)) (pe_op op_cat (pe_op op_cat (pe_call ih hr rfl p.D_keysL.g p.D_keysL.F.kp p.D_keysL.b .nil pass0 (pa_cons (pe_ix ix_tup (pv 0) pe_int (fun _ _ => rfl)) pa_nil)) (pe_lst (pa_cons (pe_ix ix_tup (pv 0) pe_int (fun _ _ => rfl)) pa_nil))) (pe_call ih hr rfl p.D_keysL.g p.D_keysL.F.kp p.D_keysL.b .nil pass0 (pa_cons (pe_ix ix_tup (pv 0) pe_int (fun _ _ => rfl)) pa_nil))) (pe_lst pa_nil)))), ?_⟩
    cases t with
    | nil =>
      walk_at "go"
      exact q _ _ (by walk_at "same") (by walk_at "tv") (by walk_at "fr")
    | node l k r =>
      walk_at "go"
      exact q _ _ (by walk_at "same") (by walk_at "tv") (by walk_at "fr")
theorem ok_keysL (p : Prog K mg) (n : Nat) : FnOk P w K mg base CX0 n p.a_keysL p.d_keysL ["_law_shape"] (spKeys n) :=
  (ok_keysN p n).imp fun vs H Q E ⟨v, t, e, h, b, c, q⟩ => ⟨v, t, e, h, b, c, fun u H' s l _ => q u H' s l⟩
theorem path_len : ∀ (t : Tr) (k : Int), (Wt.path t k).length ≤ sz t
  | .nil, _ => Nat.le_refl _
  | .node l j r, k => by
    have h1 := path_len l k
    have h2 := path_len r k
    simp only [Wt.path, sz]
    split
    · simp
      omega
    · split <;> simp <;> omega
def spPath (n : Nat) : Sp := fun vs H Q _ => ∃ (v : V) (t : Tr) (k : Int), vs = [v, .int k] ∧ Tv H v t ∧ sz t < n ∧ sz t ≤ 60 ∧ ∀ u H', Same H H' → Lv H' u (Wt.path t k) → Q u H'
theorem rd_path {n : Nat} {v : V} {t : Tr} {k : Int} {H : Hp} {Q : VK} {E : XK} (h : Tv H v t) (b : sz t < n) (c : sz t ≤ 60) (q : ∀ u H', Same H H' → Lv H' u (Wt.path t k) → Q u H') : spPath n [v, .int k] H Q E := ⟨v, t, k, rfl, h, b, c, q⟩
local macro_rules
  | `(tactic| walk_at "go1") => `(tactic| ((with_reducible refine rd_path (t := ?rdt) ?rdh ?rdb ?rdc ?_); (case rdh => walk_at "tv"); (case rdb => walk_at "le"); (case rdc => walk_at "le"); intro _ _ _ _))
local macro_rules
  | `(tactic| walk_at "le") => `(tactic| (simp only [List.length_append, List.length_cons, List.length_nil, sz] at *; omega))
theorem ok_pathL (p : Prog K mg) : ∀ n, FnOk P w K mg base CX0 n p.a_pathL p.d_pathL ["_law_shape", "_law_key"] (spPath n)
  | 0 => none_left fun vs H Q E ⟨_, _, _, _, _, h, _⟩ => Nat.not_lt_zero _ h
  | n + 1 => by
    have ih := ok_pathL p n
    refine p.D_pathL.F.ok sc_pathL (fun vs H Q E h => ?_) (fun cdv A outer s H vs Q E hr h => ?_)
    · obtain ⟨v, t, k, rfl, _⟩ := h
      rfl
    obtain ⟨v, t, k, rfl, hv, hb, hc, q⟩ := h
    refine ⟨_, (pss_cons (ps_if (pt_cmpR (op_eqD hr.units) (pv 0) (pe_tup pa_nil) (nomark _)) (pss_one (ps_ret (pe_lst pa_nil))) pss_nil)
      (pss_cons (ps_if (pt_cmpR op_eq (pe_ix ix_tup (pv 0) pe_int (fun _ _ => rfl)) (pv 1) (nomark _)) (pss_one (ps_ret (pe_lst (pa_cons (pv 1) pa_nil)))) pss_nil)
      (pss_one (ps_ret (pe_op op_cat (pe_lst (pa_cons (pe_ix ix_tup (pv 0) pe_int (fun _ _ => rfl)) pa_nil)) (pe_call ih hr rfl p.D_pathL.g p.D_pathL.F.kp p.D_pathL.b .nil pass0 (pa_cons (pe_ifExp (pt_cmpR op_lt (pv 1) (pe_ix ix_tup (pv 0) pe_int (fun _ _ => rfl)) (nomark _)) (pe_ix ix_tup (pv 0) pe_int (fun _ _ => rfl)) (pe_ix ix_tup (pv 0) pe_int (fun _ _ => rfl))) (pa_cons (pv 1) pa_nil)))))))), ?_⟩
    cases t with
    | nil =>
      walk_at "go"
      exact q _ _ (by walk_at "same") (by walk_at "tv")
    | node l j r =>
      have pl := path_len l k
      have pr := path_len r k
      by_cases hj : j = k
      · have hd : decide (j = k) = true := decide_eq_true hj
        simp only [Wt.path, if_pos hj] at q
        walk_at "go"
        exact q _ _ (by walk_at "same") (by walk_at "tv")
      · have hd : decide (j = k) = false := decide_eq_false hj
        by_cases hk : k < j
        · have he : decide (k < j) = true := decide_eq_true hk
          simp only [Wt.path, if_neg hj, if_pos hk] at q
          walk_at "go"
          exact q _ _ (by walk_at "same") (by walk_at "tv")
        · have he : decide (k < j) = false := decide_eq_false hk
          simp only [Wt.path, if_neg hj, if_neg hk] at q
          walk_at "go"
          exact q _ _ (by walk_at "same") (by walk_at "tv")
theorem order_len : ∀ t : Tr, (Wt.order t).length = sz t
  | .nil => rfl
  | .node l k r => by
    have h1 := order_len l
    have h2 := order_len r
    simp only [Wt.order, sz, List.length_append, List.length_singleton, h1, h2]
    omega
local macro_rules
  | `(tactic| walk_at "le") => `(tactic| (simp only [List.length_append, List.length_cons, List.length_nil, order_len, sz] at *; omega))
def spOrder (n : Nat) : Sp := fun vs H Q _ => ∃ (v : V) (t : Tr), vs = [v] ∧ Tv H v t ∧ sz t < n ∧ sz t ≤ 60 ∧ ∀ u H', Same H H' → Lv H' u (Wt.order t) → Q u H'
theorem rd_order {n : Nat} {v : V} {t : Tr} {H : Hp} {Q : VK} {E : XK} (h : Tv H v t) (b : sz t < n) (c : sz t ≤ 60) (q : ∀ u H', Same H H' → Lv H' u (Wt.order t) → Q u H') : spOrder n [v] H Q E := ⟨v, t, rfl, h, b, c, q⟩
local macro_rules
  | `(tactic| walk_at "go1") => `(tactic| ((with_reducible refine rd_order (t := ?rdt) ?rdh ?rdb ?rdc ?_); (case rdh => walk_at "tv"); (case rdb => walk_at "le"); (case rdc => walk_at "le"); intro _ _ _ _))
theorem ok_orderL (p : Prog K mg) : ∀ n, FnOk P w K mg base CX0 n p.a_orderL p.d_orderL ["_law_shape"] (spOrder n)
  | 0 => none_left fun vs H Q E ⟨_, _, _, _, h, _⟩ => Nat.not_lt_zero _ h
  | n + 1 => by
    have ih := ok_orderL p n
    refine p.D_orderL.F.ok sc_orderL (fun vs H Q E h => ?_) (fun cdv A outer s H vs Q E hr h => ?_)
    · obtain ⟨v, t, rfl, _⟩ := h
      rfl
    obtain ⟨v, t, rfl, hv, hb, hc, q⟩ := h
    refine ⟨_, (pss_one (ps_ret (pe_ifExp (pt_cmpR (op_neD hr.units) (pv 0) (pe_tup pa_nil) (nomark _)) (pe_op op_cat (pe_op op_cat (pe_lst (pa_cons (pe_ix ix_tup (pv 0) pe_int (fun _ _ => rfl)) pa_nil)) (pe_call ih hr rfl p.D_orderL.g p.D_orderL.F.kp p.D_orderL.b .nil pass0 (pa_cons (pe_ix ix_tup (pv 0) pe_int (fun _ _ => rfl)) pa_nil))) (pe_call ih hr rfl p.D_orderL.g p.D_orderL.F.kp p.D_orderL.b .nil pass0 (pa_cons (pe_ix ix_tup (pv 0) pe_int (fun _ _ => rfl)) pa_nil))) (pe_lst pa_nil)))), ?_⟩
    cases t with
    | nil =>
      walk_at "go"
      exact q _ _ (by walk_at "same") (by walk_at "tv")
    | node l k r =>
      walk_at "go"
      exact q _ _ (by walk_at "same") (by walk_at "tv")
/-! ### plant, leaf -/
def spPlant (n : Nat) : Sp := fun vs H Q _ => ∃ (v : V) (ns : List Int), vs = [v] ∧ Lv H v ns ∧ ns.length < n ∧ ns.length ≤ 60 ∧ ∀ u H', Same H H' → Tv H' u (Wt.plantF n ns) → Q u H'
theorem rd_plant {n : Nat} {v : V} {ns : List Int} {H : Hp} {Q : VK} {E : XK} (h : Lv H v ns) (b : ns.length < n) (c : ns.length ≤ 60) (q : ∀ u H', Same H H' → Tv H' u (Wt.plantF n ns) → Q u H') : spPlant n [v] H Q E := ⟨v, ns, rfl, h, b, c, q⟩
theorem filter_lt {x : Int} {xs : List Int} {f : Int → Bool} (h : f x = false) : ((x :: xs).filter f).length ≤ xs.length := by
  rw [List.filter_cons_of_neg (by rw [h]; exact Bool.false_ne_true)]
  exact List.length_filter_le _ _
theorem ok_plantL (p : Prog K mg) : ∀ n, FnOk P w K mg base CX0 n p.a_plantL p.d_plantL ["_law_keys_here"] (spPlant n)
  | 0 => none_left fun vs H Q E ⟨_, _, _, _, h, _⟩ => Nat.not_lt_zero _ h
  | n + 1 => by
    have ih := ok_plantL p n
    refine p.D_plantL.F.ok sc_plantL (fun vs H Q E h => ?_) (fun cdv A outer s H vs Q E hr h => ?_)
    · obtain ⟨v, ns, rfl, _⟩ := h
      rfl
    obtain ⟨v, ns, rfl, hv, hb, hc, q⟩ := h
    refine ⟨_, (pss_cons (ps_if (pt_cmpR (op_eqD hr.units) (pv 0) (pe_lst pa_nil) (nomark _)) (pss_one (ps_ret (pe_tup pa_nil))) pss_nil)
      (pss_cons (ps_set (i := 1) sc_plantL.nd rfl (Or.inr rfl) (pe_ix ix_list (pv 0) pe_int (fun _ _ => rfl)))
      (pss_one (ps_ret (pe_tup (pa_cons (pe_call ih hr rfl p.D_plantL.g p.D_plantL.F.kp p.D_plantL.b .nil pass0 (pa_cons (pe_lc (own := [("_law_key", 2)]) (g := gName 2) rfl sc_plantL.nd (pi_list (pv 0)) (blkOk_by (own := [("_law_key", 2)]) (N := ["_law_keys_here", "_law_top", "_law_key"]) (sc := defScope (topS 78)) (by decide +kernel)) (fun _ _ _ _ _ => pg_name (i := 2) sc_plantL.nd rfl (Or.inl rfl)) (fun _ _ _ _ _ => (pts_one (pt_cmpR op_lt (pv 2) (pv 1) (nomark _)))) (fun _ _ _ _ _ => (pv 2))) pa_nil)) (pa_cons (pv 1) (pa_cons (pe_call ih hr rfl p.D_plantL.g p.D_plantL.F.kp p.D_plantL.b .nil pass0 (pa_cons (pe_lc (own := [("_law_key", 2)]) (g := gName 2) rfl sc_plantL.nd (pi_list (pv 0)) (blkOk_by (own := [("_law_key", 2)]) (N := ["_law_keys_here", "_law_top", "_law_key"]) (sc := defScope (topS 78)) (by decide +kernel)) (fun _ _ _ _ _ => pg_name (i := 2) sc_plantL.nd rfl (Or.inl rfl)) (fun _ _ _ _ _ => (pts_one (pt_cmpR op_gt (pv 2) (pv 1) (nomark _)))) (fun _ _ _ _ _ => (pv 2))) pa_nil)) pa_nil)))))))), ?_⟩
    cases ns with
    | nil =>
      walk_at "go"
      exact q _ _ (by walk_at "same") (by walk_at "tv")
    | cons x xs =>
      have b1 : ((x :: xs).filter fun k => decide (k < x)).length ≤ xs.length := filter_lt (decide_eq_false (Int.lt_irrefl x))
      have b2 : ((x :: xs).filter fun k => decide (k > x)).length ≤ xs.length := filter_lt (decide_eq_false (Int.lt_irrefl x))
      simp only [List.length_cons] at hb hc
      walk_at "go"
      refine rd_filter (ns := x :: xs) (fun k => decide (k < x)) (by walk_at "tv") (by simp only [List.length_cons]; omega) (fun _ => rfl) (fun k H2 R s2 hR => ?_) (fun k H3 R hR => ?_) (fun u1 H2 s2 h2 => ?_)
      · walk_at "go"
        exact hR _ (by walk_at "same")
      · walk_at "go"
        exact hR
      walk_at "go"
      refine rd_plant h2 (by omega) (by omega) (fun u2 H3 s3 h3 => ?_)
      walk_at "go"
      refine rd_filter (ns := x :: xs) (fun k => decide (k > x)) (by walk_at "tv") (by simp only [List.length_cons]; omega) (fun _ => rfl) (fun k H2 R s2 hR => ?_) (fun k H3 R hR => ?_) (fun u4 H4 s4 h4 => ?_)
      · walk_at "go"
        exact hR _ (by walk_at "same")
      · walk_at "go"
        exact hR
      walk_at "go"
      refine rd_plant h4 (by omega) (by omega) (fun u5 H5 s5 h5 => ?_)
      walk_at "go"
      exact q _ _ (by walk_at "same") (by walk_at "tv")
local macro_rules
  | `(tactic| walk_at "go1") => `(tactic| ((with_reducible refine rd_plant (ns := ?rdt) ?rdh ?rdb ?rdc ?_); (case rdh => walk_at "tv"); (case rdb => walk_at "le"); (case rdc => walk_at "le"); intro _ _ _ _))
def spLeaf : Sp := fun vs H Q _ => ∃ (v : V) (t : Tr) (k : Int), vs = [v, .int k] ∧ Tv H v t ∧ sz t ≤ 7 ∧ ∀ u H', Same H H' → Tv H' u (Wt.leaf t k) → Q u H'
theorem rd_leaf {v : V} {t : Tr} {k : Int} {H : Hp} {Q : VK} {E : XK} (h : Tv H v t) (b : sz t ≤ 7) (q : ∀ u H', Same H H' → Tv H' u (Wt.leaf t k) → Q u H') : spLeaf [v, .int k] H Q E := ⟨v, t, k, rfl, h, b, q⟩
local macro_rules
  | `(tactic| walk_at "go1") => `(tactic| ((with_reducible refine rd_leaf (t := ?rdt) ?rdh ?rdb ?_); (case rdh => walk_at "tv"); (case rdb => walk_at "le"); intro _ _ _ _))
theorem ok_leafL (p : Prog K mg) : FnOk P w K mg base CX0 10 p.a_leafL p.d_leafL ["_law_shape", "_law_key"] spLeaf := by
  refine p.D_leafL.F.ok sc_leafL (fun vs H Q E h => ?_) (fun cdv A outer s H vs Q E hr h => ?_)
  · obtain ⟨v, t, k, rfl, _⟩ := h
    rfl
  obtain ⟨v, t, k, rfl, hv, hb, q⟩ := h
  refine ⟨_, (pss_one (ps_ret (pe_call (ok_plantL p 9) (hr.mono (by decide)) rfl p.D_plantL.g p.D_plantL.F.kp p.D_plantL.b .nil pass0 (pa_cons (pe_op op_cat (pe_call (ok_orderL p 9) (hr.mono (by decide)) rfl p.D_orderL.g p.D_orderL.F.kp p.D_orderL.b .nil pass0 (pa_cons (pv 0) pa_nil)) (pe_lst (pa_cons (pv 1) pa_nil))) pa_nil)))), ?_⟩
  walk_at "go"
  exact q _ _ (by walk_at "same") (by walk_at "tv")
/-! ### turn, part, put -/
theorem top_true : ∀ {t : Tr} {k : Int}, Wt.topIs t k = true → ∃ a b, t = .node a k b
  | .nil, _, h => by cases h
  | .node a j b, k, h => by
    have e : j = k := of_decide_eq_true h
    subst e
    exact ⟨a, b, rfl⟩
theorem top_false : ∀ {t : Tr} {k : Int}, Wt.topIs t k = false → t = .nil ∨ ∃ a j b, t = .node a j b ∧ decide (j = k) = false
  | .nil, _, _ => .inl rfl
  | .node a j b, k, h => .inr ⟨a, j, b, rfl, h⟩
def spKeyL (f : Tr → Int → Option Tr) (n : Nat) : Sp := fun vs H Q _ => ∃ (v : V) (t t' : Tr) (k : Int), vs = [v, .int k] ∧ Tv H v t ∧ sz t < n ∧ sz t ≤ 60 ∧ f t k = some t' ∧ ∀ u H', Same H H' → Tv H' u t' → Q u H'
theorem rd_keyL {f : Tr → Int → Option Tr} {n : Nat} {v : V} {t t' : Tr} {k : Int} {H : Hp} {Q : VK} {E : XK} (h : Tv H v t) (b : sz t < n) (c : sz t ≤ 60) (e : f t k = some t') (q : ∀ u H', Same H H' → Tv H' u t' → Q u H') : spKeyL f n [v, .int k] H Q E := ⟨v, t, t', k, rfl, h, b, c, e, q⟩
local macro_rules
  | `(tactic| walk_at "go1") => `(tactic| ((with_reducible refine rd_keyL (t := ?rdt) (t' := ?rdu) ?rdh ?rdb ?rdc ?rde ?_); (case rdh => walk_at "tv"); (case rdb => walk_at "le"); (case rdc => walk_at "le"); (case rde => assumption); intro _ _ _ _))
theorem ok_turnL (p : Prog K mg) : ∀ n, FnOk P w K mg base CX0 n p.a_turnL p.d_turnL ["_law_shape", "_law_key"] (spKeyL Wt.turn n)
  | 0 => none_left fun vs H Q E ⟨_, _, _, _, _, _, h, _⟩ => Nat.not_lt_zero _ h
  | n + 1 => by
    have ih := ok_turnL p n
    refine p.D_turnL.F.ok sc_turnL (fun vs H Q E h => ?_) (fun cdv A outer s H vs Q E hr h => ?_)
    · obtain ⟨v, t, t', k, rfl, _⟩ := h
      rfl
    obtain ⟨v, t, t', k, rfl, hv, hb, hc, e, q⟩ := h
    refine ⟨_, (pss_cons (ps_asg (pv 0) (pg_tup (n := 3) rfl (pgs_cons (pg_name (i := 2) sc_turnL.nd rfl (Or.inl rfl)) (pgs_cons (pg_name (i := 3) sc_turnL.nd rfl (Or.inl rfl)) (pgs_cons (pg_name (i := 4) sc_turnL.nd rfl (Or.inl rfl)) pgs_nil)))))
      (pss_cons (ps_if (PW.pt (pw_and (pt_cmpR (op_neD hr.units) (pv 2) (pe_tup pa_nil) (nomark _)) (pw_and1 (pt_cmpR op_eq (pe_ix ix_tup (pv 2) pe_int (fun _ _ => rfl)) (pv 1) (nomark _))))) (pss_one (ps_ret (pe_tup (pa_cons (pe_ix ix_tup (pv 2) pe_int (fun _ _ => rfl)) (pa_cons (pv 1) (pa_cons (pe_tup (pa_cons (pe_ix ix_tup (pv 2) pe_int (fun _ _ => rfl)) (pa_cons (pv 3) (pa_cons (pv 4) pa_nil)))) pa_nil)))))) pss_nil)
      (pss_cons (ps_if (PW.pt (pw_and (pt_cmpR (op_neD hr.units) (pv 4) (pe_tup pa_nil) (nomark _)) (pw_and1 (pt_cmpR op_eq (pe_ix ix_tup (pv 4) pe_int (fun _ _ => rfl)) (pv 1) (nomark _))))) (pss_one (ps_ret (pe_tup (pa_cons (pe_tup (pa_cons (pv 2) (pa_cons (pv 3) (pa_cons (pe_ix ix_tup (pv 4) pe_int (fun _ _ => rfl)) pa_nil)))) (pa_cons (pv 1) (pa_cons (pe_ix ix_tup (pv 4) pe_int (fun _ _ => rfl)) pa_nil)))))) pss_nil)
      (pss_cons (ps_if (pt_cmpR op_lt (pv 1) (pv 3) (nomark _)) (pss_one (ps_ret (pe_tup (pa_cons (pe_call ih hr rfl p.D_turnL.g p.D_turnL.F.kp p.D_turnL.b .nil pass0 (pa_cons (pv 2) (pa_cons (pv 1) pa_nil))) (pa_cons (pv 3) (pa_cons (pv 4) pa_nil)))))) pss_nil)
      (pss_one (ps_ret (pe_tup (pa_cons (pv 2) (pa_cons (pv 3) (pa_cons (pe_call ih hr rfl p.D_turnL.g p.D_turnL.F.kp p.D_turnL.b .nil pass0 (pa_cons (pv 4) (pa_cons (pv 1) pa_nil))) pa_nil)))))))))), ?_⟩
    cases t with
    | nil => cases e
    | node l j r =>
      unfold Wt.turn at e
      cases hl : Wt.topIs l k with
      | true =>
        rw [if_pos hl] at e
        obtain ⟨a, b, rfl⟩ := top_true hl
        have hd : decide (k = k) = true := decide_eq_true rfl
        cases e
        walk_at "go"
        exact q _ _ (by walk_at "same") (by walk_at "tv")
      | false =>
        rw [if_neg (by rw [hl]; exact Bool.false_ne_true)] at e
        cases hm : Wt.topIs r k with
        | true =>
          rw [if_pos hm] at e
          obtain ⟨a, b, rfl⟩ := top_true hm
          have hd : decide (k = k) = true := decide_eq_true rfl
          cases e
          rcases top_false hl with rfl | ⟨c, i, d, rfl, hi⟩
          · walk_at "go"
            exact q _ _ (by walk_at "same") (by walk_at "tv")
          · walk_at "go"
            exact q _ _ (by walk_at "same") (by walk_at "tv")
        | false =>
          rw [if_neg (by rw [hm]; exact Bool.false_ne_true)] at e
          by_cases hk : k < j
          · have hd : decide (k < j) = true := decide_eq_true hk
            rw [if_pos hk] at e
            obtain ⟨l', e1, e2⟩ := Option.bind_eq_some_iff.mp e
            cases e2
            clear e
            rcases top_false hl with rfl | ⟨c, i, d, rfl, hi⟩ <;> rcases top_false hm with rfl | ⟨x, y, z, rfl, hy⟩ <;> walk_at "go" <;> exact q _ _ (by walk_at "same") (by walk_at "tv")
          · have hd : decide (k < j) = false := decide_eq_false hk
            rw [if_neg hk] at e
            obtain ⟨r', e1, e2⟩ := Option.bind_eq_some_iff.mp e
            cases e2
            clear e
            rcases top_false hl with rfl | ⟨c, i, d, rfl, hi⟩ <;> rcases top_false hm with rfl | ⟨x, y, z, rfl, hy⟩ <;> walk_at "go" <;> exact q _ _ (by walk_at "same") (by walk_at "tv")
def spPart : Sp := fun vs H Q _ => ∃ (v : V) (t t' : Tr) (k : Int), vs = [v, .int k] ∧ Tv H v t ∧ sz t ≤ 60 ∧ Wt.part t k = some t' ∧ ∀ u H', Same H H' → Tv H' u t' → Q u H'
theorem rd_partL {v : V} {t t' : Tr} {k : Int} {H : Hp} {Q : VK} {E : XK} (h : Tv H v t) (c : sz t ≤ 60) (e : Wt.part t k = some t') (q : ∀ u H', Same H H' → Tv H' u t' → Q u H') : spPart [v, .int k] H Q E := ⟨v, t, t', k, rfl, h, c, e, q⟩
local macro_rules
  | `(tactic| walk_at "go1") => `(tactic| ((with_reducible refine rd_partL (t := ?rdt) (t' := ?rdu) ?rdh ?rdc ?rde ?_); (case rdh => walk_at "tv"); (case rdc => walk_at "le"); (case rde => assumption); intro _ _ _ _))
theorem ok_partL (p : Prog K mg) : FnOk P w K mg base CX0 1 p.a_partL p.d_partL ["_law_shape", "_law_key"] spPart := by
  refine p.D_partL.F.ok sc_partL (fun vs H Q E h => ?_) (fun cdv A outer s H vs Q E hr h => ?_)
  · obtain ⟨v, t, t', k, rfl, _⟩ := h
    rfl
  obtain ⟨v, t, t', k, rfl, hv, hc, e, q⟩ := h
  refine ⟨_, (pss_cons (ps_while PassesOwn.never (pt_cmpR op_ne (pe_ix ix_tup (pv 0) pe_int (fun _ _ => rfl)) (pv 1) (nomark _)) (pss_one (ps_set (i := 0) sc_partL.nd rfl (Or.inl rfl) (pe_ifExp (pt_cmpR op_lt (pv 1) (pe_ix ix_tup (pv 0) pe_int (fun _ _ => rfl)) (nomark _)) (pe_ix ix_tup (pv 0) pe_int (fun _ _ => rfl)) (pe_ix ix_tup (pv 0) pe_int (fun _ _ => rfl))))))
      (pss_one (ps_ret (pv 0)))), ?_⟩
  walk_at "go"
  refine ⟨fun m σ' H' => ∃ u s, σ' = [some u, some (.int k)] ∧ Tv H' u s ∧ Wt.part s k = some t' ∧ sz s = m ∧ Same H H', ⟨sz t, v, t, rfl, hv, e, rfl, Same.refl _⟩, ?_⟩
  rintro m σ' H1 ⟨u, s, rfl, hu, es, rfl, s1⟩
  cases s with
  | nil => cases es
  | node l j r =>
    unfold Wt.part at es
    by_cases hj : j = k
    · have hd : decide (j = k) = true := decide_eq_true hj
      rw [if_pos hj] at es
      cases es
      walk_at "go"
      exact q _ _ (by walk_at "same") (by walk_at "tv")
    · have hd : decide (j = k) = false := decide_eq_false hj
      rw [if_neg hj] at es
      by_cases hk : k < j
      · have he : decide (k < j) = true := decide_eq_true hk
        rw [if_pos hk] at es
        walk_at "go"
        refine ⟨fun σ' H' => ∃ u s, σ' = [some u, some (.int k)] ∧ Tv H' u s ∧ Wt.part s k = some t' ∧ sz s < sz (.node l j r) ∧ Same H H', fun σ' H' ⟨u, s, h1, h2, h3, h4, h5⟩ => ⟨sz s, h4, u, s, h1, h2, h3, rfl, h5⟩, ?_⟩
        walk_at "go"
        exact ⟨_, l, rfl, by walk_at "tv", es, by simp only [sz]; omega, by walk_at "same"⟩
      · have he : decide (k < j) = false := decide_eq_false hk
        rw [if_neg hk] at es
        walk_at "go"
        refine ⟨fun σ' H' => ∃ u s, σ' = [some u, some (.int k)] ∧ Tv H' u s ∧ Wt.part s k = some t' ∧ sz s < sz (.node l j r) ∧ Same H H', fun σ' H' ⟨u, s, h1, h2, h3, h4, h5⟩ => ⟨sz s, h4, u, s, h1, h2, h3, rfl, h5⟩, ?_⟩
        walk_at "go"
        exact ⟨_, r, rfl, by walk_at "tv", es, by simp only [sz]; omega, by walk_at "same"⟩
def spPut (n : Nat) : Sp := fun vs H Q _ => ∃ (v x : V) (t t' y : Tr) (k : Int), vs = [v, .int k, x] ∧ Tv H v t ∧ Tv H x y ∧ sz t < n ∧ sz t ≤ 60 ∧ Wt.put t k y = some t' ∧ ∀ u H', Same H H' → Tv H' u t' → Q u H'
theorem rd_put {n : Nat} {v x : V} {t t' y : Tr} {k : Int} {H : Hp} {Q : VK} {E : XK} (h : Tv H v t) (g : Tv H x y) (b : sz t < n) (c : sz t ≤ 60) (e : Wt.put t k y = some t') (q : ∀ u H', Same H H' → Tv H' u t' → Q u H') : spPut n [v, .int k, x] H Q E := ⟨v, x, t, t', y, k, rfl, h, g, b, c, e, q⟩
local macro_rules
  | `(tactic| walk_at "go1") => `(tactic| ((with_reducible refine rd_put (t := ?rdt) (t' := ?rdu) (y := ?rdy) ?rdh ?rdg ?rdb ?rdc ?rde ?_); (case rdh => walk_at "tv"); (case rdg => walk_at "tv"); (case rdb => walk_at "le"); (case rdc => walk_at "le"); (case rde => assumption); intro _ _ _ _))
theorem ok_putL (p : Prog K mg) : ∀ n, FnOk P w K mg base CX0 n p.a_putL p.d_putL ["_law_shape", "_law_key", "_law_part_here"] (spPut n)
  | 0 => none_left fun vs H Q E ⟨_, _, _, _, _, _, _, _, _, h, _⟩ => Nat.not_lt_zero _ h
  | n + 1 => by
    have ih := ok_putL p n
    refine p.D_putL.F.ok sc_putL (fun vs H Q E h => ?_) (fun cdv A outer s H vs Q E hr h => ?_)
    · obtain ⟨v, x, t, t', y, k, rfl, _⟩ := h
      rfl
    obtain ⟨v, x, t, t', y, k, rfl, hv, hx, hb, hc, e, q⟩ := h
    refine ⟨_, (pss_cons (ps_if (pt_cmpR op_eq (pe_ix ix_tup (pv 0) pe_int (fun _ _ => rfl)) (pv 1) (nomark _)) (pss_one (ps_ret (pv 2))) pss_nil)
      (pss_cons (ps_if (pt_cmpR op_lt (pv 1) (pe_ix ix_tup (pv 0) pe_int (fun _ _ => rfl)) (nomark _)) (pss_one (ps_ret (pe_tup (pa_cons (pe_call ih hr rfl p.D_putL.g p.D_putL.F.kp p.D_putL.b .nil pass0 (pa_cons (pe_ix ix_tup (pv 0) pe_int (fun _ _ => rfl)) (pa_cons (pv 1) (pa_cons (pv 2) pa_nil)))) (pa_cons (pe_ix ix_tup (pv 0) pe_int (fun _ _ => rfl)) (pa_cons (pe_ix ix_tup (pv 0) pe_int (fun _ _ => rfl)) pa_nil)))))) pss_nil)
      (pss_one (ps_ret (pe_tup (pa_cons (pe_ix ix_tup (pv 0) pe_int (fun _ _ => rfl)) (pa_cons (pe_ix ix_tup (pv 0) pe_int (fun _ _ => rfl)) (pa_cons (pe_call ih hr rfl p.D_putL.g p.D_putL.F.kp p.D_putL.b .nil pass0 (pa_cons (pe_ix ix_tup (pv 0) pe_int (fun _ _ => rfl)) (pa_cons (pv 1) (pa_cons (pv 2) pa_nil)))) pa_nil)))))))), ?_⟩
    cases t with
    | nil => cases e
    | node l j r =>
      unfold Wt.put at e
      by_cases hj : j = k
      · have hd : decide (j = k) = true := decide_eq_true hj
        rw [if_pos hj] at e
        cases e
        walk_at "go"
        exact q _ _ (by walk_at "same") (by walk_at "tv")
      · have hd : decide (j = k) = false := decide_eq_false hj
        rw [if_neg hj] at e
        by_cases hk : k < j
        · have he : decide (k < j) = true := decide_eq_true hk
          rw [if_pos hk] at e
          obtain ⟨l', e1, e2⟩ := Option.bind_eq_some_iff.mp e
          cases e2
          walk_at "go"
          exact q _ _ (by walk_at "same") (by walk_at "tv")
        · have he : decide (k < j) = false := decide_eq_false hk
          rw [if_neg hk] at e
          obtain ⟨r', e1, e2⟩ := Option.bind_eq_some_iff.mp e
          cases e2
          walk_at "go"
          exact q _ _ (by walk_at "same") (by walk_at "tv")
/-! ### out -/
theorem le_of_size {t : Tr} (h : ¬ t.size > 8) : sz t ≤ 8 := by
  have h1 := size_sz t
  omega
def spOut (n : Nat) : Sp := fun vs H Q _ => ∃ (v : V) (t : Tr) (k : Int) (o : Tr × List Int), vs = [v, .int k] ∧ Tv H v t ∧ Wt.outF n t k = some o ∧ ∀ u H', Same H H' → Ov H' u o.1 o.2 → Q u H'
theorem rd_outL {n : Nat} {v : V} {t : Tr} {k : Int} {o : Tr × List Int} {H : Hp} {Q : VK} {E : XK} (h : Tv H v t) (e : Wt.outF n t k = some o) (q : ∀ u H', Same H H' → Ov H' u o.1 o.2 → Q u H') : spOut n [v, .int k] H Q E := ⟨v, t, k, o, rfl, h, e, q⟩
local macro_rules
  | `(tactic| walk_at "go1") => `(tactic| ((with_reducible refine rd_outL (t := ?rdt) (o := ?rdo) ?rdh ?rde ?_); (case rdh => walk_at "tv"); (case rde => assumption); intro _ _ _ _))
local macro_rules
  | `(tactic| walk_at "le") => `(tactic| (simp only [List.length_append, List.length_cons, List.length_nil, List.length_dropLast, sz] at *; omega))
theorem ok_outL (p : Prog K mg) : ∀ n, FnOk P w K mg base CX0 (n + 10) p.a_outL p.d_outL ["_law_shape", "_law_key"] (spOut n)
  | 0 => none_left fun vs H Q E ⟨_, _, _, _, _, _, h, _⟩ => nomatch h
  | n + 1 => by
    have ih := ok_outL p n
    refine p.D_outL.F.ok sc_outL (fun vs H Q E h => ?_) (fun cdv A outer s H vs Q E hr h => ?_)
    · obtain ⟨v, t, k, o, rfl, _⟩ := h
      rfl
    obtain ⟨v, t, k, o, rfl, hv, e, q⟩ := h
    refine ⟨_, (pss_cons (ps_asg (pe_call (ok_partL p) (hr.mono (by omega)) rfl p.D_partL.g p.D_partL.F.kp p.D_partL.b .nil pass0 (pa_cons (pv 0) (pa_cons (pv 1) pa_nil))) (pg_tup (n := 3) rfl (pgs_cons (pg_name (i := 2) sc_outL.nd rfl (Or.inl rfl)) (pgs_cons (pg_name (i := 3) sc_outL.nd rfl (Or.inl rfl)) (pgs_cons (pg_name (i := 4) sc_outL.nd rfl (Or.inl rfl)) pgs_nil)))))
      (pss_cons (ps_set (i := 5) sc_outL.nd rfl (Or.inl rfl) (pe_slice sl_list (pe_call (ok_pathL p 9) (hr.mono (by omega)) rfl p.D_pathL.g p.D_pathL.F.kp p.D_pathL.b .nil pass0 (pa_cons (pv 0) (pa_cons (pv 1) pa_nil))) po_none (po_some (pe_un un_neg pe_int))))
      (pss_cons (ps_if (PW.pt (pw_or (pt_cmpR (op_eqD hr.units) (pv 2) (pe_tup pa_nil) (nomark _)) (pw_or1 (pt_cmpR (op_eqD hr.units) (pv 4) (pe_tup pa_nil) (nomark _))))) (pss_one (ps_ret (pe_tup (pa_cons (pe_call (ok_putL p 9) (hr.mono (by omega)) rfl p.D_putL.g p.D_putL.F.kp p.D_putL.b .nil pass0 (pa_cons (pv 0) (pa_cons (pv 1) (pa_cons (pe_ifExp (pt_cmpR (op_eqD hr.units) (pv 4) (pe_tup pa_nil) (nomark _)) (pv 2) (pv 4)) pa_nil)))) (pa_cons (pv 5) pa_nil))))) pss_nil)
      (pss_cons (ps_set (i := 6) sc_outL.nd rfl (Or.inl rfl) (pe_ix ix_list (pe_call (ok_keysL p 9) (hr.mono (by omega)) rfl p.D_keysL.g p.D_keysL.F.kp p.D_keysL.b .nil pass0 (pa_cons (pv 4) pa_nil)) pe_int (fun _ _ => rfl)))
      (pss_cons (ps_set (i := 7) sc_outL.nd rfl (Or.inl rfl) (pe_slice sl_list (pe_call (ok_pathL p 9) (hr.mono (by omega)) rfl p.D_pathL.g p.D_pathL.F.kp p.D_pathL.b .nil pass0 (pa_cons (pv 4) (pa_cons (pv 6) pa_nil))) po_none (po_some (pe_un un_neg pe_int))))
      (pss_one (ps_ret (pe_tup (pa_cons (pe_call (ok_putL p 9) (hr.mono (by omega)) rfl p.D_putL.g p.D_putL.F.kp p.D_putL.b .nil pass0 (pa_cons (pv 0) (pa_cons (pv 1) (pa_cons (pe_tup (pa_cons (pv 2) (pa_cons (pv 6) (pa_cons (pe_ix ix_tup (pe_call ih hr rfl p.D_outL.g p.D_outL.F.kp p.D_outL.b .nil pass0 (pa_cons (pv 4) (pa_cons (pv 6) pa_nil))) pe_int (fun _ _ => rfl)) pa_nil)))) pa_nil)))) (pa_cons (pe_op op_cat (pe_op op_cat (pv 5) (pe_lst (pa_cons (pv 6) pa_nil))) (pv 7)) pa_nil)))))))))), ?_⟩
    unfold Wt.outF at e
    by_cases hs : t.size > 8
    · rw [if_pos hs] at e
      cases e
    rw [if_neg hs] at e
    have hb := le_of_size hs
    cases hp : Wt.part t k with
    | none =>
      rw [hp] at e
      cases e
    | some s1 =>
      rw [hp] at e
      cases s1 with
      | nil => cases e
      | node l j r =>
        have e1 : (if (Tr.node l 0 r).size > 8 then none else if (l.isNil || r.isNil) = true then (Wt.put t k (if r.isNil = true then l else r)).bind fun t' => some (t', (Wt.path t k).dropLast)
          else match r.keys with
            | [] => none
            | x :: _ => (Wt.outF n r x).bind fun o => (Wt.put t k (.node l x o.1)).bind fun t' => some (t', (Wt.path t k).dropLast ++ [x] ++ (Wt.path r x).dropLast)) = some o := e
        clear e
        by_cases hs2 : (Tr.node l 0 r).size > 8
        · rw [if_pos hs2] at e1
          cases e1
        rw [if_neg hs2] at e1
        have hb2 : sz l + 1 + sz r ≤ 8 := le_of_size hs2
        have pl := path_len t k
        cases r with
        | nil =>
          have hl : ((l.isNil || Tr.nil.isNil) = true) := by cases l <;> rfl
          rw [if_pos hl] at e1
          obtain ⟨t', e2, e3⟩ := Option.bind_eq_some_iff.mp e1
          clear e1
          cases e3
          have e4 : Wt.put t k l = some t' := e2
          clear e2
          cases l with
          | nil =>
            walk_at "go"
            exact q _ _ (by walk_at "same") (by walk_at "tv")
          | node a i b =>
            walk_at "go"
            exact q _ _ (by walk_at "same") (by walk_at "tv")
        | node c m d =>
          cases l with
          | nil =>
            have e2 : ((Wt.put t k (.node c m d)).bind fun t' => some (t', (Wt.path t k).dropLast)) = some o := e1
            clear e1
            obtain ⟨t', e3, e4⟩ := Option.bind_eq_some_iff.mp e2
            clear e2
            cases e4
            walk_at "go"
            exact q _ _ (by walk_at "same") (by walk_at "tv")
          | node a i b =>
            rw [if_neg (by exact Bool.false_ne_true)] at e1
            cases hk : (Tr.node c m d).keys with
            | nil =>
              rw [hk] at e1
              cases e1
            | cons x xs =>
              rw [hk] at e1
              have e2 : ((Wt.outF n (.node c m d) x).bind fun o => (Wt.put t k (.node (.node a i b) x o.1)).bind fun t' => some (t', (Wt.path t k).dropLast ++ [x] ++ (Wt.path (.node c m d) x).dropLast)) = some o := e1
              clear e1
              obtain ⟨o1, e3, e4⟩ := Option.bind_eq_some_iff.mp e2
              clear e2
              obtain ⟨t', e5, e6⟩ := Option.bind_eq_some_iff.mp e4
              clear e4
              cases e6
              have pr := path_len (.node c m d) x
              walk_at "go"
              exact q _ _ (by walk_at "same") (by walk_at "tv")
/-! ### heavy, inner -/
theorem ok_heavyL (p : Prog K mg) : FnOk P w K mg base CX0 10 p.a_heavyL p.d_heavyL ["_law_word", "_law_one", "_law_other"] (spCmp Wt.heavy) := by
  refine p.D_heavyL.F.ok sc_heavyL (fun vs H Q E h => ?_) (fun cdv A outer s H vs Q E hr h => ?_)
  · obtain ⟨u, v, a, b, rfl, _⟩ := h
    rfl
  obtain ⟨u, v, a, b, rfl, hu, hv, h1, h2, q⟩ := h
  refine ⟨_, (pss_cons (ps_if (pt_cmpR op_eq (pv 0) pe_str (nomark _)) pss_never pss_nil)
      (pss_one (ps_ret (pe_cmpR op_gt (pe_op op_add (pe_callB call_lenN rfl p.z_len PySem.boot_len (pa_cons (pe_call (ok_keysL p 9) (hr.mono (by decide)) rfl p.D_keysL.g p.D_keysL.F.kp p.D_keysL.b .nil pass0 (pa_cons (pv 1) pa_nil)) pa_nil)) pe_int) (pe_op op_mul pe_int (pe_op op_add (pe_callB call_lenN rfl p.z_len PySem.boot_len (pa_cons (pe_call (ok_keysL p 9) (hr.mono (by decide)) rfl p.D_keysL.g p.D_keysL.F.kp p.D_keysL.b .nil pass0 (pa_cons (pv 2) pa_nil)) pa_nil)) pe_int)) (nomark _))))), ?_⟩
  walk_at "go"
  exact q _ (by walk_at "same")
theorem ok_innerL (p : Prog K mg) : FnOk P w K mg base CX0 10 p.a_innerL p.d_innerL ["_law_word", "_law_inner_here", "_law_outer"] (spCmp Wt.innerL) := by
  refine p.D_innerL.F.ok sc_innerL (fun vs H Q E h => ?_) (fun cdv A outer s H vs Q E hr h => ?_)
  · obtain ⟨u, v, a, b, rfl, _⟩ := h
    rfl
  obtain ⟨u, v, a, b, rfl, hu, hv, h1, h2, q⟩ := h
  refine ⟨_, (pss_cons (ps_if (pt_cmpR op_eq (pv 0) pe_str (nomark _)) pss_never pss_nil)
      (pss_one (ps_ret (pe_cmpR op_ge (pe_op op_add (pe_callB call_lenN rfl p.z_len PySem.boot_len (pa_cons (pe_call (ok_keysL p 9) (hr.mono (by decide)) rfl p.D_keysL.g p.D_keysL.F.kp p.D_keysL.b .nil pass0 (pa_cons (pv 1) pa_nil)) pa_nil)) pe_int) (pe_op op_mul pe_int (pe_op op_add (pe_callB call_lenN rfl p.z_len PySem.boot_len (pa_cons (pe_call (ok_keysL p 9) (hr.mono (by decide)) rfl p.D_keysL.g p.D_keysL.F.kp p.D_keysL.b .nil pass0 (pa_cons (pv 2) pa_nil)) pa_nil)) pe_int)) (nomark _))))), ?_⟩
  walk_at "go"
  exact q _ (by walk_at "same")
/-! ### fixed -/
def spFixed : Sp := fun vs H Q _ => ∃ (v : V) (t t' : Tr) (k : Int), vs = [.str "weights", v, .int k] ∧ Tv H v t ∧ Wt.fixed t k = some t' ∧ ∀ u H', Same H H' → Tv H' u t' → Q u H'
theorem rd_fixed {v : V} {t t' : Tr} {k : Int} {H : Hp} {Q : VK} {E : XK} (h : Tv H v t) (e : Wt.fixed t k = some t') (q : ∀ u H', Same H H' → Tv H' u t' → Q u H') : spFixed [.str "weights", v, .int k] H Q E := ⟨v, t, t', k, rfl, h, e, q⟩
theorem two_turns {t t' : Tr} {x : Int} (e : ((Wt.turn t x).bind fun t' => if t'.size > 8 then none else Wt.turn t' x) = some t') : ∃ u, Wt.turn t x = some u ∧ sz u ≤ 8 ∧ Wt.turn u x = some t' := by
  obtain ⟨u, e1, e2⟩ := Option.bind_eq_some_iff.mp e
  by_cases h : u.size > 8
  · rw [if_pos h] at e2
    cases e2
  · rw [if_neg h] at e2
    exact ⟨u, e1, le_of_size h, e2⟩
theorem ok_fixedL (p : Prog K mg) : FnOk P w K mg base CX0 11 p.a_fixedL p.d_fixedL ["_law_word", "_law_shape", "_law_key"] spFixed := by
  refine p.D_fixedL.F.ok sc_fixedL (fun vs H Q E h => ?_) (fun cdv A outer s H vs Q E hr h => ?_)
  · obtain ⟨v, t, t', k, rfl, _⟩ := h
    rfl
  obtain ⟨v, t, t', k, rfl, hv, e, q⟩ := h
  refine ⟨_, (pss_cons (ps_asg (pe_call (ok_partL p) (hr.mono (by decide)) rfl p.D_partL.g p.D_partL.F.kp p.D_partL.b .nil pass0 (pa_cons (pv 1) (pa_cons (pv 2) pa_nil))) (pg_tup (n := 3) rfl (pgs_cons (pg_name (i := 3) sc_fixedL.nd rfl (Or.inl rfl)) (pgs_cons (pg_name (i := 4) sc_fixedL.nd rfl (Or.inl rfl)) (pgs_cons (pg_name (i := 5) sc_fixedL.nd rfl (Or.inl rfl)) pgs_nil)))))
      (pss_cons (ps_if (pt_val (pe_call (ok_heavyL p) (hr.mono (by decide)) rfl p.D_heavyL.g p.D_heavyL.F.kp p.D_heavyL.b .nil pass0 (pa_cons (pv 0) (pa_cons (pv 3) (pa_cons (pv 5) pa_nil))))) (pss_cons (ps_set (i := 6) sc_fixedL.nd rfl (Or.inl rfl) (pe_ix ix_tup (pv 3) pe_int (fun _ _ => rfl)))
      (pss_cons (ps_if (pt_val (pe_call (ok_innerL p) (hr.mono (by decide)) rfl p.D_innerL.g p.D_innerL.F.kp p.D_innerL.b .nil pass0 (pa_cons (pv 0) (pa_cons (pe_ix ix_tup (pv 3) pe_int (fun _ _ => rfl)) (pa_cons (pe_ix ix_tup (pv 3) pe_int (fun _ _ => rfl)) pa_nil))))) (pss_cons (ps_set (i := 6) sc_fixedL.nd rfl (Or.inl rfl) (pe_ix ix_tup (pe_ix ix_tup (pv 3) pe_int (fun _ _ => rfl)) pe_int (fun _ _ => rfl)))
      (pss_one (ps_set (i := 1) sc_fixedL.nd rfl (Or.inl rfl) (pe_call (ok_turnL p 9) (hr.mono (by decide)) rfl p.D_turnL.g p.D_turnL.F.kp p.D_turnL.b .nil pass0 (pa_cons (pv 1) (pa_cons (pv 6) pa_nil)))))) pss_nil)
      (pss_one (ps_ret (pe_call (ok_turnL p 9) (hr.mono (by decide)) rfl p.D_turnL.g p.D_turnL.F.kp p.D_turnL.b .nil pass0 (pa_cons (pv 1) (pa_cons (pv 6) pa_nil))))))) pss_nil)
      (pss_cons (ps_if (pt_val (pe_call (ok_heavyL p) (hr.mono (by decide)) rfl p.D_heavyL.g p.D_heavyL.F.kp p.D_heavyL.b .nil pass0 (pa_cons (pv 0) (pa_cons (pv 5) (pa_cons (pv 3) pa_nil))))) (pss_cons (ps_set (i := 6) sc_fixedL.nd rfl (Or.inl rfl) (pe_ix ix_tup (pv 5) pe_int (fun _ _ => rfl)))
      (pss_cons (ps_if (pt_val (pe_call (ok_innerL p) (hr.mono (by decide)) rfl p.D_innerL.g p.D_innerL.F.kp p.D_innerL.b .nil pass0 (pa_cons (pv 0) (pa_cons (pe_ix ix_tup (pv 5) pe_int (fun _ _ => rfl)) (pa_cons (pe_ix ix_tup (pv 5) pe_int (fun _ _ => rfl)) pa_nil))))) (pss_cons (ps_set (i := 6) sc_fixedL.nd rfl (Or.inl rfl) (pe_ix ix_tup (pe_ix ix_tup (pv 5) pe_int (fun _ _ => rfl)) pe_int (fun _ _ => rfl)))
      (pss_one (ps_set (i := 1) sc_fixedL.nd rfl (Or.inl rfl) (pe_call (ok_turnL p 9) (hr.mono (by decide)) rfl p.D_turnL.g p.D_turnL.F.kp p.D_turnL.b .nil pass0 (pa_cons (pv 1) (pa_cons (pv 6) pa_nil)))))) pss_nil)
      (pss_one (ps_ret (pe_call (ok_turnL p 9) (hr.mono (by decide)) rfl p.D_turnL.g p.D_turnL.F.kp p.D_turnL.b .nil pass0 (pa_cons (pv 1) (pa_cons (pv 6) pa_nil))))))) pss_nil)
      (pss_one (ps_ret (pv 1)))))), ?_⟩
  unfold Wt.fixed at e
  by_cases hs : t.size > 8
  · rw [if_pos hs] at e
    cases e
  rw [if_neg hs] at e
  have hb := le_of_size hs
  cases hp : Wt.part t k with
  | none =>
    rw [hp] at e
    cases e
  | some s1 =>
    rw [hp] at e
    cases s1 with
    | nil => cases e
    | node l j r =>
      by_cases hs2 : (Tr.node l 0 r).size > 8
      · simp only [hs2, if_true] at e
        cases e
      have hb2 : sz l + 1 + sz r ≤ 8 := le_of_size hs2
      simp only [hs2, if_false] at e
      cases hg : Wt.heavy l r with
      | true =>
        simp only [hg, if_true] at e
        cases l with
        | nil => cases e
        | node ll lt lr =>
          cases hi : Wt.innerL lr ll with
          | true =>
            simp only [hi, if_true] at e
            cases lr with
            | nil => cases e
            | node a x b =>
              obtain ⟨u, e1, hu, e2⟩ := two_turns e
              clear e
              walk_at "go"
              exact q _ _ (by walk_at "same") (by walk_at "tv")
          | false =>
            have e1 : Wt.turn t lt = some t' := by simpa [hi] using e
            clear e
            walk_at "go"
            exact q _ _ (by walk_at "same") (by walk_at "tv")
      | false =>
        simp only [hg, Bool.false_eq_true, if_false] at e
        cases hh : Wt.heavy r l with
        | true =>
          simp only [hh, if_true] at e
          cases r with
          | nil => cases e
          | node rl rt rr =>
            cases hi : Wt.innerL rl rr with
            | true =>
              simp only [hi, if_true] at e
              cases rl with
              | nil => cases e
              | node a x b =>
                obtain ⟨u, e1, hu, e2⟩ := two_turns e
                clear e
                walk_at "go"
                exact q _ _ (by walk_at "same") (by walk_at "tv")
            | false =>
              have e1 : Wt.turn t rt = some t' := by simpa [hi] using e
              clear e
              walk_at "go"
              exact q _ _ (by walk_at "same") (by walk_at "tv")
        | false =>
          have e1 : t = t' := by simpa [hh] using e
          subst e1
          clear e
          walk_at "go"
          exact q _ _ (by walk_at "same") (by walk_at "tv")
local macro_rules
  | `(tactic| walk_at "go1") => `(tactic| ((with_reducible refine rd_fixed (t := ?rdt) (t' := ?rdu) ?rdh ?rde ?_); (case rdh => walk_at "tv"); (case rde => assumption); intro _ _ _ _))
/-! ### set, moved, in, after -/
def spSetL : Sp := fun vs H Q _ => ∃ (v x : V) (t t' : Tr) (ks : List Int), vs = [.str "weights", v, x] ∧ Tv H v t ∧ Lv H x ks ∧ Wt.setL t ks = some t' ∧ ∀ u H', Same H H' → Tv H' u t' → Q u H'
theorem rd_setL {v x : V} {t t' : Tr} {ks : List Int} {H : Hp} {Q : VK} {E : XK} (h : Tv H v t) (g : Lv H x ks) (e : Wt.setL t ks = some t') (q : ∀ u H', Same H H' → Tv H' u t' → Q u H') : spSetL [.str "weights", v, x] H Q E := ⟨v, x, t, t', ks, rfl, h, g, e, q⟩
theorem ok_setL (p : Prog K mg) : FnOk P w K mg base CX0 12 p.a_setL p.d_setL ["_law_word", "_law_shape", "_law_above"] spSetL := by
  refine p.D_setL.F.ok sc_setL (fun vs H Q E h => ?_) (fun cdv A outer s H vs Q E hr h => ?_)
  · obtain ⟨v, x, t, t', ks, rfl, _⟩ := h
    rfl
  obtain ⟨v, x, t, t', ks, rfl, hv, hx, e, q⟩ := h
  refine ⟨_, (pss_cons (ps_for PassesOwn.never rfl (pi_list (pe_revL (pv 2))) (pg_name (i := 3) sc_setL.nd rfl (Or.inl rfl)) (pss_one (ps_set (i := 1) sc_setL.nd rfl (Or.inl rfl) (pe_call (ok_fixedL p) (hr.mono (by decide)) rfl p.D_fixedL.g p.D_fixedL.F.kp p.D_fixedL.b .nil pass0 (pa_cons (pv 0) (pa_cons (pv 1) (pa_cons (pv 3) pa_nil)))))))
      (pss_one (ps_ret (pv 1)))), ?_⟩
  walk_at "go"
  rename_i y H1 s1 h1
  obtain ⟨a, rfl, ha⟩ := h1
  refine ⟨a, rfl, ⟨_, lst_of ha⟩, for_list (xs := ks.reverse.map V.int) (fun i σ' H' => ∃ u z s, σ' = [some (.str "weights"), some u, some x, z] ∧ Tv H' u s ∧ Same H1 H' ∧ Wt.setGo s (ks.reverse.drop i) = some t') ⟨v, none, t, rfl, by walk_at "tv", Same.refl _, e⟩ ?_ ?_ ?_⟩
  · rintro i σ' H' _ ⟨u, z, s, _, _, s2, _⟩
    exact lst_of (s2 _ _ ha)
  · rintro i y σ' H' hy ⟨u, z, s, rfl, hu, s2, hgo⟩
    rw [List.getElem?_map] at hy
    obtain ⟨k, hk, rfl⟩ := Option.map_eq_some_iff.mp hy
    obtain ⟨hlt, hk2⟩ := List.getElem?_eq_some_iff.mp hk
    rw [List.drop_eq_getElem_cons hlt, hk2] at hgo
    have hgo' : ((Wt.fixed s k).bind fun s' => Wt.setGo s' (ks.reverse.drop (i + 1))) = some t' := hgo
    obtain ⟨s', e1, e2⟩ := Option.bind_eq_some_iff.mp hgo'
    walk_at "go"
    exact ⟨_, _, s', rfl, by walk_at "tv", by walk_at "same", e2⟩
  · rintro σ' H' ⟨u, z, s, rfl, hu, s2, hgo⟩
    rw [List.length_map, List.drop_length] at hgo
    have e1 : s = t' := Option.some.inj hgo
    subst e1
    walk_at "go"
    exact q _ _ (by walk_at "same") (by walk_at "tv")
def spMovedL : Sp := fun vs H Q _ => ∃ (v : V) (t : Tr) (k : Int), vs = [.str "weights", v, .int k] ∧ Tv H v t ∧ ∀ u H', Same H H' → Tv H' u t → Q u H'
theorem rd_movedL {v : V} {t : Tr} {k : Int} {H : Hp} {Q : VK} {E : XK} (h : Tv H v t) (q : ∀ u H', Same H H' → Tv H' u t → Q u H') : spMovedL [.str "weights", v, .int k] H Q E := ⟨v, t, k, rfl, h, q⟩
local macro_rules
  | `(tactic| walk_at "go1") => `(tactic| first
    | ((with_reducible refine rd_setL (t := ?rdt) (t' := ?rdu) (ks := ?rdl) ?rdh ?rdg ?rde ?_); (case rdh => walk_at "tv"); (case rdg => walk_at "tv"); (case rde => assumption); intro _ _ _ _)
    | ((with_reducible refine rd_movedL (t := ?rdt) ?rdh ?_); (case rdh => walk_at "tv"); intro _ _ _ _))
theorem ok_movedL (p : Prog K mg) : FnOk P w K mg base CX0 1 p.a_movedL p.d_movedL ["_law_name", "_law_shape", "_law_key"] spMovedL := by
  refine p.D_movedL.F.ok sc_movedL (fun vs H Q E h => ?_) (fun cdv A outer s H vs Q E hr h => ?_)
  · obtain ⟨v, t, k, rfl, _⟩ := h
    rfl
  obtain ⟨v, t, k, rfl, hv, q⟩ := h
  refine ⟨_, (pss_cons (ps_if (pt_cmpR op_eq (pv 0) pe_str (nomark _)) pss_never pss_nil)
      (pss_cons (ps_if (PW.pt (pw_and (pt_cmpR op_eq (pv 0) pe_str (nomark _)) (pw_and1 (pt_cmpR op_ne (pe_ix ix_tup (pv 1) pe_int (fun _ _ => rfl)) (pv 2) (nomark _))))) pss_never pss_nil)
      (pss_cons (ps_while PassesOwn.never (PW.pt (pw_and (pt_cmpR op_eq (pv 0) pe_str (nomark _)) (pw_and1 (pt_cmpR op_ne (pe_ix ix_tup (pv 1) pe_int (fun _ _ => rfl)) (pv 2) (nomark _))))) pss_never)
      (pss_one (ps_ret (pv 1)))))), ?_⟩
  walk_at "go"
  refine ⟨fun m σ' H' => σ' = [some (.str "weights"), some v, some (.int k)] ∧ H' = H, ⟨0, rfl, rfl⟩, ?_⟩
  rintro m σ' H' ⟨rfl, rfl⟩
  walk_at "go"
  exact q _ _ (by walk_at "same") (by walk_at "tv")
def spInL : Sp := fun vs H Q _ => ∃ (u v : V) (t t' : Tr) (k : Int), vs = [u, v, .int k] ∧ Rv H u ∧ Tv H v t ∧ Wt.inL t k = some t' ∧ ∀ x H', Same H H' → Tv H' x t' → Q x H'
theorem rd_inL {u v : V} {t t' : Tr} {k : Int} {H : Hp} {Q : VK} {E : XK} (g : Rv H u) (h : Tv H v t) (e : Wt.inL t k = some t') (q : ∀ x H', Same H H' → Tv H' x t' → Q x H') : spInL [u, v, .int k] H Q E := ⟨u, v, t, t', k, rfl, g, h, e, q⟩
theorem ok_inL (p : Prog K mg) : FnOk P w K mg base CX0 13 p.a_inL p.d_inL ["_law_rule_here", "_law_shape", "_law_key"] spInL := by
  refine p.D_inL.F.ok sc_inL (fun vs H Q E h => ?_) (fun cdv A outer s H vs Q E hr h => ?_)
  · obtain ⟨u, v, t, t', k, rfl, _⟩ := h
    rfl
  obtain ⟨u, v, t, t', k, rfl, hu, hv, e, q⟩ := h
  refine ⟨_, (pss_cons (ps_set (i := 3) sc_inL.nd rfl (Or.inl rfl) (pe_ix ix_tup (pv 0) pe_int (fun _ _ => rfl)))
      (pss_cons (ps_if (pt_cmpR op_in_seq (pv 3) (pe_tup (pa_cons pe_str (pa_cons pe_str pa_nil))) (by with_unfolding_all rfl)) (pss_one (ps_ret (pe_call (ok_setL p) (hr.mono (by decide)) rfl p.D_setL.g p.D_setL.F.kp p.D_setL.b .nil pass0 (pa_cons (pv 3) (pa_cons (pe_call (ok_leafL p) (hr.mono (by decide)) rfl p.D_leafL.g p.D_leafL.F.kp p.D_leafL.b .nil pass0 (pa_cons (pv 1) (pa_cons (pv 2) pa_nil))) (pa_cons (pe_call (ok_pathL p 9) (hr.mono (by decide)) rfl p.D_pathL.g p.D_pathL.F.kp p.D_pathL.b .nil pass0 (pa_cons (pv 1) (pa_cons (pv 2) pa_nil))) pa_nil)))))) pss_nil)
      pss_never)), ?_⟩
  unfold Wt.inL at e
  by_cases hs : t.size > 7
  · rw [if_pos hs] at e
    cases e
  rw [if_neg hs] at e
  have hb : sz t ≤ 7 := by
    have h1 := size_sz t
    omega
  walk_at "go"
  exact q _ _ (by walk_at "same") (by walk_at "tv")
def spAfterL : Sp := fun vs H Q _ => ∃ (u v d : V) (t t' : Tr) (w : Wt.Wd) (k : Int), vs = [u, v, d] ∧ Rv H u ∧ Tv H v t ∧ Dv H d w k ∧ Wt.afterL t w k = some t' ∧ ∀ x H', Same H H' → Tv H' x t' → Q x H'
local macro_rules
  | `(tactic| walk_at "go1") => `(tactic| first
    | ((with_reducible refine rd_inL (t := ?rdt) (t' := ?rdu) ?rdg ?rdh ?rde ?_); (case rdg => walk_at "tv"); (case rdh => walk_at "tv"); (case rde => assumption); intro _ _ _ _))
theorem ok_afterL (p : Prog K mg) : FnOk P w K mg base CX0 20 p.a_afterL p.d_afterL ["_law_rule_here", "_law_shape", "_law_deed_here"] spAfterL := by
  refine p.D_afterL.F.ok sc_afterL (fun vs H Q E h => ?_) (fun cdv A outer s H vs Q E hr h => ?_)
  · obtain ⟨u, v, d, t, t', w, k, rfl, _⟩ := h
    rfl
  obtain ⟨u, v, d, t, t', w, k, rfl, hu, hv, hd, e, q⟩ := h
  refine ⟨_, (pss_cons (ps_asg (pe_tup (pa_cons (pe_ix ix_tup (pv 0) pe_int (fun _ _ => rfl)) (pa_cons (pe_ix ix_tup (pv 2) pe_int (fun _ _ => rfl)) pa_nil))) (pg_tup (n := 2) rfl (pgs_cons (pg_name (i := 3) sc_afterL.nd rfl (Or.inl rfl)) (pgs_cons (pg_name (i := 4) sc_afterL.nd rfl (Or.inr rfl)) pgs_nil))))
      (pss_cons (ps_if (pt_cmpR op_eq (pe_ix ix_tup (pv 2) pe_int (fun _ _ => rfl)) pe_str (nomark _)) (pss_one (ps_ret (pe_call (ok_movedL p) (hr.mono (by decide)) rfl p.D_movedL.g p.D_movedL.F.kp p.D_movedL.b .nil pass0 (pa_cons (pv 3) (pa_cons (pv 1) (pa_cons (pv 4) pa_nil)))))) pss_nil)
      (pss_cons (ps_if (pt_cmpR op_eq (pe_ix ix_tup (pv 2) pe_int (fun _ _ => rfl)) pe_str (nomark _)) (pss_one (ps_ret (pe_call (ok_inL p) (hr.mono (by decide)) rfl p.D_inL.g p.D_inL.F.kp p.D_inL.b .nil pass0 (pa_cons (pv 0) (pa_cons (pv 1) (pa_cons (pv 4) pa_nil)))))) pss_nil)
      (pss_cons (ps_if (pt_cmpR op_eq (pv 3) pe_str (nomark _)) pss_never pss_nil)
      (pss_cons (ps_if (pt_cmpR op_eq (pv 3) pe_str (nomark _)) pss_never pss_nil)
      (pss_cons (ps_if (pt_cmpR op_eq (pv 3) pe_str (nomark _)) pss_never pss_nil)
      (pss_cons (ps_asg (pe_call (ok_outL p 9) (hr.mono (by decide)) rfl p.D_outL.g p.D_outL.F.kp p.D_outL.b .nil pass0 (pa_cons (pv 1) (pa_cons (pv 4) pa_nil))) (pg_tup (n := 2) rfl (pgs_cons (pg_name (i := 5) sc_afterL.nd rfl (Or.inl rfl)) (pgs_cons (pg_name (i := 6) sc_afterL.nd rfl (Or.inl rfl)) pgs_nil))))
      (pss_cons (ps_if (pt_cmpR op_eq (pv 3) pe_str (nomark _)) pss_never pss_nil)
      (pss_one (ps_ret (pe_ifExp (pt_cmpR op_in_seq (pv 3) (pe_tup (pa_cons pe_str (pa_cons pe_str pa_nil))) (by with_unfolding_all rfl)) (pe_call (ok_setL p) (hr.mono (by decide)) rfl p.D_setL.g p.D_setL.F.kp p.D_setL.b .nil pass0 (pa_cons (pv 3) (pa_cons (pv 5) (pa_cons (pv 6) pa_nil)))) (pv 5)))))))))))), ?_⟩
  cases w with
  | ask =>
    cases e
    walk_at "go"
    refine rd_pair (fun x H1 s1 h1 => ?_)
    walk_at "go"
    exact q _ _ (by walk_at "same") (by walk_at "tv")
  | inn =>
    have e' : Wt.inL t k = some t' := e
    walk_at "go"
    refine rd_pair (fun x H1 s1 h1 => ?_)
    walk_at "go"
    exact q _ _ (by walk_at "same") (by walk_at "tv")
  | out =>
    have e' : ((Wt.outF 9 t k).bind fun o => Wt.setL o.1 o.2) = some t' := e
    obtain ⟨o, e1, e2⟩ := Option.bind_eq_some_iff.mp e'
    walk_at "go"
    refine rd_pair (fun x H1 s1 h1 => ?_)
    walk_at "go"
    exact q _ _ (by walk_at "same") (by walk_at "tv")
/-! ### the town: a list that the draws change -/
def But (tw : Addr) (H H' : Hp) : Prop := ∀ b o, b ≠ tw → H b = some o → H' b = some o
theorem But.trans {tw : Addr} {H H1 H2 : Hp} (a : But tw H H1) (b : But tw H1 H2) : But tw H H2 := fun c o n h => b c o n (a c o n h)
theorem But.of {tw : Addr} {H H' : Hp} (s : Same H H') : But tw H H' := fun b o _ h => s b o h
theorem but_upd {tw : Addr} {H : Hp} {o : HO} : But tw H (upd H tw o) := fun b u n h => by rw [upd_ne n]; exact h
theorem tup_ne {H : Hp} {a tw : Addr} {xs ys : List V} (h : H a = some (.tup xs)) (g : H tw = some (.lst ys)) : a ≠ tw := ne_of h g (fun z => by cases z)
theorem Tv.but {H H' : Hp} {tw : Addr} {ys : List V} (g : H tw = some (.lst ys)) (s : But tw H H') : ∀ {t : Tr} {v : V}, Tv H v t → Tv H' v t
  | .nil, _, ⟨a, e, h⟩ => ⟨a, e, s _ _ (tup_ne h g) h⟩
  | .node _ _ _, _, ⟨a, x, y, e, h, p, q⟩ => ⟨a, x, y, e, s _ _ (tup_ne h g) h, Tv.but g s p, Tv.but g s q⟩
theorem Rv.but {H H' : Hp} {tw : Addr} {ys : List V} (g : H tw = some (.lst ys)) (s : But tw H H') {v : V} : Rv H v → Rv H' v
  | ⟨a, e, h⟩ => ⟨a, e, s _ _ (tup_ne h g) h⟩
theorem Dv.but {H H' : Hp} {tw : Addr} {ys : List V} (g : H tw = some (.lst ys)) (s : But tw H H') {v : V} {w : Wt.Wd} {k : Int} : Dv H v w k → Dv H' v w k
  | ⟨a, e, h⟩ => ⟨a, e, s _ _ (tup_ne h g) h⟩
/-- the script, which no draw changes -/
def Sc (K : PySem.W.Frag) (H : Hp) (sa tw : Addr) (ns : List Int) : Prop :=
  (Rd H sa (.lst (ns.map V.int)) ∧ sa ≠ tw) ∨ ∀ H' : Hp, SqL K H' sa (ns.map V.int)
theorem Sc.sq {K : PySem.W.Frag} {H : Hp} {sa tw : Addr} {ns : List Int} : Sc K H sa tw ns → SqL K H sa (ns.map V.int)
  | .inl h => .inl h.1
  | .inr h => h H
theorem Sc.but {K : PySem.W.Frag} {H H' : Hp} {sa tw : Addr} {ns : List Int} (s : But tw H H') : Sc K H sa tw ns → Sc K H' sa tw ns
  | .inl ⟨.inl h, n⟩ => .inl ⟨.inl (s _ _ n h), n⟩
  | .inl ⟨.inr ⟨o, h⟩, n⟩ => .inl ⟨.inr ⟨o, s _ _ n h⟩, n⟩
  | .inr h => .inr h
theorem Sc.new {K : PySem.W.Frag} {H : Hp} {sa tw : Addr} {ns : List Int} (h : SqL K H sa (ns.map V.int)) (n : H tw = none) : Sc K H sa tw ns := by
  rcases h with (h | ⟨o, h⟩) | h
  · exact .inl ⟨.inl h, ne_of_none h n⟩
  · exact .inl ⟨.inr ⟨o, h⟩, ne_of_none h n⟩
  · exact .inr fun _ => .inr h
theorem fmod_in (a : Int) {m : Int} (h : 0 < m) : 0 ≤ a.fmod m ∧ a.fmod m < m := by
  rw [Int.fmod_eq_emod_of_nonneg a (Int.le_of_lt h)]
  exact ⟨Int.emod_nonneg a (Int.ne_of_gt h), Int.emod_lt_of_pos a h⟩
def rGet : V → V → Hp → VK → Prop := fun x y H Q => ∃ p xs, ∃ i : Nat, ∃ v, x = .ref p ∧ y = .int (i : Int) ∧ H p = some (.lst xs) ∧ xs[i]? = some v ∧ Q v H
theorem get_list {X : Cx} : PGet X rGet := by
  intro pins s σ H x y v u Q I rx ry h
  obtain ⟨p, xs, i, z, rfl, rfl, hp, hz, q⟩ := h
  cases rx
  obtain ⟨t, rfl⟩ := ry
  obtain ⟨its, r, pl, hs⟩ := I.list (lst_of hp)
  obtain ⟨w, ew, rw'⟩ := r.get hz
  have hl := r.length
  have hn := line63
  have hi : i < xs.length := (List.getElem?_eq_some_iff.mp hz).1
  exact wpAny_getItem_list pl.isList (by omega) (by omega) (by rw [Int.toNat_natCast]; simpa using ew) ⟨z, H, I, rw', q⟩
section
variable {σ : L2.St} {H : Hp} {Q : VK}
theorem rd_tw0 {tw : Addr} {a b : V} (h : H tw = some (.lst [a, b])) (q : Q a H) : rIxL K (.ref tw) (.int 0) H Q := ⟨tw, _, 0, _, rfl, rfl, lst_of h, atI_nat (j := 0) rfl, q⟩
theorem rd_tw1 {tw : Addr} {a b : V} (h : H tw = some (.lst [a, b])) (q : Q b H) : rIxL K (.ref tw) (.int 1) H Q := ⟨tw, _, 1, _, rfl, rfl, lst_of h, atI_nat (j := 1) rfl, q⟩
theorem rd_fmod {i j : Int} (c : j ≠ 0) (q : Q (.int (i.fmod j)) H) : rI (fun _ j => j ≠ 0) (fun i j => .int (i.fmod j)) (.int i) (.int j) H Q := ⟨i, j, rfl, rfl, c, q⟩
theorem rd_fdiv {i j : Int} (c : CDivN i j) (q : Q (.int (i.fdiv j)) H) : rI CDivN (fun i j => .int (i.fdiv j)) (.int i) (.int j) H Q := ⟨i, j, rfl, rfl, c, q⟩
theorem rd_pow {i j : Int} (c : CPow i j) (q : Q (.int (i ^ j.toNat)) H) : rI CPow (fun i j => .int (i ^ j.toNat)) (.int i) (.int j) H Q := ⟨i, j, rfl, rfl, c, q⟩
theorem rd_mulR {g : Int → Int → V} {i j : Int} (c : -(2 ^ 64) < j ∧ j < 2 ^ 64) (q : Q (g i j) H) : rI CMul g (.int i) (.int j) H Q := ⟨i, j, rfl, rfl, .inr c, q⟩
theorem rd_mulW {i j : Int} (c : CMulW i j) (q : Q (.int (i * j)) H) : rI CMulW (fun i j => .int (i * j)) (.int i) (.int j) H Q := ⟨i, j, rfl, rfl, c, q⟩
theorem rd_sub {to ti : TE} {t : TSet} {v : V} {R : L2.St → Hp → Prop} (q : to σ H fun o H1 => ti σ H1 fun i H2 => t o i v H2 fun H3 => R σ H3) : gSub to ti t v σ H R := q
theorem rd_set1 {tw : Addr} {a b v : V} {R : Hp → Prop} (h : H tw = some (.lst [a, b])) (q : ∀ H', But tw H H' → H' tw = some (.lst [a, v]) → R H') : rSetL (.ref tw) (.int 1) v H R :=
  ⟨tw, _, 1, 1, rfl, rfl, h, rfl, q _ but_upd upd_same⟩
theorem rd_set0 {tw : Addr} {a b v : V} {R : Hp → Prop} (h : H tw = some (.lst [a, b])) (q : ∀ H', But tw H H' → H' tw = some (.lst [v, b]) → R H') : rSetL (.ref tw) (.int 0) v H R :=
  ⟨tw, _, 0, 0, rfl, rfl, h, rfl, q _ but_upd upd_same⟩
theorem rd_augS {to ti te : TE} {tget : V → V → Hp → VK → Prop} {tip : TIp} {tset : TSet} {D : Ends} (q : to σ H fun o H1 => ti σ H1 fun i H2 => tget o i H2 fun x H3 => te σ H3 fun y H4 => tip x y H4 fun z H5 => tset o i z H5 fun H6 => D.nx σ H6) : tAugS to ti te tget tip tset D σ H := q
theorem rd_get0 {tw : Addr} {a b : V} (h : H tw = some (.lst [a, b])) (q : Q a H) : rGet (.ref tw) (.int 0) H Q := ⟨tw, _, 0, _, rfl, rfl, h, rfl, q⟩
theorem rd_ip {f : Int → Int → Int} {i j : Int} (q : Q (.int (f i j)) H) : ipI f (.int i) (.int j) H Q := ⟨i, j, rfl, rfl, q⟩
theorem rd_eqSc {sa : Addr} {y : V} {ns : List Int} (h : SqL K H sa (ns.map V.int)) (g : Lv H y []) (q : Q (.bl ns.isEmpty) H) : rEqD K (.ref sa) y H Q := by
  obtain ⟨b, rfl, g⟩ := g
  exact ⟨_, _, .lst h (ints_dp ns), .lst (lst_of g) .nil, ints_shaped ns, ints_shaped [], by rw [ints_nil]; exact q⟩
theorem rd_lenSc {sa : Addr} {ns : List Int} (h : SqL K H sa (ns.map V.int)) (q : Q (.int ns.length) H) : rLen K [.ref sa] H Q :=
  ⟨sa, _, rfl, .inl h, by rw [List.length_map]; exact q⟩
theorem rd_scr {sa : Addr} {ns : List Int} {i : Int} (h : SqL K H sa (ns.map V.int)) (h0 : 0 ≤ i) (h1 : i < ns.length) (q : ∀ x : Int, Q (.int x) H) : rIxL K (.ref sa) (.int i) H Q := by
  have hk : i.toNat < ns.length := by omega
  have e : i = ((i.toNat : Nat) : Int) := by omega
  have g : atI (ns.map V.int) ((i.toNat : Nat) : Int) = some (.int ns[i.toNat]) := atI_nat (by rw [List.getElem?_map, List.getElem?_eq_getElem hk] <;> rfl)
  rw [← e] at g
  exact ⟨sa, _, i, .int ns[i.toNat], rfl, rfl, h, g, q _⟩
end
local macro_rules
  | `(tactic| walk_at "go1") => `(tactic| first
    | ((with_reducible refine rd_tw0 (a := ?rda) (b := ?rdb) ?rdh ?_); (case rdh => assumption))
    | ((with_reducible refine rd_tw1 (a := ?rda) (b := ?rdb) ?rdh ?_); (case rdh => assumption))
    | ((with_reducible refine rd_fmod ?rdh ?_); (case rdh => first | assumption | decide))
    | ((with_reducible refine rd_fdiv ?rdh ?_); (case rdh => assumption))
    | ((with_reducible refine rd_pow ?rdh ?_); (case rdh => first | assumption | exact ⟨by decide, by decide, by decide⟩))
    | ((with_reducible refine rd_mulR ?rdh ?_); (case rdh => constructor <;> decide))
    | with_reducible refine rd_sub ?_
    | ((with_reducible refine rd_set0 (a := ?rda) (b := ?rdb) ?rdh ?_); (case rdh => assumption); intro _ _ _)
    | ((with_reducible refine rd_set1 (a := ?rda) (b := ?rdb) ?rdh ?_); (case rdh => assumption); intro _ _ _)
    | with_reducible refine rd_augS ?_
    | ((with_reducible refine rd_get0 (a := ?rda) (b := ?rdb) ?rdh ?_); (case rdh => assumption))
    | with_reducible refine rd_ip ?_
    | ((with_reducible refine rd_eqSc (ns := ?rdl) ?rdh ?rdg ?_); (case rdh => assumption); (case rdg => assumption))
    | ((with_reducible refine rd_lenSc (ns := ?rdl) ?rdh ?_); (case rdh => assumption)))
/-! ### draw -/
def spDraw (K : PySem.W.Frag) : Sp := fun vs H Q _ => ∃ (sa tw : Addr) (ns : List Int) (m a b : Int), vs = [.ref sa, .ref tw, .int m] ∧ Sc K H sa tw ns ∧ H tw = some (.lst [.int a, .int b]) ∧ 0 ≤ a ∧ 0 < m ∧ m < 1000000 ∧
  ∀ (r a' b' : Int) H', 0 ≤ r → r < m → 0 ≤ a' → But tw H H' → H' tw = some (.lst [.int a', .int b']) → Q (.int r) H'
theorem ok_drawL (p : Prog K mg) : FnOk P w K mg base CX0 1 p.a_drawL p.d_drawL ["_law_script", "_law_town", "_law_many"] (spDraw K) := by
  refine p.D_drawL.F.ok sc_drawL (fun vs H Q E h => ?_) (fun cdv A outer s H vs Q E hr h => ?_)
  · obtain ⟨sa, tw, ns, m, a, b, rfl, _⟩ := h
    rfl
  obtain ⟨sa, tw, ns, m, a, b, rfl, hS, hT, ha, hm, hm2, q⟩ := h
  refine ⟨_, (pss_cons (ps_if (pt_cmpR op_gt (pe_ix ix_list (pv 1) pe_int (fun _ _ => rfl)) pe_int (nomark _)) (pss_cons (ps_set (i := 3) sc_drawL.nd rfl (Or.inl rfl) (pe_op op_modN (pe_ix ix_list (pv 1) pe_int (fun _ _ => rfl)) (pv 2)))
      (pss_cons (ps_asg (pe_op op_fdivN (pe_ix ix_list (pv 1) pe_int (fun _ _ => rfl)) (pv 2)) (pg_sub (pv 1) pe_int set_list))
      (pss_one (ps_ret (pv 3))))) pss_nil)
      (pss_cons (ps_set (i := 4) sc_drawL.nd rfl (Or.inl rfl) (pe_ix ix_list (pv 1) pe_int (fun _ _ => rfl)))
      (pss_cons (ps_augS (pv 1) pe_int get_list pe_int ip_add set_list)
      (pss_cons (ps_if (pt_cmpR (op_eqD hr.units) (pv 0) (pe_lst pa_nil) (nomark _)) (pss_one (ps_ret (pe_op op_modN (pv 4) (pv 2)))) pss_nil)
      (pss_cons (ps_if (PW.pt (pw_and (pt_cmpR op_lt (pv 4) (pe_callB call_lenN rfl p.z_len PySem.boot_len (pa_cons (pv 0) pa_nil)) (nomark _)) (pw_and1 (pt_cmpR op_ge (pe_ix ix_list (pv 0) (pv 4) (fun _ _ => rfl)) (pe_op op_pow pe_int pe_int) (nomark _))))) (pss_cons (ps_asg (pe_op op_modN (pe_op op_fdivN (pe_ix ix_list (pv 0) (pv 4) (fun _ _ => rfl)) (pv 2)) (pe_op op_mulW (pe_op op_pow pe_int pe_int) (pe_op op_pow pe_int pe_int))) (pg_sub (pv 1) pe_int set_list))
      (pss_one (ps_ret (pe_op op_modN (pe_ix ix_list (pv 0) (pv 4) (fun _ _ => rfl)) (pv 2))))) pss_nil)
      (pss_cons (ps_set (i := 5) sc_drawL.nd rfl (Or.inl rfl) (pe_op op_modN (pe_op op_add (pe_op op_add (pe_op op_mul (pe_ix ix_list (pv 0) (pe_op op_modN (pv 4) (pe_callB call_lenN rfl p.z_len PySem.boot_len (pa_cons (pv 0) pa_nil))) (fun _ _ => rfl)) pe_int) (pe_op op_mul pe_int (pv 4))) pe_int) pe_int))
      (pss_one (ps_ret (pe_op op_modN (pe_op op_modN (pe_op op_modN (pe_op op_pow (pv 5) pe_int) pe_int) pe_int) (pv 2)))))))))), ?_⟩
  have hm0 : m ≠ 0 := by omega
  have hdv : ∀ i, CDivN i m := fun i => ⟨hm0, by omega⟩
  cases hl : decide (0 < b) with
  | true =>
    have hdb := hdv b
    walk_at "go"
    exact q _ _ _ _ (fmod_in b hm).1 (fmod_in b hm).2 ha (by assumption) (by assumption)
  | false =>
    walk_at "go"
    rename_i H1 b1 t1 v H2 s2 l2 _
    have c2 : Sc K H2 sa tw ns := (hS.but b1).but (But.of s2)
    have q2 := c2.sq
    have t2 := s2 _ _ t1
    have b2 : But tw H H2 := b1.trans (But.of s2)
    cases hn : ns.isEmpty with
    | true =>
      walk_at "go"
      exact q _ _ _ _ (fmod_in a hm).1 (fmod_in a hm).2 (by omega) b2 t2
    | false =>
      have hlen : 0 < ns.length := by
        cases ns with
        | nil => cases hn
        | cons x xs => simp only [List.length_cons]; omega
      have hL : (0 : Int) < ns.length := by omega
      have hL0 : (ns.length : Int) ≠ 0 := by omega
      have h1 : (0 : Int) < 2147483647 := by decide
      cases hat : decide (a < (ns.length : Int)) with
      | false =>
        walk_at "go"
        refine rd_scr q2 (fmod_in a hL).1 (fmod_in a hL).2 (fun x => ?_)
        walk_at "go"
        have hp : CPow ((x * 1103515245 + 7919 * a + 12345).fmod 2147483647) 5 := by
          have h2 := fmod_in (x * 1103515245 + 7919 * a + 12345) h1
          exact ⟨by decide, by decide, by omega⟩
        walk_at "go"
        exact q _ _ _ _ (fmod_in _ hm).1 (fmod_in _ hm).2 (by omega) b2 t2
      | true =>
        walk_at "go"
        refine rd_scr q2 ha (of_decide_eq_true hat) (fun x0 => ?_)
        cases hx : decide ((10 : Int) ^ (18 : Int).toNat ≤ x0) with
        | false =>
          walk_at "go"
          refine rd_scr q2 (fmod_in a hL).1 (fmod_in a hL).2 (fun x => ?_)
          walk_at "go"
          have hp : CPow ((x * 1103515245 + 7919 * a + 12345).fmod 2147483647) 5 := by
            have h2 := fmod_in (x * 1103515245 + 7919 * a + 12345) h1
            exact ⟨by decide, by decide, by omega⟩
          walk_at "go"
          exact q _ _ _ _ (fmod_in _ hm).1 (fmod_in _ hm).2 (by omega) b2 t2
        | true =>
          walk_at "go"
          refine rd_scr q2 ha (of_decide_eq_true hat) (fun x1 => ?_)
          have hdb := hdv x1
          walk_at "go"
          have hw : CMulW ((10 : Int) ^ (60 : Int).toNat) ((10 : Int) ^ (60 : Int).toNat) := wide_mul (a := 200) (b := 200) (by decide +kernel) (by decide +kernel) (by decide) (by decide) (by decide)
          refine rd_mulW hw ?_
          have hz : ((10 : Int) ^ (60 : Int).toNat * (10 : Int) ^ (60 : Int).toNat) ≠ 0 := by decide +kernel
          walk_at "go"
          rename_i H3 b3 t3
          refine rd_scr (c2.but b3).sq ha (of_decide_eq_true hat) (fun x2 => ?_)
          walk_at "go"
          exact q _ _ _ _ (fmod_in _ hm).1 (fmod_in _ hm).2 (by omega) (b2.trans b3) t3
/-! ### pick -/
def spPick (K : PySem.W.Frag) : Sp := fun vs H Q _ => ∃ (sa tw la : Addr) (ns : List Int) (a b : Int) (xs : List V), vs = [.ref sa, .ref tw, .ref la] ∧ Sc K H sa tw ns ∧ H tw = some (.lst [.int a, .int b]) ∧ 0 ≤ a ∧ H la = some (.lst xs) ∧ la ≠ tw ∧ xs ≠ [] ∧ xs.length < 1000 ∧
  ∀ x (a' b' : Int) H', x ∈ xs → 0 ≤ a' → But tw H H' → H' tw = some (.lst [.int a', .int b']) → Q x H'
theorem rd_lenG {H : Hp} {Q : VK} {la : Addr} {xs : List V} (h : H la = some (.lst xs)) (q : Q (.int xs.length) H) : rLen K [.ref la] H Q := ⟨la, _, rfl, .inl (lst_of h), q⟩
local macro_rules
  | `(tactic| walk_at "go1") => `(tactic| ((with_reducible refine rd_lenG (xs := ?rdl) ?rdh ?_); (case rdh => assumption)))
theorem ok_pickL (p : Prog K mg) : FnOk P w K mg base CX0 2 p.a_pickL p.d_pickL ["_law_script", "_law_town", "_law_some"] (spPick K) := by
  refine p.D_pickL.F.ok sc_pickL (fun vs H Q E h => ?_) (fun cdv A outer s H vs Q E hr h => ?_)
  · obtain ⟨sa, tw, la, ns, a, b, xs, rfl, _⟩ := h
    rfl
  obtain ⟨sa, tw, la, ns, a, b, xs, rfl, hS, hT, ha, hL, hne, hx, hb, q⟩ := h
  have hx0 : 0 < xs.length := List.length_pos_iff.mpr hx
  refine ⟨_, (pss_one (ps_ret (pe_ix ix_list (pv 2) (pe_call (ok_drawL p) (hr.mono (by decide)) rfl p.D_drawL.g p.D_drawL.F.kp p.D_drawL.b .nil pass0 (pa_cons (pv 0) (pa_cons (pv 1) (pa_cons (pe_callB call_lenN rfl p.z_len PySem.boot_len (pa_cons (pv 2) pa_nil)) pa_nil)))) (fun _ _ => rfl)))), ?_⟩
  walk_at "go"
  refine ⟨sa, tw, ns, _, a, b, rfl, hS, hT, ha, by omega, by omega, fun r a' b' H' h0 h1 ha' hB hT' => ?_⟩
  have hk : r.toNat < xs.length := by omega
  have e : r = ((r.toNat : Nat) : Int) := by omega
  have g : atI xs ((r.toNat : Nat) : Int) = some xs[r.toNat] := atI_nat (List.getElem?_eq_getElem hk)
  rw [← e] at g
  exact ⟨la, _, r, _, rfl, rfl, lst_of (hB _ _ hne hL), g, q _ _ _ _ (List.getElem_mem hk) ha' hB hT'⟩
theorem rd_pick {H : Hp} {Q : VK} {E : XK} {sa tw la : Addr} {ns : List Int} {a b : Int} {xs : List V} (hS : Sc K H sa tw ns) (hT : H tw = some (.lst [.int a, .int b])) (ha : 0 ≤ a) (hL : H la = some (.lst xs)) (hne : la ≠ tw) (hx : xs ≠ []) (hb : xs.length < 1000)
    (q : ∀ x (a' b' : Int) H', x ∈ xs → 0 ≤ a' → But tw H H' → H' tw = some (.lst [.int a', .int b']) → Q x H') : spPick K [.ref sa, .ref tw, .ref la] H Q E := ⟨sa, tw, la, ns, a, b, xs, rfl, hS, hT, ha, hL, hne, hx, hb, q⟩
theorem rd_draw {H : Hp} {Q : VK} {E : XK} {sa tw : Addr} {ns : List Int} {a b m : Int} (hS : Sc K H sa tw ns) (hT : H tw = some (.lst [.int a, .int b])) (ha : 0 ≤ a) (hm : 0 < m) (hm2 : m < 1000000)
    (q : ∀ (r a' b' : Int) H', 0 ≤ r → r < m → 0 ≤ a' → But tw H H' → H' tw = some (.lst [.int a', .int b']) → Q (.int r) H') : spDraw K [.ref sa, .ref tw, .int m] H Q E := ⟨sa, tw, ns, m, a, b, rfl, hS, hT, ha, hm, hm2, q⟩
theorem rd_mkLv {H : Hp} {Q : VK} {xs : List V} (b : xs.length ≤ 1000) (q : ∀ p H', H p = none → Same H H' → H' p = some (.lst xs) → Q (.ref p) H') : mkL xs H Q :=
  ⟨Nat.le_of_lt (small1000 b), fun p hp => q p _ hp (same_new hp _) upd_same⟩
/-! ### deed -/
theorem rd_mkD {H : Hp} {Q : VK} {w : Wt.Wd} {k : Int} (q : ∀ v H', Same H H' → Dv H' v w k → Q v H') : mkT [.str (wd w), .int k] H Q :=
  ⟨by show 2 ≤ sizeLine; decide, fun p hp => q _ _ (same_new hp _) ⟨p, rfl, upd_same⟩⟩
def spDeedL (K : PySem.W.Frag) : Sp := fun vs H Q _ => ∃ (sa tw la : Addr) (ns ks : List Int) (a b : Int), vs = [.ref sa, .ref tw, .ref la, .int 6] ∧ Sc K H sa tw ns ∧ H tw = some (.lst [.int a, .int b]) ∧ 0 ≤ a ∧ H la = some (.lst (ks.map V.int)) ∧ la ≠ tw ∧ ks.length ≤ 60 ∧ (∀ k ∈ ks, 1 ≤ k ∧ k ≤ 6) ∧
  ∀ d (w : Wt.Wd) (k a' b' : Int) H', 1 ≤ k → k ≤ 6 → decide (k ∈ ks) = decide (w ≠ .inn) → Dv H' d w k → 0 ≤ a' → But tw H H' → H' tw = some (.lst [.int a', .int b']) → Q d H'
theorem ks6_in {k : Int} (h : k ∈ Wt.ks6) : 1 ≤ k ∧ k ≤ 6 := by
  simp only [Wt.ks6, List.mem_cons, List.not_mem_nil, or_false] at h
  omega
theorem ok_deedL (p : Prog K mg) : FnOk P w K mg base CX0 3 p.a_deedL p.d_deedL ["_law_script", "_law_town", "_law_here", "_law_keys_here"] (spDeedL K) := by
  refine p.D_deedL.F.ok sc_deedL (fun vs H Q E h => ?_) (fun cdv A outer s H vs Q E hr h => ?_)
  · obtain ⟨sa, tw, la, ns, ks, a, b, rfl, _⟩ := h
    rfl
  obtain ⟨sa, tw, la, ns, ks, a, b, rfl, hS, hT, ha, hL, hne, hlen, hks, q⟩ := h
  refine ⟨_, (pss_cons (ps_setLc (i := 4) rfl sc_deedL.nd rfl rfl (sw_true rfl rfl rfl (by decide +kernel)) (own := [("_law_key", 5)]) (g := gName 5) (pi_range2 rfl p.z_range (pa_cons pe_int (pa_cons (pe_op op_add (pv 3) pe_int) pa_nil))) (blkOk_by (own := [("_law_key", 5)]) (N := ["_law_script", "_law_town", "_law_here", "_law_keys_here", "_law_away", "_law_key"]) (sc := defScope (topS 107)) (by decide +kernel)) (fun _ _ _ _ _ => pg_name (i := 5) sc_deedL.nd rfl (Or.inl rfl)) (fun _ _ _ _ _ => (pts_one (pt_cmpR (op_notInK (K := K) rfl) (pv 5) (pv 2) (by with_unfolding_all rfl)))) (fun _ _ _ _ _ => (pv 5)))
      (pss_cons (ps_if (PW.pt (pw_or (pt_cmpR (op_eqD hr.units) (pv 2) (pe_lst pa_nil) (nomark _)) (pw_or1 (PW.pt (pw_and (pt_cmpR (op_neD hr.units) (pv 4) (pe_lst pa_nil) (nomark _)) (pw_and1 (pt_cmpR op_eq (pe_call (ok_drawL p) (hr.mono (by decide)) rfl p.D_drawL.g p.D_drawL.F.kp p.D_drawL.b .nil pass0 (pa_cons (pv 0) (pa_cons (pv 1) (pa_cons pe_int pa_nil)))) pe_int (nomark _)))))))) (pss_one (ps_ret (pe_tup (pa_cons pe_str (pa_cons (pe_call (ok_pickL p) (hr.mono (by decide)) rfl p.D_pickL.g p.D_pickL.F.kp p.D_pickL.b .nil pass0 (pa_cons (pv 0) (pa_cons (pv 1) (pa_cons (pv 4) pa_nil)))) pa_nil))))) pss_nil)
      (pss_one (ps_ret (pe_tup (pa_cons (pe_call (ok_pickL p) (hr.mono (by decide)) rfl p.D_pickL.g p.D_pickL.F.kp p.D_pickL.b .nil pass0 (pa_cons (pv 0) (pa_cons (pv 1) (pa_cons (pe_lst (pa_cons pe_str (pa_cons pe_str pa_nil))) pa_nil)))) (pa_cons (pe_call (ok_pickL p) (hr.mono (by decide)) rfl p.D_pickL.g p.D_pickL.F.kp p.D_pickL.b .nil pass0 (pa_cons (pv 0) (pa_cons (pv 1) (pa_cons (pv 2) pa_nil)))) pa_nil))))))), ?_⟩
  have l0 : Lv H (.ref la) ks := ⟨la, rfl, hL⟩
  walk_at "go"
  refine rd_filter6 (fun k => !decide (k ∈ ks)) (fun _ => rfl) (fun k H2 R s2 hR => ?_) (fun k H3 R hR => ?_) (fun da H2 nD s2 hA => ?_)
  · walk_at "go"
    exact hR _ (by walk_at "same")
  · walk_at "go"
    exact hR
  have l2 : Lv H2 (.ref da) (Wt.ks6.filter fun k => !decide (k ∈ ks)) := ⟨da, rfl, hA⟩
  have put : ∀ (H3 H5 : Hp) (k a' b' : Int) v, k ∈ (Wt.ks6.filter fun k => !decide (k ∈ ks)) → 0 ≤ a' → But tw H H3 → H3 tw = some (.lst [.int a', .int b']) → Same H3 H5 → Dv H5 v .inn k → Q v H5 := fun H3 H5 k a' b' v hk ha' hB hT' s5 hD => by
    have hm := List.mem_filter.mp hk
    have hr := ks6_in hm.1
    have hf : decide (k ∈ ks) = false := by simpa using hm.2
    exact q _ .inn k a' b' _ hr.1 hr.2 (by rw [hf]; rfl) hD ha' (hB.trans (But.of s5)) (s5 _ _ hT')
  have get : ∀ (H3 H5 : Hp) (w : Wt.Wd) (k a' b' : Int) v, w ≠ .inn → k ∈ ks → 0 ≤ a' → But tw H H3 → H3 tw = some (.lst [.int a', .int b']) → Same H3 H5 → Dv H5 v w k → Q v H5 := fun H3 H5 w k a' b' v hw hk ha' hB hT' s5 hD => by
    have hr := hks k hk
    exact q _ w k a' b' _ hr.1 hr.2 (by rw [decide_eq_true hk, decide_eq_true hw]) hD ha' (hB.trans (But.of s5)) (s5 _ _ hT')
  have hda : da ≠ tw := (ne_of_none hT nD).symm
  have t2 := s2 _ _ hT
  have c2 : Sc K H2 sa tw ns := hS.but (But.of s2)
  cases hk : ks.isEmpty with
  | true =>
    walk_at "go"
    rename_i v3 H3 s3 l3 f3
    have c3 : Sc K H3 sa tw ns := c2.but (But.of s3)
    have t3 := s3 _ _ t2
    have b3 : But tw H H3 := But.of (s2.trans s3)
    have hA3 := s3 _ _ hA
    have a3 := ha
    have hnn : (Wt.ks6.filter fun k => !decide (k ∈ ks)).map V.int ≠ [] := by
      have e : ks = [] := List.isEmpty_iff.mp hk
      subst e
      intro z
      have z2 := congrArg List.length z
      simp [Wt.ks6] at z2
    refine rd_pick c3 t3 a3 hA3 hda hnn (by rw [List.length_map]; have h1 := List.length_filter_le (fun k => !decide (k ∈ ks)) Wt.ks6; have h2 : Wt.ks6.length = 6 := rfl; omega) (fun x a5 b5 H5 hx ha5 b45 t5 => ?_)
    obtain ⟨k, hkk, rfl⟩ := List.mem_map.mp hx
    walk_at "go"
    refine rd_mkD (w := .inn) (fun v H7 s7 d7 => ?_)
    exact put _ _ k _ _ _ hkk ha5 (b3.trans b45) t5 s7 d7
  | false =>
    have hk0 : ks ≠ [] := fun z => by
      rw [z] at hk
      cases hk
    cases hf : (Wt.ks6.filter fun k => !decide (k ∈ ks)).isEmpty with
    | true =>
      have hf' : (!(Wt.ks6.filter fun k => !decide (k ∈ ks)).isEmpty) = false := by rw [hf]; rfl
      walk_at "go"
      rename_i v2 H2' s2' l2' f2' v3 H3 s3 l3 f3
      have s23 : Same H2 H3 := s2'.trans s3
      have c3 : Sc K H3 sa tw ns := c2.but (But.of s23)
      have t3 := s23 _ _ t2
      have b3 : But tw H H3 := But.of (s2.trans s23)
      have a3 := ha
      walk_at "go"
      refine rd_mkLv (by show 2 ≤ 1000; decide) (fun la3 H4 n4 s4 e4 => ?_)
      have c4 : Sc K H4 sa tw ns := c3.but (But.of s4)
      have t4 := s4 _ _ t3
      walk_at "go"
      refine rd_pick c4 t4 a3 e4 (ne_of_none t3 n4).symm (List.cons_ne_nil _ _) (by show 2 < 1000; decide) (fun x a5 b5 H5 hx ha5 b45 t5 => ?_)
      have c5 : Sc K H5 sa tw ns := c4.but b45
      have l5 : H5 la = some (.lst (ks.map V.int)) := b45 _ _ hne (s4 _ _ (b3 _ _ hne hL))
      have b05 : But tw H H5 := b3.trans ((But.of s4).trans b45)
      walk_at "go"
      refine rd_pick c5 t5 ha5 l5 hne (fun z => hk0 (List.map_eq_nil_iff.mp z)) (by rw [List.length_map]; omega) (fun y a6 b6 H6 hy ha6 b56 t6 => ?_)
      obtain ⟨k, hkk, rfl⟩ := List.mem_map.mp hy
      walk_at "go"
      simp only [List.mem_cons, List.not_mem_nil, or_false] at hx
      rcases hx with rfl | rfl
      · refine rd_mkD (w := .ask) (fun v H7 s7 d7 => ?_)
        exact get _ _ .ask k _ _ _ (by decide) hkk ha6 (b05.trans b56) t6 s7 d7
      · refine rd_mkD (w := .out) (fun v H7 s7 d7 => ?_)
        exact get _ _ .out k _ _ _ (by decide) hkk ha6 (b05.trans b56) t6 s7 d7
    | false =>
      have hf' : (!(Wt.ks6.filter fun k => !decide (k ∈ ks)).isEmpty) = true := by rw [hf]; rfl
      have hnn : (Wt.ks6.filter fun k => !decide (k ∈ ks)).map V.int ≠ [] := by
        intro z
        rw [List.map_eq_nil_iff.mp z] at hf
        cases hf
      walk_at "go"
      rename_i v2 H2' s2' l2' f2' v3 H3' s3' l3 f3
      have s23 : Same H2 H3' := s2'.trans s3'
      refine rd_draw (c2.but (But.of s23)) (s23 _ _ t2) ha (by decide) (by decide) (fun r a3' b3' H3 h0 h1 a3 hB3 t3 => ?_)
      have b23 : But tw H2 H3 := (But.of s23).trans hB3
      have c3 : Sc K H3 sa tw ns := c2.but b23
      have b3 : But tw H H3 := (But.of s2).trans b23
      have hA3 := b23 _ _ hda hA
      cases hr0 : decide (r = 0) with
      | true =>
        walk_at "go"
        refine rd_pick c3 t3 a3 hA3 hda hnn (by rw [List.length_map]; have h1 := List.length_filter_le (fun k => !decide (k ∈ ks)) Wt.ks6; have h2 : Wt.ks6.length = 6 := rfl; omega) (fun x a5 b5 H5 hx ha5 b45 t5 => ?_)
        obtain ⟨k, hkk, rfl⟩ := List.mem_map.mp hx
        walk_at "go"
        refine rd_mkD (w := .inn) (fun v H7 s7 d7 => ?_)
        exact put _ _ k _ _ _ hkk ha5 (b3.trans b45) t5 s7 d7
      | false =>
        walk_at "go"
        refine rd_mkLv (by show 2 ≤ 1000; decide) (fun la3 H4 n4 s4 e4 => ?_)
        have c4 : Sc K H4 sa tw ns := c3.but (But.of s4)
        have t4 := s4 _ _ t3
        walk_at "go"
        refine rd_pick c4 t4 a3 e4 (ne_of_none t3 n4).symm (List.cons_ne_nil _ _) (by show 2 < 1000; decide) (fun x a5 b5 H5 hx ha5 b45 t5 => ?_)
        have c5 : Sc K H5 sa tw ns := c4.but b45
        have l5 : H5 la = some (.lst (ks.map V.int)) := b45 _ _ hne (s4 _ _ (b3 _ _ hne hL))
        have b05 : But tw H H5 := b3.trans ((But.of s4).trans b45)
        walk_at "go"
        refine rd_pick c5 t5 ha5 l5 hne (fun z => hk0 (List.map_eq_nil_iff.mp z)) (by rw [List.length_map]; omega) (fun y a6 b6 H6 hy ha6 b56 t6 => ?_)
        obtain ⟨k, hkk, rfl⟩ := List.mem_map.mp hy
        walk_at "go"
        simp only [List.mem_cons, List.not_mem_nil, or_false] at hx
        rcases hx with rfl | rfl
        · refine rd_mkD (w := .ask) (fun v H7 s7 d7 => ?_)
          exact get _ _ .ask k _ _ _ (by decide) hkk ha6 (b05.trans b56) t6 s7 d7
        · refine rd_mkD (w := .out) (fun v H7 s7 d7 => ?_)
          exact get _ _ .out k _ _ _ (by decide) hkk ha6 (b05.trans b56) t6 s7 d7
/-! ### the law -/
/-- for k in range(n) -/
def forR (g : TG) (tb : TS) (D : Ends) (σ : L2.St) (vs : List V) (H : Hp) : Prop := tFor (iRng1 (taC vs)) g tb D σ H
theorem rd_forR {σ : L2.St} {H : Hp} {ta : TA} {g : TG} {tb : TS} {D : Ends} (q : ta σ H fun vs H1 => forR g tb D σ vs H1) : tFor (iRng1 ta) g tb D σ H := q
theorem rd_neTs {H : Hp} {Q : VK} {x y : V} {t : Tr} (hx : Tv H x t) (hy : Tv H y t) (b : sz t ≤ 60) (q : Q (.bl false) H) : rNeD K x y H Q := rd_neT hx hy b b (by rw [decide_eq_true rfl]; exact q)
theorem rd_notB {H : Hp} {Q : VK} {a : Bool} (q : Q (.bl false) H) : rNotB (.bl a) (.bl a) H Q := ⟨a, a, rfl, rfl, by rw [decide_eq_true rfl]; exact q⟩
theorem rd_afterL {u v d : V} {t t' : Tr} {w : Wt.Wd} {k : Int} {H : Hp} {Q : VK} {E : XK} (g : Rv H u) (h : Tv H v t) (f : Dv H d w k) (e : Wt.afterL t w k = some t') (q : ∀ x H', Same H H' → Tv H' x t' → Q x H') : spAfterL [u, v, d] H Q E := ⟨u, v, d, t, t', w, k, rfl, g, h, f, e, q⟩
theorem rd_after {u v d : V} {t t' : Tr} {w : Wt.Wd} {k : Int} {H : Hp} {Q : VK} {E : XK} (g : Rv H u) (h : Tv H v t) (f : Dv H d w k) (i : sz t ≤ 8) (h1 : Wt.btw t 1 6 = true) (h2 : Wt.areR t = true) (h3 : Wt.possible t w k = true) (e : Wt.afterP t w k = some t')
    (q : ∀ x H', Same H H' → Tv H' x t' → Q x H') : spAfter [u, v, d] H Q E := ⟨u, v, d, t, t', w, k, rfl, g, h, f, i, h1, h2, h3, e, q⟩
theorem rd_mkR {H : Hp} {Q : VK} (q : ∀ v H', Same H H' → Rv H' v → Q v H') : mkT [.str "weights"] H Q :=
  ⟨by show 1 ≤ sizeLine; decide, fun p hp => q _ _ (same_new hp _) ⟨p, rfl, upd_same⟩⟩
theorem good_sz {t : Tr} (g : Wt.good t = true) : sz t ≤ 6 ∧ (∀ k ∈ t.keys, 1 ≤ k ∧ k ≤ 6) ∧ (t.keys.length ≤ 3 → (Wt.ks6.filter fun k => !decide (k ∈ t.keys)) ≠ []) := by
  have h := Wt.extra_ok g
  unfold Wt.extra at h
  simp only [Bool.and_eq_true, Bool.or_eq_true, decide_eq_true_eq, List.all_eq_true] at h
  obtain ⟨⟨h1, h2⟩, h3⟩ := h
  have h4 := size_sz t
  refine ⟨by omega, h2, fun h5 z => ?_⟩
  rcases h3 with h3 | h3
  · omega
  · rw [z] at h3
    cases h3
local macro_rules
  | `(tactic| walk_at "go1") => `(tactic| first
    | with_reducible refine rd_forR ?_
    | ((with_reducible refine rd_neTs (t := ?rdt) ?rdh ?rdi ?rdb ?_); (case rdh => walk_at "tv"); (case rdi => walk_at "tv"); (case rdb => walk_at "le"))
    | with_reducible refine rd_notB ?_
    | ((with_reducible refine rd_afterL (t := ?rdt) (t' := ?rdu) (w := ?rdw) (k := ?rdk) ?rdg ?rdh ?rdf ?rde ?_); (case rdg => walk_at "tv"); (case rdh => walk_at "tv"); (case rdf => walk_at "tv"); (case rde => assumption); intro _ _ _ _)
    | ((with_reducible refine rd_after (t := ?rdt) (t' := ?rdu) (w := ?rdw) (k := ?rdk) ?rdg ?rdh ?rdf ?rdi ?rda ?rdb ?rdc ?rde ?_); (case rdg => walk_at "tv"); (case rdh => walk_at "tv"); (case rdf => walk_at "tv"); (case rdi => walk_at "le"); (case rda => assumption); (case rdb => assumption); (case rdc => assumption); (case rde => assumption); intro _ _ _ _))
def spLaw (K : PySem.W.Frag) : Sp := fun vs H Q _ => ∃ (sa : Addr) (ns : List Int), vs = [.ref sa] ∧ SqL K H sa (ns.map V.int) ∧ ∀ H', Q (.bl true) H'
/-- what holds between two turns -/
def Turn (K : PySem.W.Frag) (sa tw : Addr) (ns : List Int) (i : Nat) (σ : L2.St) (H : Hp) : Prop :=
  ∃ (rv sv : V) (y4 y5 y6 y7 : Option V) (t : Tr) (a b : Int), σ = [some (.ref sa), some (.ref tw), some rv, some sv, y4, y5, y6, y7] ∧ Sc K H sa tw ns ∧ H tw = some (.lst [.int a, .int b]) ∧ 0 ≤ a ∧ Rv H rv ∧ Tv H sv t ∧ Wt.good t = true ∧ t.keys.length ≤ i
theorem ok_law (p : Prog K mg) : FnOk P w K mg base CX0 25 p.a_law p.d_law ["_law_script"] (spLaw K) := by
  refine p.D_law.F.ok sc_law (fun vs H Q E h => ?_) (fun cdv A outer s H vs Q E hr h => ?_)
  · obtain ⟨sa, ns, rfl, _⟩ := h
    rfl
  obtain ⟨sa, ns, rfl, hS, q⟩ := h
  refine ⟨_, (pss_cons (ps_set (i := 1) sc_law.nd rfl (Or.inl rfl) (pe_lst (pa_cons pe_int (pa_cons pe_int pa_nil))))
      (pss_cons (ps_asg (pe_tup (pa_cons (pe_call (ok_pickL p) (hr.mono (by decide)) rfl p.D_pickL.g p.D_pickL.F.kp p.D_pickL.b .nil pass0 (pa_cons (pv 0) (pa_cons (pv 1) (pa_cons (pe_lst (pa_cons (pe_tup (pa_cons pe_str pa_nil)) pa_nil)) pa_nil)))) (pa_cons (pe_tup pa_nil) pa_nil))) (pg_tup (n := 2) rfl (pgs_cons (pg_name (i := 2) sc_law.nd rfl (Or.inl rfl)) (pgs_cons (pg_name (i := 3) sc_law.nd rfl (Or.inr rfl)) pgs_nil))))
      (pss_cons (ps_for PassesOwn.never rfl (pi_range1 rfl p.z_range (pa_cons (pe_op op_add pe_int (pe_call (ok_drawL p) (hr.mono (by decide)) rfl p.D_drawL.g p.D_drawL.F.kp p.D_drawL.b .nil pass0 (pa_cons (pv 0) (pa_cons (pv 1) (pa_cons pe_int pa_nil))))) pa_nil)) (pg_name (i := 4) sc_law.nd rfl (Or.inl rfl)) (pss_cons (ps_set (i := 5) sc_law.nd rfl (Or.inl rfl) (pe_call (ok_deedL p) (hr.mono (by decide)) rfl p.D_deedL.g p.D_deedL.F.kp p.D_deedL.b .nil pass0 (pa_cons (pv 0) (pa_cons (pv 1) (pa_cons (pe_call (ok_keysN p 9) (hr.mono (by decide)) rfl p.D_keysL.g p.D_keysL.F.kp p.D_keysL.b .nil pass0 (pa_cons (pv 3) pa_nil)) (pa_cons pe_int pa_nil))))))
      (pss_cons (ps_if (PW.pt (pw_and (pt_cmpR op_lt (pv 4) pe_int (nomark _)) (pw_and1 (pt_cmpR op_gt (pe_call (ok_drawL p) (hr.mono (by decide)) rfl p.D_drawL.g p.D_drawL.F.kp p.D_drawL.b .nil pass0 (pa_cons (pv 0) (pa_cons (pv 1) (pa_cons pe_int pa_nil)))) pe_int (nomark _))))) (pss_one (ps_set (i := 5) sc_law.nd rfl (Or.inl rfl) (pe_tup (pa_cons pe_str (pa_cons (pe_call (ok_pickL p) (hr.mono (by decide)) rfl p.D_pickL.g p.D_pickL.F.kp p.D_pickL.b .nil pass0 (pa_cons (pv 0) (pa_cons (pv 1) (pa_cons (pe_lc (own := [("_law_key", 7)]) (g := gName 7) rfl sc_law.nd (pi_range2 rfl p.z_range (pa_cons pe_int (pa_cons pe_int pa_nil))) (blkOk_by (own := [("_law_key", 7)]) (N := ["_law_script", "_law_town", "_law_rule_here", "_law_shape", "_law_k", "_law_deed_here", "_law_new", "_law_key"]) (sc := defScope (topS 108)) (by decide +kernel)) (fun _ _ _ _ _ => pg_name (i := 7) sc_law.nd rfl (Or.inl rfl)) (fun _ _ _ _ _ => (pts_one (pt_cmpR (op_notInK (K := K) rfl) (pv 7) (pe_call (ok_keysN p 9) (hr.mono (by decide)) rfl p.D_keysL.g p.D_keysL.F.kp p.D_keysL.b .nil pass0 (pa_cons (pv 3) pa_nil)) (by with_unfolding_all rfl)))) (fun _ _ _ _ _ => (pv 7))) pa_nil)))) pa_nil))))) pss_nil)
      (pss_cons (ps_set (i := 6) sc_law.nd rfl (Or.inl rfl) (pe_call (ok_afterL p) (hr.mono (by decide)) rfl p.D_afterL.g p.D_afterL.F.kp p.D_afterL.b .nil pass0 (pa_cons (pv 2) (pa_cons (pv 3) (pa_cons (pv 5) pa_nil)))))
      (pss_cons (ps_if (PW.pt (pw_or (pt_cmpR (op_neD hr.units) (pe_call (ok_after p) (hr.mono (by decide)) rfl p.D_after.g p.D_after.F.kp p.D_after.b .nil pass0 (pa_cons (pv 2) (pa_cons (pv 3) (pa_cons (pv 5) pa_nil)))) (pv 6) (nomark _)) (pw_or1 (pt_cmpR op_notBl (pe_call (ok_keeps p) (hr.mono (by decide)) rfl p.D_keeps.g p.D_keeps.F.kp p.D_keeps.b .nil pass0 (pa_cons (pv 2) (pa_cons (pv 6) pa_nil))) pe_bl (nomark _))))) (pss_one (ps_ret pe_bl)) pss_nil)
      (pss_one (ps_set (i := 3) sc_law.nd rfl (Or.inr rfl) (pv 6))))))))
      (pss_one (ps_ret pe_bl))))), ?_⟩
  walk_at "go"
  refine rd_mkLv (by show 2 ≤ 1000; decide) (fun tw H1 n1 s1 t1 => ?_)
  have c1 : Sc K H1 sa tw ns := (Sc.new hS n1).but (But.of s1)
  walk_at "go"
  refine rd_mkR (fun rv H2 s2 r2 => ?_)
  walk_at "go"
  refine rd_mkLv (by show 1 ≤ 1000; decide) (fun la H3 n3 s3 l3 => ?_)
  have t3 := s3 _ _ (s2 _ _ t1)
  have c3 : Sc K H3 sa tw ns := c1.but (But.of (s2.trans s3))
  walk_at "go"
  refine rd_pick c3 t3 (Int.le_refl 0) l3 (ne_of_none (s2 _ _ t1) n3).symm (List.cons_ne_nil _ _) (by show 1 < 1000; decide) (fun x a4 b4 H4 hx ha4 b34 t4 => ?_)
  rw [List.mem_singleton] at hx
  subst hx
  have r4 : Rv H4 x := (r2.same s3).but t3 b34
  have c4 : Sc K H4 sa tw ns := c3.but b34
  walk_at "go"
  rename_i e5 H5 s5 v5
  refine rd_pair (fun z H6 s6 h6 => ?_)
  have c6 : Sc K H6 sa tw ns := c4.but (But.of (s5.trans s6))
  have t6 := s6 _ _ (s5 _ _ t4)
  have r6 : Rv H6 x := r4.same (s5.trans s6)
  have v6 : Tv H6 e5 .nil := v5.same s6
  walk_at "go"
  refine rd_draw c6 t6 ha4 (by decide) (by decide) (fun r a7 b7 H7 hr0 hr1 ha7 b67 t7 => ?_)
  walk_at "go"
  refine ⟨2 + r, rfl, by omega, by omega, for_range (lo := 0) (n := (2 + r).toNat) (Turn K sa tw ns) ⟨x, e5, none, none, none, none, .nil, a7, b7, rfl, c6.but b67, t7, ha7, r6.but t6 b67, v6.but t6 b67, by decide, Nat.zero_le _⟩ (fun i σ' HA hi hT => ?_) (fun σ' H' hT => ?_)⟩
  · obtain ⟨rv, sv, y4, y5, y6, y7, t, a, b, rfl, cA, tA, aA, rA, vA, hg, hlen⟩ := hT
    obtain ⟨hz, hks, hfree⟩ := good_sz hg
    have g1 : Wt.btw t 1 6 = true := (Bool.and_eq_true_iff.mp hg).1
    have g2 : Wt.areR t = true := (Bool.and_eq_true_iff.mp hg).2
    have hkl := keys_sz t
    walk_at "go"
    rename_i u HB sB lB fB
    obtain ⟨la, rfl, hla⟩ := lB
    have hne : la ≠ tw := (ne_of_none tA (fB la rfl)).symm
    refine ⟨sa, tw, la, ns, t.keys, a, b, rfl, cA.but (But.of sB), sB _ _ tA, aA, hla, hne, by omega, hks, fun d w k aC bC HC h1 h6 hw dC ha' bBC tC => ?_⟩
    have hp : Wt.possible t w k = true := by
      have e2 : (Wt.has t k == decide (w ≠ .inn)) = true := by
        rw [show Wt.has t k = decide (k ∈ t.keys) from rfl, hw]
        exact beq_self_eq_true _
      unfold Wt.possible
      rw [decide_eq_true h1, decide_eq_true h6, e2]
      rfl
    obtain ⟨t', eP, eL, g', hl'⟩ := Wt.step_ok hg hp
    have g3 : Wt.btw t' 1 6 = true := (Bool.and_eq_true_iff.mp g').1
    have g4 : Wt.areR t' = true := (Bool.and_eq_true_iff.mp g').2
    have hz' := (good_sz g').1
    have cC : Sc K HC sa tw ns := (cA.but (But.of sB)).but bBC
    have rC : Rv HC rv := (rA.same sB).but (sB _ _ tA) bBC
    have vC : Tv HC sv t := (vA.same sB).but (sB _ _ tA) bBC
    cases hk4 : decide ((0 + (i : Int)) < 4) with
    | false =>
      have HDe : HC = HC := rfl
      have cD := cC
      have tD := tC
      have aD := ha'
      have rD := rC
      have fin : ∀ (H' : Hp) (nv : V) (y4 y5 y6 y7 : Option V), Same HC H' → Tv H' nv t' → Turn K sa tw ns (i + 1) [some (.ref sa), some (.ref tw), some rv, some nv, y4, y5, y6, y7] H' := fun H' nv y4 y5 y6 y7 s7 v7 =>
        ⟨rv, nv, y4, y5, y6, y7, t', _, _, rfl, cD.but (But.of s7), s7 _ _ tD, aD, rD.same s7, v7, g', by omega⟩
      walk_at "go"
      exact fin _ _ _ _ _ _ (by walk_at "same") (by walk_at "tv")
    | true =>
      walk_at "go"
      refine rd_draw cC tC ha' (by decide) (by decide) (fun r1 aD bD HD hr2 hr3 aD bCD tD => ?_)
      have cD : Sc K HD sa tw ns := cC.but bCD
      have rD : Rv HD rv := rC.but tC bCD
      have vD : Tv HD sv t := vC.but tC bCD
      have dD : Dv HD d w k := dC.but tC bCD
      cases hr4 : decide (0 < r1) with
      | false =>
        have fin : ∀ (H' : Hp) (nv : V) (y4 y5 y6 y7 : Option V), Same HD H' → Tv H' nv t' → Turn K sa tw ns (i + 1) [some (.ref sa), some (.ref tw), some rv, some nv, y4, y5, y6, y7] H' := fun H' nv y4 y5 y6 y7 s7 v7 =>
          ⟨rv, nv, y4, y5, y6, y7, t', _, _, rfl, cD.but (But.of s7), s7 _ _ tD, aD, rD.same s7, v7, g', by omega⟩
        walk_at "go"
        exact fin _ _ _ _ _ _ (by walk_at "same") (by walk_at "tv")
      | true =>
        clear fB dD hp eP eL g' hl' g3 g4 hz' t'
        walk_at "go"
        refine rd_filter6 (fun k => !decide (k ∈ t.keys)) (fun _ => rfl) (fun k H2 R s2 hR => ?_) (fun k H3 R hR => ?_) (fun da HE nE sE eE => ?_)
        · walk_at "go"
          exact hR _ (by walk_at "same")
        · walk_at "go"
          exact hR
        have hda : da ≠ tw := (ne_of_none tD nE).symm
        have hnn : (Wt.ks6.filter fun k => !decide (k ∈ t.keys)).map V.int ≠ [] := fun z => hfree (by have := of_decide_eq_true hk4; omega) (List.map_eq_nil_iff.mp z)
        walk_at "go"
        refine rd_pick (cD.but (But.of sE)) (sE _ _ tD) aD eE hda hnn (by rw [List.length_map]; have h1 := List.length_filter_le (fun k => !decide (k ∈ t.keys)) Wt.ks6; have h2 : Wt.ks6.length = 6 := rfl; omega) (fun x2 aF bF HF hx2 aF0 bEF tF => ?_)
        obtain ⟨k2, hk2, rfl⟩ := List.mem_map.mp hx2
        have hm := List.mem_filter.mp hk2
        have hr2 := ks6_in hm.1
        have hf2 : decide (k2 ∈ t.keys) = false := by simpa using hm.2
        walk_at "go"
        refine rd_mkD (w := .inn) (fun dv HG sG dG => ?_)
        have cG : Sc K HG sa tw ns := ((cD.but (But.of sE)).but bEF).but (But.of sG)
        have tG := sG _ _ tF
        have rG : Rv HG rv := ((rD.same sE).but (sE _ _ tD) bEF).same sG
        have vG : Tv HG sv t := ((vD.same sE).but (sE _ _ tD) bEF).same sG
        have hp : Wt.possible t .inn k2 = true := by
          have e2 : (Wt.has t k2 == decide (Wt.Wd.inn ≠ .inn)) = true := by
            rw [show Wt.has t k2 = decide (k2 ∈ t.keys) from rfl, hf2]
            rfl
          unfold Wt.possible
          rw [decide_eq_true hr2.1, decide_eq_true hr2.2, e2]
          rfl
        obtain ⟨t', eP, eL, g', hl'⟩ := Wt.step_ok hg hp
        have g3 : Wt.btw t' 1 6 = true := (Bool.and_eq_true_iff.mp g').1
        have g4 : Wt.areR t' = true := (Bool.and_eq_true_iff.mp g').2
        have hz' := (good_sz g').1
        have fin : ∀ (H' : Hp) (nv : V) (y4 y5 y6 y7 : Option V), Same HG H' → Tv H' nv t' → Turn K sa tw ns (i + 1) [some (.ref sa), some (.ref tw), some rv, some nv, y4, y5, y6, y7] H' := fun H' nv y4 y5 y6 y7 s7 v7 =>
          ⟨rv, nv, y4, y5, y6, y7, t', _, _, rfl, cG.but (But.of s7), s7 _ _ tG, aF0, rG.same s7, v7, g', by omega⟩
        walk_at "go"
        exact fin _ _ _ _ _ _ (by walk_at "same") (by walk_at "tv")
  · obtain ⟨rv, sv, y4, y5, y6, y7, t, a, b, rfl, _⟩ := hT
    walk_at "go"
    exact q _
/-! ### the end: what the program's top has left -/
theorem df_mk {h : Heap} {x : Str} {st : Stmt} {ps : List Str} {f : Addr} {oc : Value} {od an : Option Addr} {osl : Array (Option Value)} {kV dc pm cdv ct : Value} (X : K.In h) (G : h.Ns mainGlobals mg) (a : PySem.W.nsIn K mainGlobals x = some (some (.ref f)))
    (lk : K.lookup f = some ⟨oc, od, .func (PySem.W.fnOf x x (defArgs st) (defBody st) (defScope st) .none kV dc pm an cdv ct), osl⟩) (c : PySem.W.codeIn K cdv x = true) (k : PySem.W.keepIn K (.ref f) = true)
    (hb : ∀ (kV doc pm : Value) (an : Option Addr) (cdv ct : Value) (us : List Value), us.length = ps.length → bindArgs (PySem.W.fnOf x x (defArgs st) (defBody st) (defScope st) .none kV doc pm an cdv ct) ⟨us, []⟩ = pure (ps.zip us)) :
    Df K mg x st ps f (PySem.W.fnOf x x (defArgs st) (defBody st) (defScope st) .none kV dc pm an cdv ct) :=
  have F := fun_mk (st := st) lk c k
  ⟨F, F.binds hb, PySem.W.mg_of X G a⟩
theorem fam_mk {h : Heap} {f : Addr} {od : Option Addr} {n : Nat} {sl : Array (Option Value)} {t1 t2 t3 t4 t5 t6 t7 t8 : Tok} (X : K.In h) (G : h.Ns mainGlobals mg) (a : PySem.W.nsIn K mainGlobals "FAMILY" = some (some (.ref f)))
    (lk : K.lookup f = some ⟨.type "tuple", od, .seq #[.str "heights" t1, .str "levels" t2, .str "once" t3, .str "plain" t4, .str "rebuilt" t5, .str "splayed" t6, .str "top" t7, .str "weights" t8] n, sl⟩) :
    ∃ a, (∃ u, mg "FAMILY" = some u ∧ RelV (.ref a) u) ∧ ∀ H : Hp, SqT K H a [.str "heights", .str "levels", .str "once", .str "plain", .str "rebuilt", .str "splayed", .str "top", .str "weights"] :=
  ⟨f, ⟨_, PySem.W.mg_of X G a, rfl⟩, fun H => .inr ⟨_, _, _, lk, rfl, rfl, by show 8 ≤ sizeLine; decide, .cons ⟨_, rfl⟩ (.cons ⟨_, rfl⟩ (.cons ⟨_, rfl⟩ (.cons ⟨_, rfl⟩ (.cons ⟨_, rfl⟩ (.cons ⟨_, rfl⟩ (.cons ⟨_, rfl⟩ (.cons ⟨_, rfl⟩ .nil)))))))⟩⟩
theorem most_mk {h : Heap} {t : Tok} (X : K.In h) (G : h.Ns mainGlobals mg) (a : PySem.W.nsIn K mainGlobals "MOST" = some (some (.int 6 t))) : ∃ u, mg "MOST" = some u ∧ RelV (.int 6) u := ⟨_, PySem.W.mg_of X G a, _, rfl⟩
theorem law_end (p : Prog K mg) {fa : Addr} (hfa : mg "law" = some (.ref fa)) : ∃ fd : FuncData, (∀ (s : Shared) (v : Value), BindsTo s fd ⟨[v], []⟩ [("_law_script", v)]) ∧ ∀ base : Heap, K.In base → base.Ns mainGlobals mg → FnOk P w K mg base CX0 25 fa fd ["_law_script"] (spLaw K) := by
  have e : fa = p.a_law := by
    have h := hfa.symm.trans p.D_law.g
    exact Value.ref.inj (Option.some.inj h)
  subst e
  refine ⟨p.d_law, fun s v => ?_, fun base _ _ => ok_law p⟩
  obtain ⟨oc, od, kV, doc, pm, an, cdv, ct, osl, e, _, _⟩ := p.D_law.F.ex
  rw [e]
  exact .of_eq rfl
theorem all_mk {fa : Addr} (hfa : mg "law" = some (.ref fa))
    (D_is_number : ∃ f fd, Df K mg "is_number" (topS 8) ["value", "least", "most"] f fd)
    (D_is_between : ∃ f fd, Df K mg "is_between" (topS 9) ["value", "low", "high"] f fd)
    (D_is_shape : ∃ f fd, Df K mg "is_shape" (topS 10) ["candidate"] f fd)
    (D_need_shape : ∃ f fd, Df K mg "need_shape" (topS 11) ["value"] f fd)
    (D_keys_of : ∃ f fd, Df K mg "keys_of" (topS 12) ["shape"] f fd)
    (D_size_of : ∃ f fd, Df K mg "size_of" (topS 13) ["shape"] f fd)
    (D_left_up : ∃ f fd, Df K mg "left_up" (topS 17) ["part"] f fd)
    (D_right_up : ∃ f fd, Df K mg "right_up" (topS 18) ["part"] f fd)
    (D_least : ∃ f fd, Df K mg "least" (topS 22) ["shape"] f fd)
    (D_weight_of : ∃ f fd, Df K mg "weight_of" (topS 31) ["shape"] f fd)
    (D_set_right : ∃ f fd, Df K mg "set_right" (topS 32) ["word", "part"] f fd)
    (D_is_greater : ∃ f fd, Df K mg "is_greater" (topS 33) ["word", "one", "other"] f fd)
    (D_is_inner : ∃ f fd, Df K mg "is_inner" (topS 34) ["word", "inner", "outer"] f fd)
    (D_put_right : ∃ f fd, Df K mg "put_right" (topS 35) ["word", "shape", "key"] f fd)
    (D_take_right : ∃ f fd, Df K mg "take_right" (topS 36) ["word", "shape", "key"] f fd)
    (D_all_parts : ∃ f fd, Df K mg "all_parts" (topS 42) ["shape"] f fd)
    (D_are_right : ∃ f fd, Df K mg "are_right" (topS 43) ["word", "shape"] f fd)
    (D_is_rule : ∃ f fd, Df K mg "is_rule" (topS 58) ["candidate"] f fd)
    (D_need_rule : ∃ f fd, Df K mg "need_rule" (topS 59) ["value"] f fd)
    (D_is_kept : ∃ f fd, Df K mg "is_kept" (topS 61) ["rule", "shape"] f fd)
    (D_keeps : ∃ f fd, Df K mg "keeps" (topS 62) ["rule", "shape"] f fd)
    (D_with_key : ∃ f fd, Df K mg "with_key" (topS 63) ["rule", "shape", "key"] f fd)
    (D_without_key : ∃ f fd, Df K mg "without_key" (topS 64) ["rule", "shape", "key"] f fd)
    (D_moved : ∃ f fd, Df K mg "moved" (topS 65) ["rule", "shape", "key"] f fd)
    (D_behind : ∃ f fd, Df K mg "behind" (topS 66) ["rule", "shape", "deed"] f fd)
    (D_is_deed : ∃ f fd, Df K mg "is_deed" (topS 67) ["value"] f fd)
    (D_is_possible : ∃ f fd, Df K mg "is_possible" (topS 68) ["shape", "deed"] f fd)
    (D_need_deed : ∃ f fd, Df K mg "need_deed" (topS 69) ["shape", "value"] f fd)
    (D_after : ∃ f fd, Df K mg "after" (topS 70) ["rule", "shape", "deed"] f fd)
    (D_drawL : ∃ f fd, Df K mg "_law_draw" (topS 72) ["_law_script", "_law_town", "_law_many"] f fd)
    (D_pickL : ∃ f fd, Df K mg "_law_pick" (topS 73) ["_law_script", "_law_town", "_law_some"] f fd)
    (D_keysL : ∃ f fd, Df K mg "_law_keys" (topS 74) ["_law_shape"] f fd)
    (D_pathL : ∃ f fd, Df K mg "_law_path" (topS 76) ["_law_shape", "_law_key"] f fd)
    (D_plantL : ∃ f fd, Df K mg "_law_plant" (topS 78) ["_law_keys_here"] f fd)
    (D_orderL : ∃ f fd, Df K mg "_law_order" (topS 79) ["_law_shape"] f fd)
    (D_turnL : ∃ f fd, Df K mg "_law_turn" (topS 80) ["_law_shape", "_law_key"] f fd)
    (D_leafL : ∃ f fd, Df K mg "_law_leaf" (topS 81) ["_law_shape", "_law_key"] f fd)
    (D_partL : ∃ f fd, Df K mg "_law_part" (topS 82) ["_law_shape", "_law_key"] f fd)
    (D_putL : ∃ f fd, Df K mg "_law_put" (topS 83) ["_law_shape", "_law_key", "_law_part_here"] f fd)
    (D_outL : ∃ f fd, Df K mg "_law_out" (topS 84) ["_law_shape", "_law_key"] f fd)
    (D_heavyL : ∃ f fd, Df K mg "_law_heavy" (topS 85) ["_law_word", "_law_one", "_law_other"] f fd)
    (D_innerL : ∃ f fd, Df K mg "_law_inner" (topS 86) ["_law_word", "_law_inner_here", "_law_outer"] f fd)
    (D_fixedL : ∃ f fd, Df K mg "_law_fixed" (topS 87) ["_law_word", "_law_shape", "_law_key"] f fd)
    (D_setL : ∃ f fd, Df K mg "_law_set" (topS 88) ["_law_word", "_law_shape", "_law_above"] f fd)
    (D_movedL : ∃ f fd, Df K mg "_law_moved" (topS 100) ["_law_name", "_law_shape", "_law_key"] f fd)
    (D_inL : ∃ f fd, Df K mg "_law_in" (topS 102) ["_law_rule_here", "_law_shape", "_law_key"] f fd)
    (D_afterL : ∃ f fd, Df K mg "_law_after" (topS 103) ["_law_rule_here", "_law_shape", "_law_deed_here"] f fd)
    (D_deedL : ∃ f fd, Df K mg "_law_deed" (topS 107) ["_law_script", "_law_town", "_law_here", "_law_keys_here"] f fd)
    (D_law : ∃ f fd, Df K mg "law" (topS 108) ["_law_script"] f fd)
    (z_len : mg "len" = none)
    (z_isinstance : mg "isinstance" = none)
    (z_int : mg "int" = none)
    (z_bool : mg "bool" = none)
    (z_tuple : mg "tuple" = none)
    (z_str : mg "str" = none)
    (z_range : mg "range" = none)
    (m_MOST : ∃ u, mg "MOST" = some u ∧ RelV (.int 6) u)
    (m_FAM : ∃ a, (∃ u, mg "FAMILY" = some u ∧ RelV (.ref a) u) ∧ ∀ H : Hp, SqT K H a [.str "heights", .str "levels", .str "once", .str "plain", .str "rebuilt", .str "splayed", .str "top", .str "weights"]) :
    ∃ fd : FuncData, (∀ (s : Shared) (v : Value), BindsTo s fd ⟨[v], []⟩ [("_law_script", v)]) ∧ ∀ base : Heap, K.In base → base.Ns mainGlobals mg → FnOk P w K mg base CX0 25 fa fd ["_law_script"] (spLaw K) := by
  obtain ⟨f_is_number, e_is_number, D_is_number⟩ := D_is_number
  obtain ⟨f_is_between, e_is_between, D_is_between⟩ := D_is_between
  obtain ⟨f_is_shape, e_is_shape, D_is_shape⟩ := D_is_shape
  obtain ⟨f_need_shape, e_need_shape, D_need_shape⟩ := D_need_shape
  obtain ⟨f_keys_of, e_keys_of, D_keys_of⟩ := D_keys_of
  obtain ⟨f_size_of, e_size_of, D_size_of⟩ := D_size_of
  obtain ⟨f_left_up, e_left_up, D_left_up⟩ := D_left_up
  obtain ⟨f_right_up, e_right_up, D_right_up⟩ := D_right_up
  obtain ⟨f_least, e_least, D_least⟩ := D_least
  obtain ⟨f_weight_of, e_weight_of, D_weight_of⟩ := D_weight_of
  obtain ⟨f_set_right, e_set_right, D_set_right⟩ := D_set_right
  obtain ⟨f_is_greater, e_is_greater, D_is_greater⟩ := D_is_greater
  obtain ⟨f_is_inner, e_is_inner, D_is_inner⟩ := D_is_inner
  obtain ⟨f_put_right, e_put_right, D_put_right⟩ := D_put_right
  obtain ⟨f_take_right, e_take_right, D_take_right⟩ := D_take_right
  obtain ⟨f_all_parts, e_all_parts, D_all_parts⟩ := D_all_parts
  obtain ⟨f_are_right, e_are_right, D_are_right⟩ := D_are_right
  obtain ⟨f_is_rule, e_is_rule, D_is_rule⟩ := D_is_rule
  obtain ⟨f_need_rule, e_need_rule, D_need_rule⟩ := D_need_rule
  obtain ⟨f_is_kept, e_is_kept, D_is_kept⟩ := D_is_kept
  obtain ⟨f_keeps, e_keeps, D_keeps⟩ := D_keeps
  obtain ⟨f_with_key, e_with_key, D_with_key⟩ := D_with_key
  obtain ⟨f_without_key, e_without_key, D_without_key⟩ := D_without_key
  obtain ⟨f_moved, e_moved, D_moved⟩ := D_moved
  obtain ⟨f_behind, e_behind, D_behind⟩ := D_behind
  obtain ⟨f_is_deed, e_is_deed, D_is_deed⟩ := D_is_deed
  obtain ⟨f_is_possible, e_is_possible, D_is_possible⟩ := D_is_possible
  obtain ⟨f_need_deed, e_need_deed, D_need_deed⟩ := D_need_deed
  obtain ⟨f_after, e_after, D_after⟩ := D_after
  obtain ⟨f_drawL, e_drawL, D_drawL⟩ := D_drawL
  obtain ⟨f_pickL, e_pickL, D_pickL⟩ := D_pickL
  obtain ⟨f_keysL, e_keysL, D_keysL⟩ := D_keysL
  obtain ⟨f_pathL, e_pathL, D_pathL⟩ := D_pathL
  obtain ⟨f_plantL, e_plantL, D_plantL⟩ := D_plantL
  obtain ⟨f_orderL, e_orderL, D_orderL⟩ := D_orderL
  obtain ⟨f_turnL, e_turnL, D_turnL⟩ := D_turnL
  obtain ⟨f_leafL, e_leafL, D_leafL⟩ := D_leafL
  obtain ⟨f_partL, e_partL, D_partL⟩ := D_partL
  obtain ⟨f_putL, e_putL, D_putL⟩ := D_putL
  obtain ⟨f_outL, e_outL, D_outL⟩ := D_outL
  obtain ⟨f_heavyL, e_heavyL, D_heavyL⟩ := D_heavyL
  obtain ⟨f_innerL, e_innerL, D_innerL⟩ := D_innerL
  obtain ⟨f_fixedL, e_fixedL, D_fixedL⟩ := D_fixedL
  obtain ⟨f_setL, e_setL, D_setL⟩ := D_setL
  obtain ⟨f_movedL, e_movedL, D_movedL⟩ := D_movedL
  obtain ⟨f_inL, e_inL, D_inL⟩ := D_inL
  obtain ⟨f_afterL, e_afterL, D_afterL⟩ := D_afterL
  obtain ⟨f_deedL, e_deedL, D_deedL⟩ := D_deedL
  obtain ⟨f_law, e_law, D_law⟩ := D_law
  obtain ⟨aF, mF, tF⟩ := m_FAM
  exact law_end (⟨f_is_number, e_is_number, D_is_number, f_is_between, e_is_between, D_is_between, f_is_shape, e_is_shape, D_is_shape, f_need_shape, e_need_shape, D_need_shape, f_keys_of, e_keys_of, D_keys_of, f_size_of, e_size_of, D_size_of, f_left_up, e_left_up, D_left_up, f_right_up, e_right_up, D_right_up, f_least, e_least, D_least, f_weight_of, e_weight_of, D_weight_of, f_set_right, e_set_right, D_set_right, f_is_greater, e_is_greater, D_is_greater, f_is_inner, e_is_inner, D_is_inner, f_put_right, e_put_right, D_put_right, f_take_right, e_take_right, D_take_right, f_all_parts, e_all_parts, D_all_parts, f_are_right, e_are_right, D_are_right, f_is_rule, e_is_rule, D_is_rule, f_need_rule, e_need_rule, D_need_rule, f_is_kept, e_is_kept, D_is_kept, f_keeps, e_keeps, D_keeps, f_with_key, e_with_key, D_with_key, f_without_key, e_without_key, D_without_key, f_moved, e_moved, D_moved, f_behind, e_behind, D_behind, f_is_deed, e_is_deed, D_is_deed, f_is_possible, e_is_possible, D_is_possible, f_need_deed, e_need_deed, D_need_deed, f_after, e_after, D_after, f_drawL, e_drawL, D_drawL, f_pickL, e_pickL, D_pickL, f_keysL, e_keysL, D_keysL, f_pathL, e_pathL, D_pathL, f_plantL, e_plantL, D_plantL, f_orderL, e_orderL, D_orderL, f_turnL, e_turnL, D_turnL, f_leafL, e_leafL, D_leafL, f_partL, e_partL, D_partL, f_putL, e_putL, D_putL, f_outL, e_outL, D_outL, f_heavyL, e_heavyL, D_heavyL, f_innerL, e_innerL, D_innerL, f_fixedL, e_fixedL, D_fixedL, f_setL, e_setL, D_setL, f_movedL, e_movedL, D_movedL, f_inL, e_inL, D_inL, f_afterL, e_afterL, D_afterL, f_deedL, e_deedL, D_deedL, f_law, e_law, D_law, z_len, z_isinstance, z_int, z_bool, z_tuple, z_str, z_range, m_MOST, aF, mF, tF⟩ : Prog K mg) hfa
end
end Wk
open PySem PySem.W PyProof.Rows
set_option maxRecDepth 100000 in
set_option maxHeartbeats 0 in
theorem PySem.Challenge.cw_turnedtrees_k08_whole_weights_holds : PySem.Challenge.rw_turnedtrees_k08_whole_weights.Holds :=
  wkHead (by
  k_fill
  refine L2.walk_of (l := PySem.Challenge.rw_turnedtrees_k08_whole_weights) (n := 63) (k := 25) (x := "_law_script") (CX := fun _ => L2.CX0) (sp := fun w => Wk.spLaw _) rfl (by decide) rfl ⟨rfl, by decide, by decide⟩ (fun w h Y => PySem.W.kIn_of Y) ?F (fun _ _ a ns hl _ hS => ⟨a, ns, rfl, hS, fun _ => rfl⟩) (fun _ _ _ _ _ h => h)
  case F =>
    intro w mg fa h KX G hmg
    refine' Wk.all_mk hmg ?D_is_number ?D_is_between ?D_is_shape ?D_need_shape ?D_keys_of ?D_size_of ?D_left_up ?D_right_up ?D_least ?D_weight_of ?D_set_right ?D_is_greater ?D_is_inner ?D_put_right ?D_take_right ?D_all_parts ?D_are_right ?D_is_rule ?D_need_rule ?D_is_kept ?D_keeps ?D_with_key ?D_without_key ?D_moved ?D_behind ?D_is_deed ?D_is_possible ?D_need_deed ?D_after ?D_drawL ?D_pickL ?D_keysL ?D_pathL ?D_plantL ?D_orderL ?D_turnL ?D_leafL ?D_partL ?D_putL ?D_outL ?D_heavyL ?D_innerL ?D_fixedL ?D_setL ?D_movedL ?D_inL ?D_afterL ?D_deedL ?D_law ?z_len ?z_isinstance ?z_int ?z_bool ?z_tuple ?z_str ?z_range ?m_MOST ?m_FAM
    (case D_is_number => refine' ⟨_, _, Wk.df_mk KX G ?a ?l ?c ?k fun _ _ _ _ _ _ us hl => match us, hl with | [_, _, _], _ => rfl⟩; (case a => k_is); (case l => k_is); (case c => k_is); (case k => k_is))
    (case D_is_between => refine' ⟨_, _, Wk.df_mk KX G ?a ?l ?c ?k fun _ _ _ _ _ _ us hl => match us, hl with | [_, _, _], _ => rfl⟩; (case a => k_is); (case l => k_is); (case c => k_is); (case k => k_is))
    (case D_is_shape => refine' ⟨_, _, Wk.df_mk KX G ?a ?l ?c ?k fun _ _ _ _ _ _ us hl => match us, hl with | [_], _ => rfl⟩; (case a => k_is); (case l => k_is); (case c => k_is); (case k => k_is))
    (case D_need_shape => refine' ⟨_, _, Wk.df_mk KX G ?a ?l ?c ?k fun _ _ _ _ _ _ us hl => match us, hl with | [_], _ => rfl⟩; (case a => k_is); (case l => k_is); (case c => k_is); (case k => k_is))
    (case D_keys_of => refine' ⟨_, _, Wk.df_mk KX G ?a ?l ?c ?k fun _ _ _ _ _ _ us hl => match us, hl with | [_], _ => rfl⟩; (case a => k_is); (case l => k_is); (case c => k_is); (case k => k_is))
    (case D_size_of => refine' ⟨_, _, Wk.df_mk KX G ?a ?l ?c ?k fun _ _ _ _ _ _ us hl => match us, hl with | [_], _ => rfl⟩; (case a => k_is); (case l => k_is); (case c => k_is); (case k => k_is))
    (case D_left_up => refine' ⟨_, _, Wk.df_mk KX G ?a ?l ?c ?k fun _ _ _ _ _ _ us hl => match us, hl with | [_], _ => rfl⟩; (case a => k_is); (case l => k_is); (case c => k_is); (case k => k_is))
    (case D_right_up => refine' ⟨_, _, Wk.df_mk KX G ?a ?l ?c ?k fun _ _ _ _ _ _ us hl => match us, hl with | [_], _ => rfl⟩; (case a => k_is); (case l => k_is); (case c => k_is); (case k => k_is))
    (case D_least => refine' ⟨_, _, Wk.df_mk KX G ?a ?l ?c ?k fun _ _ _ _ _ _ us hl => match us, hl with | [_], _ => rfl⟩; (case a => k_is); (case l => k_is); (case c => k_is); (case k => k_is))
    (case D_weight_of => refine' ⟨_, _, Wk.df_mk KX G ?a ?l ?c ?k fun _ _ _ _ _ _ us hl => match us, hl with | [_], _ => rfl⟩; (case a => k_is); (case l => k_is); (case c => k_is); (case k => k_is))
    (case D_set_right => refine' ⟨_, _, Wk.df_mk KX G ?a ?l ?c ?k fun _ _ _ _ _ _ us hl => match us, hl with | [_, _], _ => rfl⟩; (case a => k_is); (case l => k_is); (case c => k_is); (case k => k_is))
    (case D_is_greater => refine' ⟨_, _, Wk.df_mk KX G ?a ?l ?c ?k fun _ _ _ _ _ _ us hl => match us, hl with | [_, _, _], _ => rfl⟩; (case a => k_is); (case l => k_is); (case c => k_is); (case k => k_is))
    (case D_is_inner => refine' ⟨_, _, Wk.df_mk KX G ?a ?l ?c ?k fun _ _ _ _ _ _ us hl => match us, hl with | [_, _, _], _ => rfl⟩; (case a => k_is); (case l => k_is); (case c => k_is); (case k => k_is))
    (case D_put_right => refine' ⟨_, _, Wk.df_mk KX G ?a ?l ?c ?k fun _ _ _ _ _ _ us hl => match us, hl with | [_, _, _], _ => rfl⟩; (case a => k_is); (case l => k_is); (case c => k_is); (case k => k_is))
    (case D_take_right => refine' ⟨_, _, Wk.df_mk KX G ?a ?l ?c ?k fun _ _ _ _ _ _ us hl => match us, hl with | [_, _, _], _ => rfl⟩; (case a => k_is); (case l => k_is); (case c => k_is); (case k => k_is))
    (case D_all_parts => refine' ⟨_, _, Wk.df_mk KX G ?a ?l ?c ?k fun _ _ _ _ _ _ us hl => match us, hl with | [_], _ => rfl⟩; (case a => k_is); (case l => k_is); (case c => k_is); (case k => k_is))
    (case D_are_right => refine' ⟨_, _, Wk.df_mk KX G ?a ?l ?c ?k fun _ _ _ _ _ _ us hl => match us, hl with | [_, _], _ => rfl⟩; (case a => k_is); (case l => k_is); (case c => k_is); (case k => k_is))
    (case D_is_rule => refine' ⟨_, _, Wk.df_mk KX G ?a ?l ?c ?k fun _ _ _ _ _ _ us hl => match us, hl with | [_], _ => rfl⟩; (case a => k_is); (case l => k_is); (case c => k_is); (case k => k_is))
    (case D_need_rule => refine' ⟨_, _, Wk.df_mk KX G ?a ?l ?c ?k fun _ _ _ _ _ _ us hl => match us, hl with | [_], _ => rfl⟩; (case a => k_is); (case l => k_is); (case c => k_is); (case k => k_is))
    (case D_is_kept => refine' ⟨_, _, Wk.df_mk KX G ?a ?l ?c ?k fun _ _ _ _ _ _ us hl => match us, hl with | [_, _], _ => rfl⟩; (case a => k_is); (case l => k_is); (case c => k_is); (case k => k_is))
    (case D_keeps => refine' ⟨_, _, Wk.df_mk KX G ?a ?l ?c ?k fun _ _ _ _ _ _ us hl => match us, hl with | [_, _], _ => rfl⟩; (case a => k_is); (case l => k_is); (case c => k_is); (case k => k_is))
    (case D_with_key => refine' ⟨_, _, Wk.df_mk KX G ?a ?l ?c ?k fun _ _ _ _ _ _ us hl => match us, hl with | [_, _, _], _ => rfl⟩; (case a => k_is); (case l => k_is); (case c => k_is); (case k => k_is))
    (case D_without_key => refine' ⟨_, _, Wk.df_mk KX G ?a ?l ?c ?k fun _ _ _ _ _ _ us hl => match us, hl with | [_, _, _], _ => rfl⟩; (case a => k_is); (case l => k_is); (case c => k_is); (case k => k_is))
    (case D_moved => refine' ⟨_, _, Wk.df_mk KX G ?a ?l ?c ?k fun _ _ _ _ _ _ us hl => match us, hl with | [_, _, _], _ => rfl⟩; (case a => k_is); (case l => k_is); (case c => k_is); (case k => k_is))
    (case D_behind => refine' ⟨_, _, Wk.df_mk KX G ?a ?l ?c ?k fun _ _ _ _ _ _ us hl => match us, hl with | [_, _, _], _ => rfl⟩; (case a => k_is); (case l => k_is); (case c => k_is); (case k => k_is))
    (case D_is_deed => refine' ⟨_, _, Wk.df_mk KX G ?a ?l ?c ?k fun _ _ _ _ _ _ us hl => match us, hl with | [_], _ => rfl⟩; (case a => k_is); (case l => k_is); (case c => k_is); (case k => k_is))
    (case D_is_possible => refine' ⟨_, _, Wk.df_mk KX G ?a ?l ?c ?k fun _ _ _ _ _ _ us hl => match us, hl with | [_, _], _ => rfl⟩; (case a => k_is); (case l => k_is); (case c => k_is); (case k => k_is))
    (case D_need_deed => refine' ⟨_, _, Wk.df_mk KX G ?a ?l ?c ?k fun _ _ _ _ _ _ us hl => match us, hl with | [_, _], _ => rfl⟩; (case a => k_is); (case l => k_is); (case c => k_is); (case k => k_is))
    (case D_after => refine' ⟨_, _, Wk.df_mk KX G ?a ?l ?c ?k fun _ _ _ _ _ _ us hl => match us, hl with | [_, _, _], _ => rfl⟩; (case a => k_is); (case l => k_is); (case c => k_is); (case k => k_is))
    (case D_drawL => refine' ⟨_, _, Wk.df_mk KX G ?a ?l ?c ?k fun _ _ _ _ _ _ us hl => match us, hl with | [_, _, _], _ => rfl⟩; (case a => k_is); (case l => k_is); (case c => k_is); (case k => k_is))
    (case D_pickL => refine' ⟨_, _, Wk.df_mk KX G ?a ?l ?c ?k fun _ _ _ _ _ _ us hl => match us, hl with | [_, _, _], _ => rfl⟩; (case a => k_is); (case l => k_is); (case c => k_is); (case k => k_is))
    (case D_keysL => refine' ⟨_, _, Wk.df_mk KX G ?a ?l ?c ?k fun _ _ _ _ _ _ us hl => match us, hl with | [_], _ => rfl⟩; (case a => k_is); (case l => k_is); (case c => k_is); (case k => k_is))
    (case D_pathL => refine' ⟨_, _, Wk.df_mk KX G ?a ?l ?c ?k fun _ _ _ _ _ _ us hl => match us, hl with | [_, _], _ => rfl⟩; (case a => k_is); (case l => k_is); (case c => k_is); (case k => k_is))
    (case D_plantL => refine' ⟨_, _, Wk.df_mk KX G ?a ?l ?c ?k fun _ _ _ _ _ _ us hl => match us, hl with | [_], _ => rfl⟩; (case a => k_is); (case l => k_is); (case c => k_is); (case k => k_is))
    (case D_orderL => refine' ⟨_, _, Wk.df_mk KX G ?a ?l ?c ?k fun _ _ _ _ _ _ us hl => match us, hl with | [_], _ => rfl⟩; (case a => k_is); (case l => k_is); (case c => k_is); (case k => k_is))
    (case D_turnL => refine' ⟨_, _, Wk.df_mk KX G ?a ?l ?c ?k fun _ _ _ _ _ _ us hl => match us, hl with | [_, _], _ => rfl⟩; (case a => k_is); (case l => k_is); (case c => k_is); (case k => k_is))
    (case D_leafL => refine' ⟨_, _, Wk.df_mk KX G ?a ?l ?c ?k fun _ _ _ _ _ _ us hl => match us, hl with | [_, _], _ => rfl⟩; (case a => k_is); (case l => k_is); (case c => k_is); (case k => k_is))
    (case D_partL => refine' ⟨_, _, Wk.df_mk KX G ?a ?l ?c ?k fun _ _ _ _ _ _ us hl => match us, hl with | [_, _], _ => rfl⟩; (case a => k_is); (case l => k_is); (case c => k_is); (case k => k_is))
    (case D_putL => refine' ⟨_, _, Wk.df_mk KX G ?a ?l ?c ?k fun _ _ _ _ _ _ us hl => match us, hl with | [_, _, _], _ => rfl⟩; (case a => k_is); (case l => k_is); (case c => k_is); (case k => k_is))
    (case D_outL => refine' ⟨_, _, Wk.df_mk KX G ?a ?l ?c ?k fun _ _ _ _ _ _ us hl => match us, hl with | [_, _], _ => rfl⟩; (case a => k_is); (case l => k_is); (case c => k_is); (case k => k_is))
    (case D_heavyL => refine' ⟨_, _, Wk.df_mk KX G ?a ?l ?c ?k fun _ _ _ _ _ _ us hl => match us, hl with | [_, _, _], _ => rfl⟩; (case a => k_is); (case l => k_is); (case c => k_is); (case k => k_is))
    (case D_innerL => refine' ⟨_, _, Wk.df_mk KX G ?a ?l ?c ?k fun _ _ _ _ _ _ us hl => match us, hl with | [_, _, _], _ => rfl⟩; (case a => k_is); (case l => k_is); (case c => k_is); (case k => k_is))
    (case D_fixedL => refine' ⟨_, _, Wk.df_mk KX G ?a ?l ?c ?k fun _ _ _ _ _ _ us hl => match us, hl with | [_, _, _], _ => rfl⟩; (case a => k_is); (case l => k_is); (case c => k_is); (case k => k_is))
    (case D_setL => refine' ⟨_, _, Wk.df_mk KX G ?a ?l ?c ?k fun _ _ _ _ _ _ us hl => match us, hl with | [_, _, _], _ => rfl⟩; (case a => k_is); (case l => k_is); (case c => k_is); (case k => k_is))
    (case D_movedL => refine' ⟨_, _, Wk.df_mk KX G ?a ?l ?c ?k fun _ _ _ _ _ _ us hl => match us, hl with | [_, _, _], _ => rfl⟩; (case a => k_is); (case l => k_is); (case c => k_is); (case k => k_is))
    (case D_inL => refine' ⟨_, _, Wk.df_mk KX G ?a ?l ?c ?k fun _ _ _ _ _ _ us hl => match us, hl with | [_, _, _], _ => rfl⟩; (case a => k_is); (case l => k_is); (case c => k_is); (case k => k_is))
    (case D_afterL => refine' ⟨_, _, Wk.df_mk KX G ?a ?l ?c ?k fun _ _ _ _ _ _ us hl => match us, hl with | [_, _, _], _ => rfl⟩; (case a => k_is); (case l => k_is); (case c => k_is); (case k => k_is))
    (case D_deedL => refine' ⟨_, _, Wk.df_mk KX G ?a ?l ?c ?k fun _ _ _ _ _ _ us hl => match us, hl with | [_, _, _, _], _ => rfl⟩; (case a => k_is); (case l => k_is); (case c => k_is); (case k => k_is))
    (case D_law => refine' ⟨_, _, Wk.df_mk KX G ?a ?l ?c ?k fun _ _ _ _ _ _ us hl => match us, hl with | [_], _ => rfl⟩; (case a => k_is); (case l => k_is); (case c => k_is); (case k => k_is))
    (case z_len => exact PySem.W.mg_none_of KX G (by k_is))
    (case z_isinstance => exact PySem.W.mg_none_of KX G (by k_is))
    (case z_int => exact PySem.W.mg_none_of KX G (by k_is))
    (case z_bool => exact PySem.W.mg_none_of KX G (by k_is))
    (case z_tuple => exact PySem.W.mg_none_of KX G (by k_is))
    (case z_str => exact PySem.W.mg_none_of KX G (by k_is))
    (case z_range => exact PySem.W.mg_none_of KX G (by k_is))
    (case m_MOST => refine' Wk.most_mk KX G ?a; (case a => k_is))
    (case m_FAM => refine' Wk.fam_mk KX G ?a ?l; (case a => k_is); (case l => k_is)))
