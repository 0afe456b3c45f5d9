import PyProof.Rows.All
import Wide.All
import OpenK.AllK
import Wide.FinOn
import HandS.ForMost
import HandS.SortInts
import HandS.IsInst
import HandS.More
import HandS.Style
import HandS.Exc
import HandS.ExcOwn
import HandS.TryOnly
import HandS.Flow
import HandS.Wide
import HandS.WideMore
import HandS.TupAny
import HandS.Codes
import HandS.Walk
import HandS.Set
import HandS.SetFor
import HandS.Zip
import PySem.Challenge.RW_versiontables_k75_fetch_wants
set_option Elab.async false
set_option linter.all false
set_option maxRecDepth 100000
set_option maxHeartbeats 4000000
/-! The generic part: a def, a method, a class as callers use them; what a call leaves of the heap. -/
namespace My
open PySem L2 TL
abbrev NCX : CXT := CX0
/-- the def x keeps the promise sp -/
structure Def (P : Program) (w : World) (K : PySem.W.Frag) (mg : Str → Option Value) (base : Heap) (k : Nat) (x : Str) (ps : List Str) (sp : Sp) : Prop where
  ex : ∃ (f : Addr) (fd : FuncData), FnOk P w K mg base CX0 k f fd ps sp ∧ mg x = some (.ref f) ∧ PySem.W.keepIn K (.ref f) = true ∧ Binds K fd ps []
structure MDef (P : Program) (w : World) (K : PySem.W.Frag) (mg : Str → Option Value) (base : Heap) (k : Nat) (C : Addr) (m : Str) (ps : List Str) (sp : Sp) : Prop where
  cl : Cls K C
  ex : ∃ (f : Addr) (fd : FuncData), FnOk P w K mg base CX0 k f fd ps sp ∧ Meth K C m f ∧ Binds K fd ps []
structure CDef (P : Program) (w : World) (K : PySem.W.Frag) (mg : Str → Option Value) (base : Heap) (k : Nat) (x : Str) (C : Addr) (ps : List Str) (sp : Sp) : Prop where
  ex : ∃ (f : Addr) (fd : FuncData), FnOk P w K mg base CX0 k f fd ps sp ∧ Mk K C f ∧ mg x = some (.ref C) ∧ Binds K fd ps []
section
variable {X : Cx} {k kr : Nat} {x m : Str} {C : Addr} {ps : List Str} {sp : Sp} {p pos apos : Pos} {e o : Expr} {es : List Expr} {ta : TE} {t : TA}
theorem Def.call (D : Def X.prog X.w X.K X.mg X.base k x ps sp) (hr : Room kr X.A) (hk : k ≤ kr) (ha : PA X (e :: es) t) (hg : Gl X x := by rfl)
    (hdb : (x == ("__debug__" : Str)) = false := by decide) (he : starEach (e :: es) X.env = (false, eval e X.env) :: starEach es X.env := by rfl) (hpl : (backTo pos (starEach es X.env)).any (·.1) = false := by rfl) :
    PE X (.Call (.Name x p) (e :: es) [] pos) (tCall sp [] E0 t) := by
  obtain ⟨f, fd, F, hm, hkp, hb⟩ := D.ex
  exact pe_call F (hr.mono hk) hg hm hkp hb .nil pass0 ha hdb he hpl
theorem Def.call0 (D : Def X.prog X.w X.K X.mg X.base k x ps sp) (hr : Room kr X.A) (hk : k ≤ kr) (hg : Gl X x := by rfl)
    (hdb : (x == ("__debug__" : Str)) = false := by decide) : PE X (.Call (.Name x p) [] [] pos) (tCall sp [] E0 tNil) := by
  obtain ⟨f, fd, F, hm, hkp, hb⟩ := D.ex
  exact pe_call0 F (hr.mono hk) hg hm hkp hb .nil pass0 hdb
theorem MDef.call {pl : Sem Bool} (D : MDef X.prog X.w X.K X.mg X.base k C m ps sp) (hr : Room kr X.A) (hk : k ≤ kr) (ho : PE X o ta) (ha : PA X (e :: es) t)
    (hst : starEach (e :: es) X.env = (false, eval e X.env) :: starEach es X.env := by rfl) (hpl : (backTo pos (starEach es X.env)).any (·.1) = false := by rfl)
    (ht : eval (.Call (.Attribute o m apos) (e :: es) [] pos) X.env = (do
      let ov ← eval o X.env
      standAt apos.atName
      let (f, first) ← holding [ov] (getMethod ov m pl)
      callWith pos f first (backTo pos (starEach (e :: es) X.env)) (backToKw pos (keywordEach [] X.env))) := by rfl) :
    PE X (.Call (.Attribute o m apos) (e :: es) [] pos) (tMeth C m sp [] E0 ta t) := by
  obtain ⟨f, fd, F, hm, hb⟩ := D.ex
  exact pe_meth ho D.cl hm F (hr.mono hk) hb .nil pass0 ha hst hpl ht
theorem MDef.call0 {pl : Sem Bool} (D : MDef X.prog X.w X.K X.mg X.base k C m ps sp) (hr : Room kr X.A) (hk : k ≤ kr) (ho : PE X o ta)
    (ht : eval (.Call (.Attribute o m apos) [] [] pos) X.env = (do
      let ov ← eval o X.env
      standAt apos.atName
      let (f, first) ← holding [ov] (getMethod ov m pl)
      callWith pos f first (backTo pos (starEach [] X.env)) (backToKw pos (keywordEach [] X.env))) := by rfl) :
    PE X (.Call (.Attribute o m apos) [] [] pos) (tMeth C m sp [] E0 ta tNil) := by
  obtain ⟨f, fd, F, hm, hb⟩ := D.ex
  exact pe_meth0 ho D.cl hm F (hr.mono hk) hb .nil pass0 ht
theorem CDef.make (D : CDef X.prog X.w X.K X.mg X.base k x C ps sp) (hr : Room kr X.A) (hk : k + 1 ≤ kr) (ha : PA X (e :: es) t) (hg : Gl X x := by rfl)
    (hdb : (x == ("__debug__" : Str)) = false := by decide) (he : starEach (e :: es) X.env = (false, eval e X.env) :: starEach es X.env := by rfl) (hpl : (backTo pos (starEach es X.env)).any (·.1) = false := by rfl) :
    PE X (.Call (.Name x p) (e :: es) [] pos) (tMake C sp [] E0 t) := by
  obtain ⟨f, fd, F, hM, hm, hb⟩ := D.ex
  exact pe_make hM F (hr.mono hk) hg hm hb .nil pass0 ha hdb he hpl
theorem CDef.make0 (D : CDef X.prog X.w X.K X.mg X.base k x C ps sp) (hr : Room kr X.A) (hk : k + 1 ≤ kr) (hg : Gl X x := by rfl)
    (hdb : (x == ("__debug__" : Str)) = false := by decide) : PE X (.Call (.Name x p) [] [] pos) (tMake C sp [] E0 tNil) := by
  obtain ⟨f, fd, F, hM, hm, hb⟩ := D.ex
  exact pe_make0 hM F (hr.mono hk) hg hm hb .nil pass0 hdb
end
theorem Def.mono {P : Program} {w : World} {K : PySem.W.Frag} {mg : Str → Option Value} {base : Heap} {j k : Nat} {x : Str} {ps : List Str} {sp : Sp} (D : Def P w K mg base j x ps sp) (h : j ≤ k) : Def P w K mg base k x ps sp := by
  obtain ⟨f, fd, F, r⟩ := D.ex
  exact ⟨f, fd, F.mono h, r⟩
theorem Def.imp {P : Program} {w : World} {K : PySem.W.Frag} {mg : Str → Option Value} {base : Heap} {k : Nat} {x : Str} {ps : List Str} {sp sp' : Sp} (D : Def P w K mg base k x ps sp) (h : ∀ vs H Q E, sp' vs H Q E → sp vs H Q E) : Def P w K mg base k x ps sp' := by
  obtain ⟨f, fd, F, r⟩ := D.ex
  exact ⟨f, fd, F.imp h, r⟩

/-! ### what a call leaves: all but the objects at ex; the tuples stay -/
structure Kp (ex : Addr → Prop) (H H' : Hp) : Prop where
  old : ∀ b o, H b = some o → ¬ ex b → H' b = some o
  tup : ∀ b xs, H b = some (.tup xs) → H' b = some (.tup xs)
section
variable {ex ex' : Addr → Prop} {H H' H1 H2 : Hp} {p : Addr} {o : HO}
theorem Kp.refl : Kp ex H H := ⟨fun _ _ h _ => h, fun _ _ h => h⟩
theorem Kp.trans (a : Kp ex H H1) (b : Kp ex H1 H2) : Kp ex H H2 := ⟨fun c u h n => b.old c u (a.old c u h n) n, fun c xs h => b.tup c xs (a.tup c xs h)⟩
theorem Kp.mono (a : Kp ex H H1) (h : ∀ b, ex b → ex' b) : Kp ex' H H1 := ⟨fun c u e n => a.old c u e fun z => n (h c z), a.tup⟩
theorem Kp.same (a : Same H H1) : Kp ex H H1 := ⟨fun c u e _ => a c u e, fun c xs e => a c _ e⟩
/-- nothing that was tracked changes -/
theorem Kp.toSame (a : Kp (fun _ => False) H H1) : Same H H1 := fun b u e => a.old b u e id
theorem Kp.new (a : Kp ex H H1) (h : H1 p = none) : Kp ex H (upd H1 p o) := ⟨fun c u e n => by rw [upd_ne (ne_of_none (a.old c u e n) h)]; exact a.old c u e n, fun c xs e => by rw [upd_ne (ne_of_none (a.tup c xs e) h)]; exact a.tup c xs e⟩
/-- an object that was not tracked at H changes -/
theorem Kp.mut (a : Kp ex H H1) (h : H p = none) : Kp ex H (upd H1 p o) := ⟨fun c u e n => by rw [upd_ne (ne_of_none e h)]; exact a.old c u e n, fun c xs e => by rw [upd_ne (ne_of_none e h)]; exact a.tup c xs e⟩
/-- an object of ex, no tuple, changes -/
theorem Kp.set (a : Kp ex H H1) (h : ex p) (ht : ∀ xs, H p ≠ some (.tup xs)) : Kp ex H (upd H1 p o) := ⟨fun c u e n => by
  have q : c ≠ p := fun z => n (by rw [z]; exact h)
  rw [upd_ne q]
  exact a.old c u e n, fun c xs e => by
  have q : c ≠ p := fun z => ht xs (by rw [← z]; exact e)
  rw [upd_ne q]
  exact a.tup c xs e⟩
theorem Kp.free (a : Kp ex H H1) (h : H1 p = none) (n : ¬ ex p) : H p = none := by
  cases q : H p with
  | none => rfl
  | some u => rw [a.old p u q n] at h; cases h
theorem same_new {H : Hp} {p : Addr} (h : H p = none) (o : HO) : Same H (upd H p o) := fun b u q => by rw [upd_ne (ne_of_none q h)]; exact q
theorem same_mut {H H1 : Hp} {p : Addr} (a : Same H H1) (h : H p = none) (o : HO) : Same H (upd H1 p o) := fun b u q => by rw [upd_ne (ne_of_none q h)]; exact a b u q
end
theorem sz {n : Nat} (h : n ≤ 1000000) : n ≤ sizeLine := Nat.le_trans h (by decide)
theorem szlt {n : Nat} (h : n < 1000000) : n < sizeLine := Nat.lt_of_lt_of_le h (by decide)
end My
set_option Elab.async false
set_option linter.all false
set_option maxRecDepth 100000
set_option maxHeartbeats 4000000
/-! The mathematics of written items. -/
namespace My
open PySem L2 TL
theorem split_at {c : Nat} : ∀ {a b r s : List Nat}, c ∉ a → c ∉ b → a ++ c :: r = b ++ c :: s → a = b ∧ r = s
  | [], [], r, s, _, _, h => by
    simp at h
    exact ⟨rfl, h⟩
  | [], y :: b, r, s, _, hb, h => by
    simp at h
    exact absurd (by rw [h.1]; exact List.mem_cons_self) hb
  | x :: a, [], r, s, ha, _, h => by
    simp at h
    exact absurd (by rw [← h.1]; exact List.mem_cons_self) ha
  | x :: a, y :: b, r, s, ha, hb, h => by
    have h' : x = y ∧ a ++ c :: r = b ++ c :: s := by simpa using h
    obtain ⟨e, h2⟩ := h'
    obtain ⟨e2, e3⟩ := split_at (a := a) (b := b) (fun z => ha (List.mem_cons_of_mem _ z)) (fun z => hb (List.mem_cons_of_mem _ z)) h2
    exact ⟨by rw [e, e2], e3⟩
theorem split_len {a b r s : List Nat} (h : a ++ r = b ++ s) (hl : a.length = b.length) : a = b ∧ r = s := List.append_inj h hl
/-- the digits of an int -/
def numI (i : Int) : List Nat := if i < 0 then 45 :: numL i.natAbs else numL i.natAbs
theorem numI_nat (n : Nat) : numI (n : Int) = numL n := by
  unfold numI
  rw [if_neg (by omega)]
  rfl
theorem numI_free {i : Int} {s : Nat} (h : s < 48 ∨ 57 < s) (h2 : s ≠ 45) : s ∉ numI i := by
  unfold numI
  split
  · intro z
    rcases List.mem_cons.mp z with e | e
    · exact h2 e
    · exact numL_free h e
  · exact numL_free h
theorem numL_no45 (n : Nat) : 45 ∉ numL n := numL_free (by omega)
theorem numI_inj {i j : Int} (h : numI i = numI j) : i = j := by
  unfold numI at h
  by_cases hi : i < 0
  · rw [if_pos hi] at h
    by_cases hj : j < 0
    · rw [if_pos hj] at h
      have e := numL_inj (List.cons.inj h).2
      omega
    · rw [if_neg hj] at h
      exact absurd (by rw [← h]; exact List.mem_cons_self) (numL_no45 j.natAbs)
  · rw [if_neg hi] at h
    by_cases hj : j < 0
    · rw [if_pos hj] at h
      exact absurd (by rw [h]; exact List.mem_cons_self) (numL_no45 i.natAbs)
    · rw [if_neg hj] at h
      have e := numL_inj h
      omega
theorem tl_ofString (s : String) : tl (Str.ofString s) = s.toList.map Char.toNat := by
  rw [Str.ofString_eq_toList]
theorem tl_int (i : Int) : tl (Str.ofString (toString i)) = numI i := by
  cases i with
  | ofNat n =>
    rw [show (Int.ofNat n) = ((n : Nat) : Int) from rfl, numI_nat]
    exact tl_num n
  | negSucc n =>
    have e : toString (Int.negSucc n) = "-" ++ toString (n + 1) := rfl
    have e2 : tl (Str.ofString (toString (n + 1))) = numL (n + 1) := tl_num (n + 1)
    rw [e, tl_ofString, String.toList_append, List.map_append]
    rw [tl_ofString] at e2
    rw [e2]
    unfold numI
    rw [if_pos (Int.negSucc_lt_zero n)]
    rfl
/-- the first digit is no 0 but of 0 itself -/
theorem numL_head (n : Nat) : (numL n).length = 1 ∨ ∃ c r, numL n = c :: r ∧ c ≠ 48 := by
  induction n using Nat.strongRecOn with
  | _ n ih =>
    by_cases h : n < 10
    · rw [numL_lt h]
      exact .inl rfl
    · right
      rw [numL_step (by omega)]
      by_cases h2 : n / 10 < 10
      · rw [numL_lt h2]
        exact ⟨48 + n / 10, [48 + n % 10], rfl, by omega⟩
      · rcases ih (n / 10) (by omega) with e | ⟨c, r, e, ne⟩
        · exfalso
          rw [numL_step (by omega), List.length_append, List.length_singleton] at e
          have := numL_ne (n / 10 / 10)
          have l : 0 < (numL (n / 10 / 10)).length := List.length_pos_iff.mpr this
          omega
        · rw [e]
          exact ⟨c, r ++ [48 + n % 10], rfl, ne⟩
theorem numL_pos (n : Nat) (h : 0 < n) : ∃ c r, numL n = c :: r ∧ c ≠ 48 := by
  rcases numL_head n with e | e
  · by_cases h2 : n < 10
    · rw [numL_lt h2]
      exact ⟨48 + n, [], rfl, by omega⟩
    · exfalso
      rw [numL_step (by omega), List.length_append, List.length_singleton] at e
      have l : 0 < (numL (n / 10)).length := List.length_pos_iff.mpr (numL_ne (n / 10))
      omega
  · exact e

/-- an item -/
inductive D where
  | non
  | int (i : Int)
  | str (z : Str)
  | tup (ds : List D)
mutual
/-- its written form -/
def D.enc : D → List Nat
  | .non => [110]
  | .int i => 105 :: (numI i ++ [59])
  | .str z => 116 :: (numL z.length ++ 58 :: tl z)
  | .tup ds => 40 :: (D.encA ds ++ [41])
def D.encA : List D → List Nat
  | [] => []
  | d :: ds => d.enc ++ D.encA ds
end
mutual
def D.dep : D → Nat
  | .tup ds => D.depA ds + 1
  | .non => 0
  | .int _ => 0
  | .str _ => 0
def D.depA : List D → Nat
  | [] => 0
  | d :: ds => max d.dep (D.depA ds)
end
mutual
def D.Good : D → Prop
  | .non => True
  | .int i => i.natAbs < 10 ^ 60
  | .str z => z.length < 10 ^ 6
  | .tup ds => D.GoodA ds
def D.GoodA : List D → Prop
  | [] => True
  | d :: ds => d.Good ∧ D.GoodA ds
end
/-- the first sign of a written item -/
theorem enc_head : ∀ d : D, ∃ c r, d.enc = c :: r ∧ c ≠ 41
  | .non => ⟨_, _, D.enc.eq_1, by decide⟩
  | .int _ => ⟨_, _, D.enc.eq_2 .., by decide⟩
  | .str _ => ⟨_, _, D.enc.eq_3 .., by decide⟩
  | .tup _ => ⟨_, _, D.enc.eq_4 .., by decide⟩
mutual
theorem enc_split : ∀ (d e : D) (r s : List Nat), d.enc ++ r = e.enc ++ s → d = e ∧ r = s
  | .non, e, r, s, h => by
    cases e with
    | non => simp only [D.enc] at h; exact ⟨rfl, by simpa using h⟩
    | int i => simp only [D.enc] at h; simp at h
    | str i => simp only [D.enc] at h; simp at h
    | tup i => simp only [D.enc] at h; simp at h
  | .int i, e, r, s, h => by
    cases e with
    | non => simp only [D.enc] at h; simp at h
    | int j =>
      simp only [D.enc] at h
      have h' : numI i ++ 59 :: r = numI j ++ 59 :: s := by simpa using h
      obtain ⟨e1, e2⟩ := split_at (numI_free (by omega) (by omega)) (numI_free (by omega) (by omega)) h'
      exact ⟨by rw [numI_inj e1], e2⟩
    | str i => simp only [D.enc] at h; simp at h
    | tup i => simp only [D.enc] at h; simp at h
  | .str z, e, r, s, h => by
    cases e with
    | non => simp only [D.enc] at h; simp at h
    | int j => simp only [D.enc] at h; simp at h
    | str y =>
      simp only [D.enc] at h
      have h' : numL z.length ++ 58 :: (tl z ++ r) = numL y.length ++ 58 :: (tl y ++ s) := by simpa using h
      obtain ⟨e1, e2⟩ := split_at (numL_free (by omega)) (numL_free (by omega)) h'
      have e3 := numL_inj e1
      obtain ⟨e4, e5⟩ := split_len e2 (by rw [← len_tl, ← len_tl]; exact e3)
      have e6 : z = y := by rw [← mk_tl z, ← mk_tl y, e4]
      exact ⟨by rw [e6], e5⟩
    | tup i => simp only [D.enc] at h; simp at h
  | .tup ds, e, r, s, h => by
    cases e with
    | non => simp only [D.enc] at h; simp at h
    | int j => simp only [D.enc] at h; simp at h
    | str y => simp only [D.enc] at h; simp at h
    | tup es =>
      simp only [D.enc] at h
      have h' : D.encA ds ++ 41 :: r = D.encA es ++ 41 :: s := by simpa using h
      obtain ⟨e1, e2⟩ := encA_split ds es r s h'
      exact ⟨by rw [e1], e2⟩
theorem encA_split : ∀ (ds es : List D) (r s : List Nat), D.encA ds ++ 41 :: r = D.encA es ++ 41 :: s → ds = es ∧ r = s
  | [], es, r, s, h => by
    cases es with
    | nil => simp only [D.encA] at h; exact ⟨rfl, by simpa using h⟩
    | cons e es =>
      simp only [D.encA] at h
      obtain ⟨c, q, e1, ne⟩ := enc_head e
      rw [e1] at h
      simp at h
      exact absurd h.1.symm ne
  | d :: ds, es, r, s, h => by
    cases es with
    | nil =>
      simp only [D.encA] at h
      obtain ⟨c, q, e1, ne⟩ := enc_head d
      rw [e1] at h
      simp at h
      exact absurd h.1 ne
    | cons e es =>
      simp only [D.encA] at h
      have h' : d.enc ++ (D.encA ds ++ 41 :: r) = e.enc ++ (D.encA es ++ 41 :: s) := by simpa using h
      obtain ⟨e1, e2⟩ := enc_split d e _ _ h'
      obtain ⟨e3, e4⟩ := encA_split ds es r s e2
      exact ⟨by rw [e1, e3], e4⟩
end
theorem enc_inj {d e : D} (h : d.enc = e.enc) : d = e := (enc_split d e [] [] (by rw [h])).1
/-- a text of codes -/
abbrev tx (l : List Nat) : Str := ⟨l.toArray⟩
theorem tx_inj {a b : List Nat} (h : tx a = tx b) : a = b := by
  have := congrArg tl h
  exact this
theorem tx_len (l : List Nat) : (tx l).length = l.length := by rw [len_tl]
mutual
/-- how an item stands in the heap -/
inductive Rp (H : Hp) : V → D → Prop
  | non : Rp H .non .non
  | int (i : Int) : Rp H (.int i) (.int i)
  | str (z : Str) : Rp H (.str z) (.str z)
  | tup {a : Addr} {xs : List V} {ds : List D} : H a = some (.tup xs) → RpA H xs ds → Rp H (.ref a) (.tup ds)
inductive RpA (H : Hp) : List V → List D → Prop
  | nil : RpA H [] []
  | cons {v : V} {vs : List V} {d : D} {ds : List D} : Rp H v d → RpA H vs ds → RpA H (v :: vs) (d :: ds)
end
mutual
theorem Rp.mono {H H' : Hp} (k : ∀ b xs, H b = some (.tup xs) → H' b = some (.tup xs)) : ∀ (d : D) (v : V), Rp H v d → Rp H' v d
  | .non, _, h => by cases h; exact .non
  | .int i, _, h => by cases h; exact .int i
  | .str z, _, h => by cases h; exact .str z
  | .tup ds, _, h => by
    cases h with
    | tup h1 h2 => exact .tup (k _ _ h1) (RpA.mono k ds _ h2)
theorem RpA.mono {H H' : Hp} (k : ∀ b xs, H b = some (.tup xs) → H' b = some (.tup xs)) : ∀ (ds : List D) (vs : List V), RpA H vs ds → RpA H' vs ds
  | [], _, h => by cases h; exact .nil
  | d :: ds, _, h => by
    cases h with
    | cons h1 h2 => exact .cons (Rp.mono k d _ h1) (RpA.mono k ds _ h2)
end
theorem RpA.length {H : Hp} : ∀ {ds : List D} {vs : List V}, RpA H vs ds → vs.length = ds.length
  | [], _, h => by cases h; rfl
  | d :: ds, _, h => by
    cases h with
    | cons h1 h2 => exact congrArg (· + 1) h2.length
theorem RpA.get {H : Hp} : ∀ {ds : List D} {vs : List V} {i : Nat} {v : V}, RpA H vs ds → vs[i]? = some v → ∃ d, ds[i]? = some d ∧ Rp H v d
  | [], _, i, v, h, e => by cases h; simp at e
  | d :: ds, _, 0, v, h, e => by
    cases h with
    | cons h1 h2 =>
      simp at e
      subst e
      exact ⟨d, rfl, h1⟩
  | d :: ds, _, i + 1, v, h, e => by
    cases h with
    | cons h1 h2 => exact h2.get (i := i) (by simpa using e)
theorem RpA.at {H : Hp} : ∀ {ds : List D} {vs : List V} {i : Nat} {d : D}, RpA H vs ds → ds[i]? = some d → ∃ v, vs[i]? = some v ∧ Rp H v d
  | [], _, i, v, h, e => by simp at e
  | d :: ds, _, 0, v, h, e => by
    cases h with
    | cons h1 h2 =>
      simp at e
      subst e
      exact ⟨_, rfl, h1⟩
  | d :: ds, _, i + 1, v, h, e => by
    cases h with
    | cons h1 h2 => exact h2.at (i := i) (by simpa using e)
theorem RpA.snoc {H : Hp} {v : V} {d : D} (hv : Rp H v d) : ∀ {ds : List D} {vs : List V}, RpA H vs ds → RpA H (vs ++ [v]) (ds ++ [d])
  | [], _, h => by cases h; exact .cons hv .nil
  | e :: ds, _, h => by
    cases h with
    | cons h1 h2 => exact .cons h1 (RpA.snoc hv h2)
theorem encA_app : ∀ (a b : List D), D.encA (a ++ b) = D.encA a ++ D.encA b
  | [], b => by simp [D.encA]
  | d :: a, b => by
    show d.enc ++ D.encA (a ++ b) = d.enc ++ D.encA a ++ D.encA b
    rw [encA_app a b, List.append_assoc]
theorem enc_pos (d : D) : 0 < d.enc.length := by
  obtain ⟨c, r, e, _⟩ := enc_head d
  rw [e]
  simp
theorem goodA_app : ∀ {a b : List D}, D.GoodA (a ++ b) ↔ D.GoodA a ∧ D.GoodA b
  | [], b => by simp [D.GoodA]
  | d :: a, b => by
    show d.Good ∧ D.GoodA (a ++ b) ↔ (d.Good ∧ D.GoodA a) ∧ D.GoodA b
    rw [goodA_app (a := a), and_assoc]
theorem depA_mem : ∀ {ds : List D} {d : D}, d ∈ ds → d.dep ≤ D.depA ds
  | [], d, h => by cases h
  | e :: ds, d, h => by
    show d.dep ≤ max e.dep (D.depA ds)
    rcases List.mem_cons.mp h with q | q
    · subst q; exact Nat.le_max_left _ _
    · exact Nat.le_trans (depA_mem q) (Nat.le_max_right _ _)
theorem goodA_mem : ∀ {ds : List D} {d : D}, D.GoodA ds → d ∈ ds → d.Good
  | [], d, _, h => by cases h
  | e :: ds, d, g, h => by
    rcases List.mem_cons.mp h with q | q
    · subst q; exact g.1
    · exact goodA_mem g.2 q
theorem goodA_of : ∀ {ds : List D}, (∀ d ∈ ds, d.Good) → D.GoodA ds
  | [], _ => trivial
  | e :: ds, h => ⟨h e List.mem_cons_self, goodA_of fun d q => h d (List.mem_cons_of_mem _ q)⟩
theorem depA_le : ∀ {ds : List D} {n : Nat}, (∀ d ∈ ds, d.dep ≤ n) → D.depA ds ≤ n
  | [], _, _ => Nat.zero_le _
  | e :: ds, n, h => Nat.max_le.mpr ⟨h e List.mem_cons_self, depA_le fun d q => h d (List.mem_cons_of_mem _ q)⟩
end My
set_option Elab.async false
set_option linter.all false
set_option maxRecDepth 100000
set_option maxHeartbeats 4000000
/-! Plain law: the search that both sides do, with a stack. -/
namespace My
/-- what is wanted, what is seen, what waits -/
structure Dfs where
  wd : List Int
  sn : List Int
  wt : List Int
section
variable (held kept : Int → Bool) (ch : Int → List Int)
def dstep (s : Dfs) : Dfs :=
  match s.wt.getLast? with
  | none => s
  | some a => if (decide (a ∈ s.sn) || held a) = true then ⟨s.wd, s.sn, s.wt.dropLast⟩
      else if kept a = true then ⟨s.wd, s.sn ++ [a], s.wt.dropLast ++ ch a⟩ else ⟨s.wd ++ [a], s.sn ++ [a], s.wt.dropLast⟩
def dfs : Nat → Dfs → Dfs
  | 0, s => s
  | n + 1, s => dfs n (dstep held kept ch s)
end
section
variable {held kept : Int → Bool} {ch : Int → List Int}
theorem dstep_nil {s : Dfs} (h : s.wt = []) : dstep held kept ch s = s := by
  unfold dstep
  rw [h]
  rfl
theorem dfs_nil {s : Dfs} (h : s.wt = []) : ∀ n, dfs held kept ch n s = s
  | 0 => rfl
  | n + 1 => by
    show dfs held kept ch n (dstep held kept ch s) = s
    rw [dstep_nil h]
    exact dfs_nil h n
theorem dfs_add : ∀ (m n : Nat) (s : Dfs), dfs held kept ch (m + n) s = dfs held kept ch n (dfs held kept ch m s)
  | 0, n, s => by rw [Nat.zero_add]; rfl
  | m + 1, n, s => by
    rw [Nat.add_right_comm]
    exact dfs_add m n (dstep held kept ch s)
theorem dfs_succ (n : Nat) (s : Dfs) : dfs held kept ch (n + 1) s = dstep held kept ch (dfs held kept ch n s) := dfs_add n 1 s
/-! ### it ends -/
def pots (ch : Int → List Int) : List Int → Nat
  | [] => 0
  | a :: U => 1 + (ch a).length + pots ch U
/-- what is not seen yet -/
def unsn (U sn : List Int) : List Int := U.filter fun a => !decide (a ∈ sn)
def pot (ch : Int → List Int) (U : List Int) (s : Dfs) : Nat := s.wt.length + pots ch (unsn U s.sn)
theorem pots_drop {a : Int} : ∀ {U sn : List Int}, a ∈ U → a ∉ sn → pots ch (unsn U (sn ++ [a])) + (1 + (ch a).length) ≤ pots ch (unsn U sn)
  | [], sn, h, _ => by cases h
  | b :: U, sn, h, hn => by
    have mono : ∀ V : List Int, pots ch (unsn V (sn ++ [a])) ≤ pots ch (unsn V sn) := by
      intro V
      induction V with
      | nil => exact Nat.le_refl _
      | cons c V ih =>
        unfold unsn at *
        rw [List.filter_cons, List.filter_cons]
        by_cases hc : c ∈ sn
        · rw [if_neg (by simp [hc]), if_neg (by simp [hc])]
          exact ih
        · rw [if_pos (show (!decide (c ∈ sn)) = true by simp [hc])]
          by_cases hca : c = a
          · rw [if_neg (by simp [hca])]
            exact Nat.le_trans ih (Nat.le_add_left _ _)
          · rw [if_pos (by simp [hc, hca])]
            exact Nat.add_le_add_left ih _
    unfold unsn at *
    rw [List.filter_cons, List.filter_cons]
    by_cases hb : b = a
    · subst hb
      rw [if_neg (by simp), if_pos (by simp [hn])]
      have := mono U
      show pots ch _ + (1 + (ch b).length) ≤ 1 + (ch b).length + pots ch _
      omega
    · have h' : a ∈ U := by
        rcases List.mem_cons.mp h with e | e
        · exact absurd e.symm hb
        · exact e
      have ih := pots_drop (U := U) (sn := sn) h' hn
      unfold unsn at ih
      by_cases hc : b ∈ sn
      · rw [if_neg (by simp [hc]), if_neg (by simp [hc])]
        exact ih
      · rw [if_pos (by simp [hc, hb]), if_pos (by simp [hc])]
        show 1 + (ch b).length + pots ch _ + _ ≤ 1 + (ch b).length + pots ch _
        omega
/-- the universe: what waits lies in it; with each kept one its children -/
def In (kept : Int → Bool) (ch : Int → List Int) (U : List Int) (s : Dfs) : Prop := (∀ a ∈ s.wt, a ∈ U) ∧ ∀ a ∈ U, kept a = true → ∀ c ∈ ch a, c ∈ U
theorem last_split {l : List Int} (h : l ≠ []) : ∃ a, l.getLast? = some a ∧ l = l.dropLast ++ [a] := by
  refine ⟨l.getLast h, List.getLast?_eq_some_getLast h, (List.dropLast_concat_getLast h).symm⟩
theorem dstep_in {U : List Int} {s : Dfs} (h : In kept ch U s) : In kept ch U (dstep held kept ch s) := by
  by_cases hn : s.wt = []
  · rw [dstep_nil hn]
    exact h
  · obtain ⟨a, e1, e2⟩ := last_split hn
    have ha : a ∈ U := h.1 a (by rw [e2]; simp)
    have hr : ∀ b ∈ s.wt.dropLast, b ∈ U := fun b hb => h.1 b (List.dropLast_subset _ hb)
    unfold dstep
    rw [e1]
    show In kept ch U (if _ then _ else _)
    split
    · exact ⟨hr, h.2⟩
    · split
      · next hk =>
        refine ⟨fun b hb => ?_, h.2⟩
        rcases List.mem_append.mp hb with q | q
        · exact hr b q
        · exact h.2 a ha hk b q
      · exact ⟨hr, h.2⟩
theorem dstep_pot {U : List Int} {s : Dfs} (h : In kept ch U s) (hn : s.wt ≠ []) : pot ch U (dstep held kept ch s) < pot ch U s := by
  obtain ⟨a, e1, e2⟩ := last_split hn
  have ha : a ∈ U := h.1 a (by rw [e2]; simp)
  have hl : s.wt.length = s.wt.dropLast.length + 1 := by
    have := congrArg List.length e2
    simpa using this
  unfold dstep
  rw [e1]
  show pot ch U (if _ then _ else _) < _
  split
  · unfold pot
    show s.wt.dropLast.length + pots ch (unsn U s.sn) < s.wt.length + pots ch (unsn U s.sn)
    omega
  · next hc =>
    have hs : a ∉ s.sn := fun z => hc (by simp [z])
    have := pots_drop (ch := ch) ha hs
    split
    · unfold pot
      show (s.wt.dropLast ++ ch a).length + pots ch (unsn U (s.sn ++ [a])) < _
      rw [List.length_append]
      omega
    · unfold pot
      show s.wt.dropLast.length + pots ch (unsn U (s.sn ++ [a])) < _
      omega
theorem dfs_end {U : List Int} : ∀ (n : Nat) (s : Dfs), In kept ch U s → pot ch U s ≤ n → (dfs held kept ch n s).wt = []
  | 0, s, h, hp => by
    have : s.wt.length = 0 := by unfold pot at hp; omega
    exact List.length_eq_zero_iff.mp this
  | n + 1, s, h, hp => by
    by_cases hn : s.wt = []
    · rw [dfs_nil hn]
      exact hn
    · exact dfs_end n _ (dstep_in h) (by have := dstep_pot (held := held) h hn; omega)
/-- the end, whatever the number of steps -/
theorem dfs_same {U : List Int} {s : Dfs} (h : In kept ch U s) {m n : Nat} (hm : pot ch U s ≤ m) (hn : pot ch U s ≤ n) : dfs held kept ch m s = dfs held kept ch n s := by
  have key : ∀ k, pot ch U s ≤ k → dfs held kept ch k s = dfs held kept ch (pot ch U s) s := fun k hk => by
    obtain ⟨j, rfl⟩ := Nat.exists_eq_add_of_le hk
    rw [dfs_add, dfs_nil (dfs_end _ s h (Nat.le_refl _))]
  rw [key m hm, key n hn]
def start (tips : List Int) : Dfs := ⟨[], [], tips⟩
/-- the search's end -/
def fin (held kept : Int → Bool) (ch : Int → List Int) (U tips : List Int) : Dfs := dfs held kept ch (pot ch U (start tips)) (start tips)
theorem pots_le {c : Nat} : ∀ {U : List Int}, (∀ a ∈ U, (ch a).length ≤ c) → pots ch U ≤ (1 + c) * U.length
  | [], _ => Nat.zero_le _
  | a :: U, h => by
    have h1 := h a List.mem_cons_self
    have h2 := pots_le (U := U) fun b hb => h b (List.mem_cons_of_mem _ hb)
    show 1 + (ch a).length + pots ch U ≤ (1 + c) * (U.length + 1)
    rw [Nat.mul_add]
    omega
theorem pot_start {c : Nat} {U tips : List Int} (h : ∀ a ∈ U, (ch a).length ≤ c) : pot ch U (start tips) ≤ tips.length + (1 + c) * U.length := by
  unfold pot
  have e : unsn U (start tips).sn = U := by
    unfold unsn start
    simp
  rw [e]
  exact Nat.add_le_add_left (pots_le h) _
/-! ### what it finds -/
inductive Reach (ch : Int → List Int) (tips : List Int) : Int → Prop
  | tip {a : Int} : a ∈ tips → Reach ch tips a
  | step {a b : Int} : Reach ch tips a → b ∈ ch a → Reach ch tips b
structure Sound (held kept : Int → Bool) (ch : Int → List Int) (tips : List Int) (s : Dfs) : Prop where
  sn : s.sn.Nodup
  wd : s.wd.Nodup
  sub : ∀ a ∈ s.wd, a ∈ s.sn
  hld : ∀ a ∈ s.sn, held a = false
  wdk : ∀ a ∈ s.wd, kept a = false
  rest : ∀ a ∈ s.sn, kept a = false → a ∈ s.wd
  rs : ∀ a ∈ s.sn, Reach ch tips a
  rw : ∀ a ∈ s.wt, Reach ch tips a
  all : ∀ t ∈ tips, t ∈ s.sn ∨ held t = true ∨ t ∈ s.wt
  kids : ∀ a ∈ s.sn, kept a = true → ∀ c ∈ ch a, c ∈ s.sn ∨ held c = true ∨ c ∈ s.wt
theorem sound_start (tips : List Int) : Sound held kept ch tips (start tips) :=
  { sn := List.nodup_nil, wd := List.nodup_nil, sub := (fun a h => absurd h List.not_mem_nil), hld := (fun a h => absurd h List.not_mem_nil), wdk := (fun a h => absurd h List.not_mem_nil), rest := (fun a h => absurd h List.not_mem_nil),
    rs := (fun a h => absurd h List.not_mem_nil), rw := (fun a h => Reach.tip h), all := (fun t h => Or.inr (Or.inr h)), kids := (fun a h => absurd h List.not_mem_nil) }
theorem nodup_snoc {l : List Int} {a : Int} (h : l.Nodup) (ha : a ∉ l) : (l ++ [a]).Nodup := by
  rw [List.nodup_append]
  refine ⟨h, by simp, fun x hx y hy => ?_⟩
  rw [List.mem_singleton.mp hy]
  intro z
  exact ha (z ▸ hx)
theorem sound_step {tips : List Int} {s : Dfs} (h : Sound held kept ch tips s) : Sound held kept ch tips (dstep held kept ch s) := by
  by_cases hn : s.wt = []
  · rw [dstep_nil hn]
    exact h
  · obtain ⟨a, e1, e2⟩ := last_split hn
    have ham : a ∈ s.wt := by rw [e2]; simp
    have ra := h.rw a ham
    have hr : ∀ b ∈ s.wt.dropLast, b ∈ s.wt := fun b hb => List.dropLast_subset _ hb
    have spl : ∀ b ∈ s.wt, b ∈ s.wt.dropLast ∨ b = a := fun b hb => by
      rw [e2] at hb
      rcases List.mem_append.mp hb with q | q
      · exact .inl q
      · exact .inr (List.mem_singleton.mp q)
    unfold dstep
    rw [e1]
    show Sound held kept ch tips (if _ then _ else _)
    split
    · next hc =>
      have hc : a ∈ s.sn ∨ held a = true := by simpa using hc
      have to : ∀ b, (b ∈ s.sn ∨ held b = true ∨ b ∈ s.wt) → (b ∈ s.sn ∨ held b = true ∨ b ∈ s.wt.dropLast) := fun b hb => by
        rcases hb with q | q | q
        · exact .inl q
        · exact .inr (.inl q)
        · rcases spl b q with z | z
          · exact .inr (.inr z)
          · subst z
            rcases hc with y | y
            · exact .inl y
            · exact .inr (.inl y)
      exact ⟨h.sn, h.wd, h.sub, h.hld, h.wdk, h.rest, h.rs, fun b hb => h.rw b (hr b hb), fun t ht => to t (h.all t ht), fun b hb hk c hc => to c (h.kids b hb hk c hc)⟩
    · next hc =>
      have hs : a ∉ s.sn := fun z => hc (by simp [z])
      have hh : held a = false := by
        cases e : held a with
        | false => rfl
        | true => exact absurd (by simp [e]) hc
      have nw : a ∉ s.wd := fun z => hs (h.sub a z)
      split
      · next hk =>
        have to : ∀ b, (b ∈ s.sn ∨ held b = true ∨ b ∈ s.wt) → (b ∈ s.sn ++ [a] ∨ held b = true ∨ b ∈ s.wt.dropLast ++ ch a) := fun b hb => by
          rcases hb with q | q | q
          · exact .inl (List.mem_append_left _ q)
          · exact .inr (.inl q)
          · rcases spl b q with z | z
            · exact .inr (.inr (List.mem_append_left _ z))
            · exact .inl (by rw [z]; simp)
        refine ⟨nodup_snoc h.sn hs, h.wd, fun b hb => List.mem_append_left _ (h.sub b hb), fun b hb => ?_, h.wdk, fun b hb hkb => ?_, fun b hb => ?_, fun b hb => ?_, fun t ht => to t (h.all t ht), fun b hb hkb c hc => ?_⟩
        · rcases List.mem_append.mp hb with q | q
          · exact h.hld b q
          · rw [List.mem_singleton.mp q]; exact hh
        · rcases List.mem_append.mp hb with q | q
          · exact h.rest b q hkb
          · rw [List.mem_singleton.mp q, hk] at hkb; cases hkb
        · rcases List.mem_append.mp hb with q | q
          · exact h.rs b q
          · rw [List.mem_singleton.mp q]; exact ra
        · rcases List.mem_append.mp hb with q | q
          · exact h.rw b (hr b q)
          · exact .step ra q
        · rcases List.mem_append.mp hb with q | q
          · exact to c (h.kids b q hkb c hc)
          · rw [List.mem_singleton.mp q] at hc
            exact .inr (.inr (List.mem_append_right _ hc))
      · next hk =>
        have hk : kept a = false := by
          cases e : kept a with
          | false => rfl
          | true => exact absurd e hk
        have to : ∀ b, (b ∈ s.sn ∨ held b = true ∨ b ∈ s.wt) → (b ∈ s.sn ++ [a] ∨ held b = true ∨ b ∈ s.wt.dropLast) := fun b hb => by
          rcases hb with q | q | q
          · exact .inl (List.mem_append_left _ q)
          · exact .inr (.inl q)
          · rcases spl b q with z | z
            · exact .inr (.inr z)
            · exact .inl (by rw [z]; simp)
        refine ⟨nodup_snoc h.sn hs, nodup_snoc h.wd nw, fun b hb => ?_, fun b hb => ?_, fun b hb => ?_, fun b hb hkb => ?_, fun b hb => ?_, fun b hb => h.rw b (hr b hb), fun t ht => to t (h.all t ht), fun b hb hkb c hc => ?_⟩
        · rcases List.mem_append.mp hb with q | q
          · exact List.mem_append_left _ (h.sub b q)
          · exact List.mem_append_right _ q
        · rcases List.mem_append.mp hb with q | q
          · exact h.hld b q
          · rw [List.mem_singleton.mp q]; exact hh
        · rcases List.mem_append.mp hb with q | q
          · exact h.wdk b q
          · rw [List.mem_singleton.mp q]; exact hk
        · rcases List.mem_append.mp hb with q | q
          · exact List.mem_append_left _ (h.rest b q hkb)
          · exact List.mem_append_right _ q
        · rcases List.mem_append.mp hb with q | q
          · exact h.rs b q
          · rw [List.mem_singleton.mp q]; exact ra
        · rcases List.mem_append.mp hb with q | q
          · exact to c (h.kids b q hkb c hc)
          · rw [List.mem_singleton.mp q, hk] at hkb; cases hkb
theorem sound_dfs {tips : List Int} : ∀ (n : Nat) {s : Dfs}, Sound held kept ch tips s → Sound held kept ch tips (dfs held kept ch n s)
  | 0, _, h => h
  | n + 1, _, h => sound_dfs n (sound_step h)
theorem sound_fin (U tips : List Int) : Sound held kept ch tips (fin held kept ch U tips) := sound_dfs _ (sound_start tips)
theorem in_start {U tips : List Int} (ht : ∀ t ∈ tips, t ∈ U) (hc : ∀ a ∈ U, kept a = true → ∀ c ∈ ch a, c ∈ U) : In kept ch U (start tips) := ⟨ht, hc⟩
theorem fin_end {U tips : List Int} (h : In kept ch U (start tips)) : (fin held kept ch U tips).wt = [] := dfs_end _ _ h (Nat.le_refl _)
theorem in_dfs {U : List Int} : ∀ (n : Nat) {s : Dfs}, In kept ch U s → In kept ch U (dfs held kept ch n s)
  | 0, _, h => h
  | n + 1, _, h => in_dfs n (dstep_in h)
/-! ### sorted -/
theorem srt_uniq {a b : List Int} (hp : a.Perm b) (ha : a.Pairwise (· ≤ ·)) (hb : b.Pairwise (· ≤ ·)) : a = b := PySem.W.ksm_same hp ha hb
def srt (l : List Int) : List Int := l.mergeSort fun a b => decide (a ≤ b)
theorem srt_perm (l : List Int) : (srt l).Perm l := List.mergeSort_perm l _
theorem srt_le (l : List Int) : (srt l).Pairwise (· ≤ ·) := by
  have h := List.pairwise_mergeSort (le := fun a b : Int => decide (a ≤ b)) (fun a b c h1 h2 => by simp at *; omega) (fun a b => by simp; omega) l
  exact h.imp fun z => by simpa using z
theorem srt_of {a l : List Int} (hp : a.Perm l) (ha : a.Pairwise (· ≤ ·)) : a = srt l := srt_uniq (hp.trans (srt_perm l).symm) ha (srt_le l)
theorem srt_congr {a b : List Int} (h : a.Perm b) : srt a = srt b := srt_of ((srt_perm a).trans h) (srt_le a)
theorem mem_srt {a : Int} {l : List Int} : a ∈ srt l ↔ a ∈ l := (srt_perm l).mem_iff
theorem srt_nil {l : List Int} : srt l = [] ↔ l = [] := by
  constructor
  · intro h
    have := srt_perm l
    rw [h] at this
    exact this.nil_eq.symm
  · rintro rfl
    exact (srt_perm []).eq_nil
theorem srt_len (l : List Int) : (srt l).length = l.length := (srt_perm l).length_eq
/-- two lists without repetitions with the same members -/
theorem perm_of {a b : List Int} (ha : a.Nodup) (hb : b.Nodup) (h : ∀ x, x ∈ a ↔ x ∈ b) : a.Perm b := (List.perm_ext_iff_of_nodup ha hb).mpr h
theorem nodup_sub_len {a b : List Int} (ha : a.Nodup) (h : ∀ x ∈ a, x ∈ b) : a.length ≤ b.length := by
  induction a generalizing b with
  | nil => exact Nat.zero_le _
  | cons x a ih =>
    obtain ⟨h1, h2⟩ := List.nodup_cons.mp ha
    have hx := h x List.mem_cons_self
    have e := List.length_erase_of_mem hx
    have hp : 0 < b.length := List.length_pos_of_mem hx
    have := ih (b := b.erase x) h2 fun y hy => (List.mem_erase_of_ne (fun z => h1 (by rw [← z]; exact hy))).mpr (h y (List.mem_cons_of_mem _ hy))
    rw [List.length_cons]
    omega
end
end My
set_option Elab.async false
set_option linter.all false
set_option maxRecDepth 100000
set_option maxHeartbeats 4000000
namespace My
open PySem L2 TL
def topS (i : Nat) : Stmt := PySem.Challenge.pw_versiontables_k75_fetch_wants.main.body.getD i (.Pass ⟨0, 0, 0, 0⟩)
abbrev s_char_at : Stmt := topS 10
abbrev N_char_at : List Str := ["text", "index"]
theorem sc_char_at : FnScope N_char_at ["text", "index"] (defScope s_char_at) := ⟨rfl, rfl, rfl, by decide +kernel, rfl, by decide +kernel, by decide +kernel⟩
abbrev s_read_digits : Stmt := topS 11
abbrev N_read_digits : List Str := ["text", "index", "most", "end", "first"]
theorem sc_read_digits : FnScope N_read_digits ["text", "index", "most", "end"] (defScope s_read_digits) := ⟨rfl, rfl, rfl, by decide +kernel, rfl, by decide +kernel, by decide +kernel⟩
abbrev s_read_integer : Stmt := topS 12
abbrev N_read_integer : List Str := ["text", "index", "negative", "digits"]
theorem sc_read_integer : FnScope N_read_integer ["text", "index"] (defScope s_read_integer) := ⟨rfl, rfl, rfl, by decide +kernel, rfl, by decide +kernel, by decide +kernel⟩
abbrev s_read_text : Stmt := topS 13
abbrev N_read_text : List Str := ["text", "index", "digits", "end"]
theorem sc_read_text : FnScope N_read_text ["text", "index"] (defScope s_read_text) := ⟨rfl, rfl, rfl, by decide +kernel, rfl, by decide +kernel, by decide +kernel⟩
abbrev s_read_item : Stmt := topS 14
abbrev N_read_item : List Str := ["text", "index", "level", "char", "items", "item"]
theorem sc_read_item : FnScope N_read_item ["text", "index", "level"] (defScope s_read_item) := ⟨rfl, rfl, rfl, by decide +kernel, rfl, by decide +kernel, by decide +kernel⟩
abbrev s_decode_prefix : Stmt := topS 15
abbrev N_decode_prefix : List Str := ["text", "index"]
theorem sc_decode_prefix : FnScope N_decode_prefix ["text", "index"] (defScope s_decode_prefix) := ⟨rfl, rfl, rfl, by decide +kernel, rfl, by decide +kernel, by decide +kernel⟩
abbrev s_decode : Stmt := topS 16
abbrev N_decode : List Str := ["text", "item", "index"]
theorem sc_decode : FnScope N_decode ["text"] (defScope s_decode) := ⟨rfl, rfl, rfl, by decide +kernel, rfl, by decide +kernel, by decide +kernel⟩
abbrev s_children : Stmt := topS 18
abbrev N_children : List Str := ["text", "item", "entry", "table"]
theorem sc_children : FnScope N_children ["text"] (defScope s_children) := ⟨rfl, rfl, rfl, by decide +kernel, rfl, by decide +kernel, by decide +kernel⟩
abbrev s_Fetch_init : Stmt := inClass (topS 20) 0
abbrev N_Fetch_init : List Str := ["self", "chunks", "tips"]
theorem sc_Fetch_init : FnScope N_Fetch_init ["self", "chunks", "tips"] (defScope s_Fetch_init) := ⟨rfl, rfl, rfl, by decide +kernel, rfl, by decide +kernel, by decide +kernel⟩
abbrev s_Fetch_wants : Stmt := inClass (topS 20) 1
abbrev N_Fetch_wants : List Str := ["self", "wanted", "seen", "waiting", "address"]
theorem sc_Fetch_wants : FnScope N_Fetch_wants ["self"] (defScope s_Fetch_wants) := ⟨rfl, rfl, rfl, by decide +kernel, rfl, by decide +kernel, by decide +kernel⟩
abbrev s_Fetch_receive : Stmt := inClass (topS 20) 2
abbrev N_Fetch_receive : List Str := ["self", "address", "text"]
theorem sc_Fetch_receive : FnScope N_Fetch_receive ["self", "address", "text"] (defScope s_Fetch_receive) := ⟨rfl, rfl, rfl, by decide +kernel, rfl, by decide +kernel, by decide +kernel⟩
abbrev s_Fetch_finish : Stmt := inClass (topS 20) 3
abbrev N_Fetch_finish : List Str := ["self", "address"]
theorem sc_Fetch_finish : FnScope N_Fetch_finish ["self"] (defScope s_Fetch_finish) := ⟨rfl, rfl, rfl, by decide +kernel, rfl, by decide +kernel, by decide +kernel⟩
abbrev s_Book_init : Stmt := inClass (topS 22) 0
abbrev N_Book_init : List Str := ["self"]
theorem sc_Book_init : FnScope N_Book_init ["self"] (defScope s_Book_init) := ⟨rfl, rfl, rfl, by decide +kernel, rfl, by decide +kernel, by decide +kernel⟩
abbrev s_Book_address : Stmt := inClass (topS 22) 1
abbrev N_Book_address : List Str := ["self", "text"]
theorem sc_Book_address : FnScope N_Book_address ["self", "text"] (defScope s_Book_address) := ⟨rfl, rfl, rfl, by decide +kernel, rfl, by decide +kernel, by decide +kernel⟩
abbrev s_Book_find : Stmt := inClass (topS 22) 2
abbrev N_Book_find : List Str := ["self", "text"]
theorem sc_Book_find : FnScope N_Book_find ["self", "text"] (defScope s_Book_find) := ⟨rfl, rfl, rfl, by decide +kernel, rfl, by decide +kernel, by decide +kernel⟩
abbrev s_Book_len : Stmt := inClass (topS 22) 3
abbrev N_Book_len : List Str := ["self"]
theorem sc_Book_len : FnScope N_Book_len ["self"] (defScope s_Book_len) := ⟨rfl, rfl, rfl, by decide +kernel, rfl, by decide +kernel, by decide +kernel⟩
abbrev s_Chunks_init : Stmt := inClass (topS 24) 0
abbrev N_Chunks_init : List Str := ["self", "book"]
theorem sc_Chunks_init : FnScope N_Chunks_init ["self", "book"] (defScope s_Chunks_init) := ⟨rfl, rfl, rfl, by decide +kernel, rfl, by decide +kernel, by decide +kernel⟩
abbrev s_Chunks_put : Stmt := inClass (topS 24) 1
abbrev N_Chunks_put : List Str := ["self", "text", "address"]
theorem sc_Chunks_put : FnScope N_Chunks_put ["self", "text"] (defScope s_Chunks_put) := ⟨rfl, rfl, rfl, by decide +kernel, rfl, by decide +kernel, by decide +kernel⟩
abbrev s_Chunks_get : Stmt := inClass (topS 24) 2
abbrev N_Chunks_get : List Str := ["self", "address"]
theorem sc_Chunks_get : FnScope N_Chunks_get ["self", "address"] (defScope s_Chunks_get) := ⟨rfl, rfl, rfl, by decide +kernel, rfl, by decide +kernel, by decide +kernel⟩
abbrev s_Chunks_has : Stmt := inClass (topS 24) 3
abbrev N_Chunks_has : List Str := ["self", "address"]
theorem sc_Chunks_has : FnScope N_Chunks_has ["self", "address"] (defScope s_Chunks_has) := ⟨rfl, rfl, rfl, by decide +kernel, rfl, by decide +kernel, by decide +kernel⟩
abbrev s_Chunks_drop : Stmt := inClass (topS 24) 4
abbrev N_Chunks_drop : List Str := ["self", "address"]
theorem sc_Chunks_drop : FnScope N_Chunks_drop ["self", "address"] (defScope s_Chunks_drop) := ⟨rfl, rfl, rfl, by decide +kernel, rfl, by decide +kernel, by decide +kernel⟩
abbrev s_Chunks_addresses : Stmt := inClass (topS 24) 5
abbrev N_Chunks_addresses : List Str := ["self"]
theorem sc_Chunks_addresses : FnScope N_Chunks_addresses ["self"] (defScope s_Chunks_addresses) := ⟨rfl, rfl, rfl, by decide +kernel, rfl, by decide +kernel, by decide +kernel⟩
abbrev s_Chunks_len : Stmt := inClass (topS 24) 6
abbrev N_Chunks_len : List Str := ["self"]
theorem sc_Chunks_len : FnScope N_Chunks_len ["self"] (defScope s_Chunks_len) := ⟨rfl, rfl, rfl, by decide +kernel, rfl, by decide +kernel, by decide +kernel⟩
abbrev s_Lcell : Stmt := topS 26
abbrev N_Lcell : List Str := ["_law_script", "_law_k"]
theorem sc_Lcell : FnScope N_Lcell ["_law_script", "_law_k"] (defScope s_Lcell) := ⟨rfl, rfl, rfl, by decide +kernel, rfl, by decide +kernel, by decide +kernel⟩
abbrev s_Lnumbers : Stmt := topS 27
abbrev N_Lnumbers : List Str := ["_law_cell_here", "_law_count", "_law_numbers_here", "_law_k", "_law_mixed"]
theorem sc_Lnumbers : FnScope N_Lnumbers ["_law_cell_here", "_law_count"] (defScope s_Lnumbers) := ⟨rfl, rfl, rfl, by decide +kernel, rfl, by decide +kernel, by decide +kernel⟩
abbrev s_Ltext : Stmt := topS 28
abbrev N_Ltext : List Str := ["_law_a", "_law_b", "_law_chars", "_law_size", "_law_k"]
theorem sc_Ltext : FnScope N_Ltext ["_law_a", "_law_b"] (defScope s_Ltext) := ⟨rfl, rfl, rfl, by decide +kernel, rfl, by decide +kernel, by decide +kernel⟩
abbrev s_Lencode : Stmt := topS 29
abbrev N_Lencode : List Str := ["_law_item", "_law_part"]
theorem sc_Lencode : FnScope N_Lencode ["_law_item"] (defScope s_Lencode) := ⟨rfl, rfl, rfl, by decide +kernel, rfl, by decide +kernel, by decide +kernel⟩
abbrev s_Ldigest : Stmt := topS 30
abbrev N_Ldigest : List Str := ["_law_text_here", "_law_result", "_law_char"]
theorem sc_Ldigest : FnScope N_Ldigest ["_law_text_here"] (defScope s_Ldigest) := ⟨rfl, rfl, rfl, by decide +kernel, rfl, by decide +kernel, by decide +kernel⟩
abbrev s_Lends : Stmt := topS 31
abbrev N_Lends : List Str := ["_law_level_here", "_law_key", "_law_count"]
theorem sc_Lends : FnScope N_Lends ["_law_level_here", "_law_key", "_law_count"] (defScope s_Lends) := ⟨rfl, rfl, rfl, by decide +kernel, rfl, by decide +kernel, by decide +kernel⟩
abbrev s_Llevel : Stmt := topS 32
abbrev N_Llevel : List Str := ["_law_book", "_law_level_here", "_law_entries_here", "_law_texts", "_law_above", "_law_group", "_law_k", "_law_item", "_law_count", "_law_below", "_law_text_here", "_law_address", "_law_entry"]
theorem sc_Llevel : FnScope N_Llevel ["_law_book", "_law_level_here", "_law_entries_here", "_law_texts"] (defScope s_Llevel) := ⟨rfl, rfl, rfl, by decide +kernel, rfl, by decide +kernel, by decide +kernel⟩
abbrev s_Ltree : Stmt := topS 33
abbrev N_Ltree : List Str := ["_law_book", "_law_entries_here", "_law_texts", "_law_text_here", "_law_level_here", "_law_above", "_law_k"]
theorem sc_Ltree : FnScope N_Ltree ["_law_book", "_law_entries_here", "_law_texts"] (defScope s_Ltree) := ⟨rfl, rfl, rfl, by decide +kernel, rfl, by decide +kernel, by decide +kernel⟩
abbrev s_Lstate : Stmt := topS 34
abbrev N_Lstate : List Str := ["_law_book", "_law_tables_here", "_law_texts", "_law_form", "_law_triples", "_law_roots", "_law_name", "_law_entries_here", "_law_text_here"]
theorem sc_Lstate : FnScope N_Lstate ["_law_book", "_law_tables_here", "_law_texts"] (defScope s_Lstate) := ⟨rfl, rfl, rfl, by decide +kernel, rfl, by decide +kernel, by decide +kernel⟩
abbrev s_Lcommit : Stmt := topS 35
abbrev N_Lcommit : List Str := ["_law_book", "_law_state_here", "_law_parents", "_law_message", "_law_texts", "_law_text_here"]
theorem sc_Lcommit : FnScope N_Lcommit ["_law_book", "_law_state_here", "_law_parents", "_law_message", "_law_texts"] (defScope s_Lcommit) := ⟨rfl, rfl, rfl, by decide +kernel, rfl, by decide +kernel, by decide +kernel⟩
abbrev s_Lentries : Stmt := topS 36
abbrev N_Lentries : List Str := ["_law_cell_here", "_law_many", "_law_numbers_here", "_law_size", "_law_step", "_law_entries_here", "_law_k"]
theorem sc_Lentries : FnScope N_Lentries ["_law_cell_here", "_law_many"] (defScope s_Lentries) := ⟨rfl, rfl, rfl, by decide +kernel, rfl, by decide +kernel, by decide +kernel⟩
abbrev s_Ltables : Stmt := topS 37
abbrev N_Ltables : List Str := ["_law_cell_here", "_law_numbers_here", "_law_tables_here", "_law_name"]
theorem sc_Ltables : FnScope N_Ltables ["_law_cell_here"] (defScope s_Ltables) := ⟨rfl, rfl, rfl, by decide +kernel, rfl, by decide +kernel, by decide +kernel⟩
abbrev s_Lhistory : Stmt := topS 38
abbrev N_Lhistory : List Str := ["_law_book", "_law_script", "_law_first", "_law_count", "_law_texts", "_law_commits", "_law_k", "_law_cell_here", "_law_numbers_here", "_law_parents", "_law_other", "_law_state_here"]
theorem sc_Lhistory : FnScope N_Lhistory ["_law_book", "_law_script", "_law_first", "_law_count", "_law_texts"] (defScope s_Lhistory) := ⟨rfl, rfl, rfl, by decide +kernel, rfl, by decide +kernel, by decide +kernel⟩
abbrev s_Lclosure : Stmt := topS 39
abbrev N_Lclosure : List Str := ["_law_texts", "_law_addresses", "_law_found", "_law_waiting", "_law_k", "_law_address"]
theorem sc_Lclosure : FnScope N_Lclosure ["_law_texts", "_law_addresses"] (defScope s_Lclosure) := ⟨rfl, rfl, rfl, by decide +kernel, rfl, by decide +kernel, by decide +kernel⟩
abbrev s_Lis_list : Stmt := topS 40
abbrev N_Lis_list : List Str := ["_law_actual", "_law_due", "_law_k"]
theorem sc_Lis_list : FnScope N_Lis_list ["_law_actual", "_law_due"] (defScope s_Lis_list) := ⟨rfl, rfl, rfl, by decide +kernel, rfl, by decide +kernel, by decide +kernel⟩
abbrev s_Lwants : Stmt := topS 41
abbrev N_Lwants : List Str := ["_law_texts", "_law_tips", "_law_held", "_law_kept", "_law_wanted", "_law_seen", "_law_waiting", "_law_k", "_law_address"]
theorem sc_Lwants : FnScope N_Lwants ["_law_texts", "_law_tips", "_law_held", "_law_kept"] (defScope s_Lwants) := ⟨rfl, rfl, rfl, by decide +kernel, rfl, by decide +kernel, by decide +kernel⟩
abbrev s_Ldict : Stmt := topS 42
abbrev N_Ldict : List Str := ["_law_addresses", "_law_found", "_law_address"]
theorem sc_Ldict : FnScope N_Ldict ["_law_addresses"] (defScope s_Ldict) := ⟨rfl, rfl, rfl, by decide +kernel, rfl, by decide +kernel, by decide +kernel⟩
abbrev s_Lstore : Stmt := topS 43
abbrev N_Lstore : List Str := ["_law_book", "_law_texts", "_law_addresses", "_law_chunks", "_law_address"]
theorem sc_Lstore : FnScope N_Lstore ["_law_book", "_law_texts", "_law_addresses"] (defScope s_Lstore) := ⟨rfl, rfl, rfl, by decide +kernel, rfl, by decide +kernel, by decide +kernel⟩
abbrev s_Lreceives : Stmt := topS 44
abbrev N_Lreceives : List Str := ["_law_fetch", "_law_address", "_law_text_here", "_law_due", "_law_actual"]
theorem sc_Lreceives : FnScope N_Lreceives ["_law_fetch", "_law_address", "_law_text_here", "_law_due"] (defScope s_Lreceives) := ⟨rfl, rfl, rfl, by decide +kernel, rfl, by decide +kernel, by decide +kernel⟩
abbrev s_Lis_still : Stmt := topS 45
abbrev N_Lis_still : List Str := ["_law_fetch", "_law_chunks", "_law_held", "_law_wanted", "_law_told"]
theorem sc_Lis_still : FnScope N_Lis_still ["_law_fetch", "_law_chunks", "_law_held", "_law_wanted"] (defScope s_Lis_still) := ⟨rfl, rfl, rfl, by decide +kernel, rfl, by decide +kernel, by decide +kernel⟩
abbrev s_Lcomes_by : Stmt := topS 46
abbrev N_Lcomes_by : List Str := ["_law_fetch", "_law_chunks", "_law_texts", "_law_held", "_law_address"]
theorem sc_Lcomes_by : FnScope N_Lcomes_by ["_law_fetch", "_law_chunks", "_law_texts", "_law_held", "_law_address"] (defScope s_Lcomes_by) := ⟨rfl, rfl, rfl, by decide +kernel, rfl, by decide +kernel, by decide +kernel⟩
abbrev s_Lhas_no_tips : Stmt := topS 47
abbrev N_Lhas_no_tips : List Str := ["_law_chunks", "_law_fetch"]
theorem sc_Lhas_no_tips : FnScope N_Lhas_no_tips ["_law_chunks"] (defScope s_Lhas_no_tips) := ⟨rfl, rfl, rfl, by decide +kernel, rfl, by decide +kernel, by decide +kernel⟩
abbrev s_Lwants_what_went : Stmt := topS 48
abbrev N_Lwants_what_went : List Str := ["_law_fetch", "_law_chunks", "_law_texts", "_law_tips", "_law_due", "_law_kept", "_law_lost", "_law_held", "_law_wanted", "_law_address"]
theorem sc_Lwants_what_went : FnScope N_Lwants_what_went ["_law_fetch", "_law_chunks", "_law_texts", "_law_tips", "_law_due", "_law_kept"] (defScope s_Lwants_what_went) := ⟨rfl, rfl, rfl, by decide +kernel, rfl, by decide +kernel, by decide +kernel⟩
abbrev s_law : Stmt := topS 49
abbrev N_law : List Str := ["_law_script", "_law_book", "_law_texts", "_law_commits", "_law_numbers_here", "_law_first", "_law_tips", "_law_held", "_law_chunks", "_law_handed", "_law_fetch", "_law_kept", "_law_order", "_law_wanted", "_law_k", "_law_number", "_law_other", "_law_address", "_law_due"]
theorem sc_law : FnScope N_law ["_law_script"] (defScope s_law) := ⟨rfl, rfl, rfl, by decide +kernel, rfl, by decide +kernel, by decide +kernel⟩
abbrev nDIGITS : Str := "DIGITS"
abbrev nMOST_DIGITS : Str := "MOST_DIGITS"
abbrev nItem : Str := "_law_item"
end My
set_option Elab.async false
set_option linter.all false
set_option maxRecDepth 100000
set_option maxHeartbeats 4000000
/-! Helpers of the walks. -/
namespace My
open PySem L2 TL
/-- a module's constant -/
def GlC (mg : Str → Option Value) (x : Str) (v : V) : Prop := ∃ u, mg x = some u ∧ RelV v u
theorem pe_gc {X : Cx} {x : Str} {v : V} {pos : Pos} (h : GlC X.mg x v) (hg : Gl X x := by rfl) (hd : (x == ("__debug__" : Str)) = false := by decide) : PE X (.Name x pos) (tC v) := by
  obtain ⟨u, hm, r⟩ := h
  exact pe_glob hg hm r hd
theorem mkDef {P : Program} {w : World} {K : PySem.W.Frag} {mg : Str → Option Value} {base : Heap} {k : Nat} {x qual : Str} {st : Stmt} {f : Addr} {fd : FuncData} {ps : List Str} {sp : Sp} (F : Fun K x qual st f fd) (m : mg x = some (.ref f)) (b : Binds K fd ps [])
    (G : FnOk P w K mg base CX0 k f fd ps sp) : Def P w K mg base k x ps sp := ⟨f, fd, G, m, F.kp, b⟩
/-- the built-ins' names that the text uses -/
structure Bl (mg : Str → Option Value) : Prop where
  len : mg "len" = none
  range : mg "range" = none
  int : mg "int" = none
  str : mg "str" = none
  bool : mg "bool" = none
  list : mg "list" = none
  tuple : mg "tuple" = none
  sorted : mg "sorted" = none
  sum : mg "sum" = none
  min : mg "min" = none
  max : mg "max" = none
  ord : mg "ord" = none
  isinstance : mg "isinstance" = none
  set : mg "set" = none
  c_DIGITS : GlC mg nDIGITS (.str "0123456789")
  c_MOST_DIGITS : GlC mg nMOST_DIGITS (.int 60)
  c_MOST_SIZE_DIGITS : GlC mg "MOST_SIZE_DIGITS" (.int 6)
  c_MOST_LEVELS : GlC mg "MOST_LEVELS" (.int 12)
theorem if_t {c : Bool} {A B : Prop} (hc : c = true) (h : A) : if c = true then A else B := by
  rw [if_pos hc]
  exact h
theorem if_f {c : Bool} {A B : Prop} (hc : c = false) (h : B) : if c = true then A else B := by
  rw [hc, if_neg Bool.false_ne_true]
  exact h
/-- a comprehension without a test -/
theorem lc_yes {σ : L2.St} {H : Hp} {A B : Hp → Prop} (h : A H) : tYes σ H (fun b H3 => if b = true then A H3 else B H3) := by
  show if true = true then A H else B H
  rw [if_pos rfl]
  exact h
/-- a text of one sign -/
abbrev sg (c : Nat) : Str := ⟨#[c]⟩
theorem sg_inj {c e : Nat} (h : sg c = sg e) : c = e := by
  have q : tl (sg c) = tl (sg e) := by rw [h]
  exact (List.cons.inj q).1
theorem sg_eq {c e : Nat} {s : Str} (hs : s = sg e) : decide (V.str (sg c) = V.str s) = decide (c = e) := by
  subst hs
  by_cases h : c = e
  · subst h; simp
  · rw [decide_eq_false h]
    exact decide_eq_false fun q => h (sg_inj (V.str.inj q))
theorem sg_yes {c : Nat} {s : Str} (hs : s = sg c) : decide (V.str (sg c) = V.str s) = true := by rw [sg_eq hs]; simp
theorem sg_no {c e : Nat} {s : Str} (hs : s = sg e) (h : c ≠ e) : decide (V.str (sg c) = V.str s) = false := by rw [sg_eq hs]; simp [h]
theorem sg_neT {c e : Nat} {s : Str} (hs : s = sg e) (h : c ≠ e) : (!decide (V.str (sg c) = V.str s)) = true := by rw [sg_no hs h]; rfl
theorem sg_neF {c : Nat} {s : Str} (hs : s = sg c) : (!decide (V.str (sg c) = V.str s)) = false := by rw [sg_yes hs]; rfl
theorem sgMinus : (("-" : String) : Str) = sg 45 := by decide +kernel
theorem sg0 : (("0" : String) : Str) = sg 48 := by decide +kernel
theorem sgSemi : ((";" : String) : Str) = sg 59 := by decide +kernel
theorem sgColon : ((":" : String) : Str) = sg 58 := by decide +kernel
theorem sgN : (("n" : String) : Str) = sg 110 := by decide +kernel
theorem sgI : (("i" : String) : Str) = sg 105 := by decide +kernel
theorem sgT : (("t" : String) : Str) = sg 116 := by decide +kernel
theorem sgOpen : (("(" : String) : Str) = sg 40 := by decide +kernel
theorem sgClose : ((")" : String) : Str) = sg 41 := by decide +kernel
theorem digits_in {c : Nat} (h : 48 ≤ c ∧ c ≤ 57) : (!decide (c ∈ (("0123456789" : String) : Str).cps.toList)) = false := by
  have e : (("0123456789" : String) : Str).cps.toList = [48, 49, 50, 51, 52, 53, 54, 55, 56, 57] := by decide +kernel
  rw [e]
  have : c ∈ [48, 49, 50, 51, 52, 53, 54, 55, 56, 57] := by
    simp
    omega
  rw [decide_eq_true this]
  rfl
/-! ### a text from a place on -/
def At (z : Str) (n : Nat) (l : List Nat) : Prop := (tl z).drop n = l
theorem At.get {z : Str} {n c : Nat} {l : List Nat} (h : At z n (c :: l)) : (tl z)[n]? = some c := by
  have e := List.getElem?_drop (xs := tl z) (i := n) (j := 0)
  rw [show (tl z).drop n = c :: l from h] at e
  simpa using e.symm
theorem At.app {z : Str} {n : Nat} {a l : List Nat} (h : At z n (a ++ l)) : At z (n + a.length) l := by
  show (tl z).drop (n + a.length) = l
  rw [← List.drop_drop, show (tl z).drop n = a ++ l from h, List.drop_left]
theorem At.next {z : Str} {n c : Nat} {l : List Nat} (h : At z n (c :: l)) : At z (n + 1) l := At.app (a := [c]) h
theorem At.len {z : Str} {n : Nat} {l : List Nat} (h : At z n l) : z.length - n = l.length := by
  rw [len_tl, ← List.length_drop, show (tl z).drop n = l from h]
theorem At.lt {z : Str} {n c : Nat} {l : List Nat} (h : At z n (c :: l)) : n < z.length := by
  have e := h.len
  rw [List.length_cons] at e
  omega
theorem At.le {z : Str} {n : Nat} {a l : List Nat} (h : At z n (a ++ l)) (hn : n ≤ z.length) : n + a.length ≤ z.length := by
  have e := h.len
  rw [List.length_append] at e
  omega
theorem sIx_some {n d : Nat} {i : Nat} (h : i ≤ n) : HT.sIx n d (some (i : Int)) = i := by
  unfold HT.sIx
  simp
  try (split <;> omega)
theorem At.cut {z : Str} {n : Nat} {a l : List Nat} (h : At z n (a ++ l)) (hn : n ≤ z.length) : cutS z (some (n : Int)) (some ((n + a.length : Nat) : Int)) = tx a := by
  unfold cutS
  rw [sIx_some hn, sIx_some (h.le hn), show z.cps.toList.drop n = a ++ l from h, Nat.add_sub_cancel_left, List.take_left]
end My
set_option Elab.async false
set_option linter.all false
set_option maxRecDepth 100000
set_option maxHeartbeats 4000000
/-! The walk of codec.py's reading half, for texts that items write. -/
namespace My
open PySem L2 TL
section
variable {P : Program} {w : World} {K : PySem.W.Frag} {mg : Str → Option Value} {base : Heap} {f : Addr} {fd : FuncData}
/-! ### char_at -/
def spCharAt : Sp := fun vs H Q _ => ∃ (z : Str) (n c : Nat), vs = [.str z, .int (n : Int)] ∧ (tl z)[n]? = some c ∧ z.length ≤ sizeLine ∧ Q (.str (sg c)) H
theorem ok_char_at (F : Fun K "char_at" "char_at" s_char_at f fd) (B : Bl mg) : FnOk P w K mg base CX0 1 f fd ["text", "index"] spCharAt := by
  refine F.ok sc_char_at (fun vs H Q E h => ?_) (fun cdv A outer s H vs Q E hr h => ?_)
  · obtain ⟨z, n, c, rfl, _⟩ := h
    rfl
  · obtain ⟨z, n, c, rfl, hc, hl, q⟩ := h
    refine ⟨_, (pss_cons (ps_if (pt_cmpR op_ge (pv 1) (pe_callB call_len_str (by rfl) B.len (by decide +kernel) (pa_cons (pv 0) pa_nil)) (nomark _))
        (pss_one ps_never)
        pss_nil)
      (pss_one (ps_ret (pe_ix ix_str (pv 0) (pv 1) (fun _ _ => rfl))))), ?_⟩
    refine ⟨_, rfl, _, rfl, z, rfl, hl, _, _, rfl, rfl, _, rfl, ?_⟩
    have hn : n < z.length := by
      rw [len_tl]
      exact (List.getElem?_eq_some_iff.mp hc).1
    refine if_f (decide_eq_false (by omega)) ?_
    exact ⟨_, rfl, _, rfl, z, _, c, rfl, rfl, hl, atI_nat hc, q⟩
/-! ### read_digits -/
def Dig (ds : List Nat) : Prop := ∀ c ∈ ds, 48 ≤ c ∧ c ≤ 57
def spReadDigits : Sp := fun vs H Q _ => ∃ (z : Str) (n e : Nat) (most : Int) (ds l : List Nat), vs = [.str z, .int (n : Int), .int most, .str (sg e)] ∧ At z n (ds ++ e :: l) ∧ z.length ≤ sizeLine ∧ Dig ds ∧ ds ≠ [] ∧ (ds.length : Int) ≤ most ∧
  (ds.length = 1 ∨ ∃ c r, ds = c :: r ∧ c ≠ 48) ∧ ¬ (48 ≤ e ∧ e ≤ 57) ∧ ∀ p H', Same H H' → H' p = some (.tup [.str (tx ds), .int ((n + ds.length + 1 : Nat) : Int)]) → Q (.ref p) H'
theorem ok_read_digits (F : Fun K "read_digits" "read_digits" s_read_digits f fd) (B : Bl mg) (D_char_at : Def P w K mg base 1 "char_at" ["text", "index"] spCharAt) : FnOk P w K mg base CX0 2 f fd ["text", "index", "most", "end"] spReadDigits := by
  refine F.ok sc_read_digits (fun vs H Q E h => ?_) (fun cdv A outer s H vs Q E hr h => ?_)
  · obtain ⟨z, n, e, most, ds, l, rfl, _⟩ := h
    rfl
  · obtain ⟨z, n, e, most, ds, l, rfl, hA, hl, hd, hne, hm, hz, he, q⟩ := h
    refine ⟨_, (pss_cons (ps_set (i := 4) sc_read_digits.nd rfl (Or.inl rfl) (pv 1))
      (pss_cons (ps_while PassesOwn.never (pt_cmpR op_ne (D_char_at.call hr (by omega) (pa_cons (pv 0) (pa_cons (pv 1) pa_nil))) (pv 3) (nomark _))
        (pss_cons (ps_if (PW.pt (pw_or (pt_cmpR op_notIn_sign (pe_ix ix_str (pv 0) (pv 1) (fun _ _ => rfl)) (pe_gc B.c_DIGITS) (by rfl)) (pw_or (pt_cmpR op_eq (pe_op op_sub (pv 1) (pv 4)) (pv 2) (nomark _)) (pw_or1 (PW.pt (pw_and (pt_cmpR op_gt (pv 1) (pv 4) (nomark _)) (pw_and1 (pt_cmpR op_eq (pe_ix ix_str (pv 0) (pv 4) (fun _ _ => rfl)) pe_str (nomark _)))))))))
          (pss_one ps_never)
          pss_nil)
        (pss_one (ps_aug (i := 1) sc_read_digits.nd rfl (Or.inl rfl) pe_int ip_add))))
      (pss_cons (ps_if (pt_cmpR op_eq (pv 1) (pv 4) (nomark _))
        (pss_one ps_never)
        pss_nil)
      (pss_one (ps_ret (pe_tup (pa_cons (pe_slice sl_str (pv 0) (po_some (pv 4)) (po_some (pv 1))) (pa_cons (pe_op op_add (pv 1) pe_int) pa_nil)))))))), ?_⟩
    have hnl : n ≤ z.length := by
      have := hA.len
      rw [List.length_append, List.length_cons] at this
      omega
    refine ⟨_, rfl, ?_⟩
    refine ⟨fun m σ H' => ∃ i : Nat, i + m = ds.length ∧ σ = [some (.str z), some (.int ((n + i : Nat) : Int)), some (.int most), some (.str (sg e)), some (.int (n : Int))] ∧ H' = H, ⟨ds.length, 0, by omega, rfl, rfl⟩, ?_⟩
    rintro m σ H' ⟨i, him, rfl, rfl⟩
    by_cases hi : i < ds.length
    · have hAi : At z (n + i) (ds[i] :: (ds.drop (i + 1) ++ e :: l)) := by
        have h2 : At z n (ds.take i ++ (ds.drop i ++ e :: l)) := by
          rw [← List.append_assoc, List.take_append_drop]
          exact hA
        have h3 := h2.app
        rw [List.length_take, Nat.min_eq_left (Nat.le_of_lt hi), List.drop_eq_getElem_cons hi] at h3
        exact h3
      have hdi := hd _ (List.getElem_mem hi)
      have nee : ds[i] ≠ e := fun z => he (z ▸ hdi)
      refine ⟨_, rfl, _, rfl, z, n + i, ds[i], rfl, hAi.get, hl, _, rfl, rfl, _, rfl, ?_⟩
      refine if_t (sg_neT rfl nee) ?_
      refine ⟨fun σ' H'' => ∃ m', m' < m ∧ ∃ i : Nat, i + m' = ds.length ∧ σ' = [some (.str z), some (.int ((n + i : Nat) : Int)), some (.int most), some (.str (sg e)), some (.int (n : Int))] ∧ H'' = H', fun _ _ h => h, ?_⟩
      refine ⟨_, rfl, _, rfl, z, _, ds[i], rfl, rfl, hl, atI_nat hAi.get, _, _, rfl, rfl, _, rfl, ?_⟩
      refine if_f (digits_in hdi) ?_
      refine ⟨_, rfl, _, rfl, _, _, rfl, rfl, _, rfl, rfl, _, rfl, ?_⟩
      refine if_f (decide_eq_false (fun z => by
        have := V.int.inj z
        omega)) ?_
      refine ⟨_, rfl, _, rfl, _, _, rfl, rfl, _, rfl, ?_⟩
      refine ite2 (fun h0 => ?_) (fun h0 => ?_)
      · have hi0 : 0 < i := by
          have := of_decide_eq_true h0
          omega
        have hA0 : At z n (ds[0] :: (ds.drop 1 ++ e :: l)) := by
          have h2 := hA
          rw [show ds = ds[0] :: ds.drop 1 from (List.drop_eq_getElem_cons (i := 0) (l := ds) (by omega))] at h2
          simpa using h2
        have hds : ds[0] ≠ 48 := by
          rcases hz with hz | ⟨c, r, e1, e2⟩
          · omega
          · subst e1
            exact e2
        refine ⟨_, rfl, _, rfl, z, _, ds[0], rfl, rfl, hl, atI_nat hA0.get, rfl, _, rfl, ?_⟩
        refine if_f (sg_no sg0 hds) ?_
        refine ⟨_, rfl, _, _, rfl, rfl, ?_⟩
        exact ⟨m - 1, by omega, i + 1, by omega, by rw [show ((n + (i + 1) : Nat) : Int) = ((n + i : Nat) : Int) + 1 by omega]; rfl, rfl⟩
      · refine if_f rfl ?_
        refine ⟨_, rfl, _, _, rfl, rfl, ?_⟩
        exact ⟨m - 1, by omega, i + 1, by omega, by rw [show ((n + (i + 1) : Nat) : Int) = ((n + i : Nat) : Int) + 1 by omega]; rfl, rfl⟩
    · have hi' : i = ds.length := by omega
      subst hi'
      have hAe := hA.app
      refine ⟨_, rfl, _, rfl, z, n + ds.length, e, rfl, hAe.get, hl, _, rfl, rfl, _, rfl, ?_⟩
      refine if_f (sg_neF rfl) ?_
      refine ⟨_, rfl, _, rfl, rfl, _, rfl, ?_⟩
      have hpos : 0 < ds.length := List.length_pos_iff.mpr hne
      refine if_f (decide_eq_false (fun z => by
        have := V.int.inj z
        omega)) ?_
      refine ⟨_, rfl, _, rfl, _, rfl, _, rfl, _, rfl, z, rfl, hl, _, rfl, _, _, rfl, rfl, (by show 2 ≤ sizeLine; decide), fun p hp => ?_⟩
      refine q p _ (same_new hp _) ?_
      rw [upd_same, hA.cut hnl]
      rfl
/-! ### read_integer -/
theorem int_digits {ds : List Nat} (h : Dig ds) (hn : ds ≠ []) (hl : ds.length ≤ 640) : PySem.intText? (tx ds) = some ((NumText.digitsVal ds : Nat) : Int) :=
  intText_digits (x := tx ds) h hn (by rw [tx_len]; omega)
theorem dig_num (n : Nat) : Dig (numL n) := numL_digits n
theorem numI_neg {i : Int} (h : i < 0) : numI i = 45 :: numL i.natAbs := if_pos h
theorem numI_pos {i : Int} (h : ¬ i < 0) : numI i = numL i.natAbs := if_neg h
def spReadInt : Sp := fun vs H Q _ => ∃ (z : Str) (n : Nat) (i : Int) (l : List Nat), vs = [.str z, .int (n : Int)] ∧ At z n (numI i ++ 59 :: l) ∧ z.length ≤ sizeLine ∧ i.natAbs < 10 ^ 60 ∧
  ∀ p H', Same H H' → H' p = some (.tup [.int i, .int ((n + (numI i).length + 1 : Nat) : Int)]) → Q (.ref p) H'
theorem numL_le60 {n : Nat} (h : n < 10 ^ 60) : (numL n).length ≤ 60 := numL_len (by decide) h
theorem ok_read_integer (F : Fun K "read_integer" "read_integer" s_read_integer f fd) (B : Bl mg) (D_char_at : Def P w K mg base 1 "char_at" ["text", "index"] spCharAt) (D_read_digits : Def P w K mg base 2 "read_digits" ["text", "index", "most", "end"] spReadDigits) :
    FnOk P w K mg base CX0 3 f fd ["text", "index"] spReadInt := by
  refine F.ok sc_read_integer (fun vs H Q E h => ?_) (fun cdv A outer s H vs Q E hr h => ?_)
  · obtain ⟨z, n, i, l, rfl, _⟩ := h
    rfl
  · obtain ⟨z, n, i, l, rfl, hA, hl, hi, q⟩ := h
    refine ⟨_, (pss_cons (ps_set (i := 2) sc_read_integer.nd rfl (Or.inl rfl) (pe_cmpR op_eq (D_char_at.call hr (by omega) (pa_cons (pv 0) (pa_cons (pv 1) pa_nil))) pe_str (nomark _)))
      (pss_cons (ps_if (pt_val (pv 2))
        (pss_cons (ps_aug (i := 1) sc_read_integer.nd rfl (Or.inl rfl) pe_int ip_add)
        (pss_one (ps_if (pt_cmpR op_eq (D_char_at.call hr (by omega) (pa_cons (pv 0) (pa_cons (pv 1) pa_nil))) pe_str (nomark _))
          (pss_one ps_never)
          pss_nil)))
        pss_nil)
      (pss_cons (ps_asg (D_read_digits.call hr (by omega) (pa_cons (pv 0) (pa_cons (pv 1) (pa_cons (pe_gc B.c_MOST_DIGITS) (pa_cons pe_str pa_nil))))) (pg_tup (by rfl) (pgs_cons (pg_name (i := 3) sc_read_integer.nd rfl (Or.inl rfl)) (pgs_cons (pg_name (i := 1) sc_read_integer.nd rfl (Or.inl rfl)) pgs_nil))))
      (pss_cons (ps_if (pt_val (pv 2))
        (pss_one (ps_ret (pe_tup (pa_cons (pe_un un_neg (pe_callTy call_int_str (by rfl) B.int (by decide +kernel) (pa_cons (pv 3) pa_nil))) (pa_cons (pv 1) pa_nil)))))
        pss_nil)
      (pss_one (ps_ret (pe_tup (pa_cons (pe_callTy call_int_str (by rfl) B.int (by decide +kernel) (pa_cons (pv 3) pa_nil)) (pa_cons (pv 1) pa_nil))))))))), ?_⟩
    by_cases hneg : i < 0
    · rw [numI_neg hneg] at hA q
      have hA1 : At z (n + 1) (numL i.natAbs ++ 59 :: l) := At.next hA
      obtain ⟨c, r, ec, nc⟩ := numL_pos i.natAbs (by omega)
      have hA2 := hA1
      rw [ec] at hA2
      refine ⟨_, rfl, _, rfl, z, n, 45, rfl, At.get hA, hl, rfl, ?_⟩
      rw [sg_yes sgMinus]
      refine ⟨_, rfl, true, rfl, if_t rfl ?_⟩
      refine ⟨_, rfl, _, _, rfl, rfl, ?_⟩
      refine ⟨_, rfl, _, rfl, z, n + 1, c, rfl, At.get hA2, hl, rfl, _, rfl, if_f (sg_no sg0 nc) ?_⟩
      refine ⟨_, rfl, _, rfl, z, n + 1, 59, 60, numL i.natAbs, l, (by rw [← sgSemi]; rfl), hA1, hl, dig_num _, numL_ne _, (by have := numL_le60 hi; omega), numL_head _, (by omega), fun p H' hS hp => ?_⟩
      refine ⟨p, _, rfl, SqT.of hp, rfl, _, _, rfl, _, _, rfl, rfl, ?_⟩
      refine ⟨_, rfl, true, rfl, if_t rfl ?_⟩
      refine ⟨_, rfl, _, _, rfl, int_digits (dig_num _) (numL_ne _) (by have := numL_le60 hi; omega), (by rw [tx_len]; have := numL_le60 hi; omega), _, rfl, _, rfl, (by show 2 ≤ sizeLine; decide), fun p2 hp2 => ?_⟩
      refine q p2 _ (hS.trans (same_new hp2 _)) ?_
      rw [upd_same, numL_val]
      show some (HO.tup [V.int (-((i.natAbs : Nat) : Int)), _]) = _
      rw [show (-((i.natAbs : Nat) : Int)) = i by omega, List.length_cons, show n + ((numL i.natAbs).length + 1) + 1 = n + 1 + (numL i.natAbs).length + 1 by omega]
    · rw [numI_pos hneg] at hA q
      obtain ⟨c, r, ec⟩ : ∃ c r, numL i.natAbs = c :: r := by
        cases e : numL i.natAbs with
        | nil => exact absurd e (numL_ne _)
        | cons c r => exact ⟨c, r, rfl⟩
      have hc : 48 ≤ c ∧ c ≤ 57 := dig_num i.natAbs c (by rw [ec]; exact List.mem_cons_self)
      have hA2 := hA
      rw [ec] at hA2
      refine ⟨_, rfl, _, rfl, z, n, c, rfl, At.get hA2, hl, rfl, ?_⟩
      rw [sg_no sgMinus (show c ≠ 45 by omega)]
      refine ⟨_, rfl, false, rfl, if_f rfl ?_⟩
      refine ⟨_, rfl, _, rfl, z, n, 59, 60, numL i.natAbs, l, (by rw [← sgSemi]; rfl), hA, hl, dig_num _, numL_ne _, (by have := numL_le60 hi; omega), numL_head _, (by omega), fun p H' hS hp => ?_⟩
      refine ⟨p, _, rfl, SqT.of hp, rfl, _, _, rfl, _, _, rfl, rfl, ?_⟩
      refine ⟨_, rfl, false, rfl, if_f rfl ?_⟩
      refine ⟨_, rfl, _, _, rfl, int_digits (dig_num _) (numL_ne _) (by have := numL_le60 hi; omega), (by rw [tx_len]; have := numL_le60 hi; omega), _, rfl, (by show 2 ≤ sizeLine; decide), fun p2 hp2 => ?_⟩
      refine q p2 _ (hS.trans (same_new hp2 _)) ?_
      rw [upd_same, numL_val, show (((i.natAbs : Nat) : Int)) = i by omega]
/-! ### read_text -/
def spReadText : Sp := fun vs H Q _ => ∃ (z : Str) (n : Nat) (y : Str) (l : List Nat), vs = [.str z, .int (n : Int)] ∧ At z n (numL y.length ++ 58 :: (tl y ++ l)) ∧ z.length ≤ sizeLine ∧ y.length < 10 ^ 6 ∧
  ∀ p H', Same H H' → H' p = some (.tup [.str y, .int ((n + (numL y.length).length + 1 + y.length : Nat) : Int)]) → Q (.ref p) H'
theorem ok_read_text (F : Fun K "read_text" "read_text" s_read_text f fd) (B : Bl mg) (D_read_digits : Def P w K mg base 2 "read_digits" ["text", "index", "most", "end"] spReadDigits) :
    FnOk P w K mg base CX0 3 f fd ["text", "index"] spReadText := by
  refine F.ok sc_read_text (fun vs H Q E h => ?_) (fun cdv A outer s H vs Q E hr h => ?_)
  · obtain ⟨z, n, i, l, rfl, _⟩ := h
    rfl
  · obtain ⟨z, n, y, l, rfl, hA, hl, hy, q⟩ := h
    refine ⟨_, (pss_cons (ps_asg (D_read_digits.call hr (by omega) (pa_cons (pv 0) (pa_cons (pv 1) (pa_cons (pe_gc B.c_MOST_SIZE_DIGITS) (pa_cons pe_str pa_nil))))) (pg_tup (by rfl) (pgs_cons (pg_name (i := 2) sc_read_text.nd rfl (Or.inl rfl)) (pgs_cons (pg_name (i := 1) sc_read_text.nd rfl (Or.inl rfl)) pgs_nil))))
      (pss_cons (ps_set (i := 3) sc_read_text.nd rfl (Or.inl rfl) (pe_op op_add (pv 1) (pe_callTy call_int_str (by rfl) B.int (by decide +kernel) (pa_cons (pv 2) pa_nil))))
      (pss_cons (ps_if (pt_cmpR op_gt (pv 3) (pe_callB call_len_str (by rfl) B.len (by decide +kernel) (pa_cons (pv 0) pa_nil)) (nomark _))
        (pss_one ps_never)
        pss_nil)
      (pss_one (ps_ret (pe_tup (pa_cons (pe_slice sl_str (pv 0) (po_some (pv 1)) (po_some (pv 3))) (pa_cons (pv 3) pa_nil)))))))), ?_⟩
    have h6 : (numL y.length).length ≤ 6 := numL_len (by decide) hy
    refine ⟨_, rfl, _, rfl, z, n, 58, 6, numL y.length, tl y ++ l, (by rw [← sgColon]; rfl), hA, hl, dig_num _, numL_ne _, (by omega), numL_head _, (by omega), fun p H' hS hp => ?_⟩
    refine ⟨p, _, rfl, SqT.of hp, rfl, _, _, rfl, _, _, rfl, rfl, ?_⟩
    refine ⟨_, rfl, _, rfl, _, _, rfl, int_digits (dig_num _) (numL_ne _) (by omega), (by rw [tx_len]; omega), _, _, rfl, rfl, ?_⟩
    rw [numL_val]
    have hA1 : At z (n + (numL y.length).length + 1) (tl y ++ l) := (At.app hA).next
    have hn1 : n + (numL y.length).length + 1 ≤ z.length := by
      have := (At.app hA).lt
      omega
    have hle := hA1.le hn1
    have hcut := hA1.cut hn1
    rw [← len_tl] at hle hcut
    refine ⟨_, rfl, _, rfl, z, rfl, hl, _, _, rfl, rfl, _, rfl, if_f (decide_eq_false (by omega)) ?_⟩
    refine ⟨_, rfl, _, rfl, _, rfl, _, rfl, _, rfl, z, rfl, hl, _, rfl, (by show 2 ≤ sizeLine; decide), fun p2 hp2 => ?_⟩
    refine q p2 _ (hS.trans (same_new hp2 _)) ?_
    have e1 : (((n + (numL y.length).length + 1 : Nat) : Int) + ((y.length : Nat) : Int)) = ((n + (numL y.length).length + 1 + y.length : Nat) : Int) := by omega
    rw [upd_same]
    show some (HO.tup [V.str (cutS z (some ((n + (numL y.length).length + 1 : Nat) : Int)) (some (((n + (numL y.length).length + 1 : Nat) : Int) + ((y.length : Nat) : Int)))), V.int (((n + (numL y.length).length + 1 : Nat) : Int) + ((y.length : Nat) : Int))]) = _
    rw [e1, hcut, show tx (tl y) = y from mk_tl y]
/-! ### read_item: m deep at most -/
def spReadItem (m : Nat) : Sp := fun vs H Q _ => ∃ (z : Str) (n lvl : Nat) (d : D) (l : List Nat), vs = [.str z, .int (n : Int), .int (lvl : Int)] ∧ At z n (d.enc ++ l) ∧ z.length ≤ sizeLine ∧ d.Good ∧ d.dep < m ∧ lvl + d.dep ≤ 12 ∧
  ∀ p v H', Same H H' → Rp H' v d → H' p = some (.tup [v, .int ((n + d.enc.length : Nat) : Int)]) → Q (.ref p) H'
theorem same_rp {H H' : Hp} (s : Same H H') {v : V} {d : D} (r : Rp H v d) : Rp H' v d := r.mono (fun b xs e => s b _ e) d v
theorem same_rpA {H H' : Hp} (s : Same H H') {vs : List V} {ds : List D} (r : RpA H vs ds) : RpA H' vs ds := r.mono (fun b xs e => s b _ e) ds vs
theorem ok_read_item {m : Nat} (F : Fun K "read_item" "read_item" s_read_item f fd) (B : Bl mg) (D_char_at : Def P w K mg base 1 "char_at" ["text", "index"] spCharAt) (D_read_integer : Def P w K mg base 3 "read_integer" ["text", "index"] spReadInt)
    (D_read_text : Def P w K mg base 3 "read_text" ["text", "index"] spReadText) (D_read_item : Def P w K mg base (m + 4) "read_item" ["text", "index", "level"] (spReadItem m)) : FnOk P w K mg base CX0 (m + 4 + 1) f fd ["text", "index", "level"] (spReadItem (m + 1)) := by
  refine F.ok sc_read_item (fun vs H Q E h => ?_) (fun cdv A outer s H vs Q E hr h => ?_)
  · obtain ⟨z, n, lvl, d, l, rfl, _⟩ := h
    rfl
  · obtain ⟨z, n, lvl, d, l, rfl, hA, hl, hg, hd, hv, q⟩ := h
    refine ⟨_, (pss_cons (ps_set (i := 3) sc_read_item.nd rfl (Or.inl rfl) (D_char_at.call hr (by omega) (pa_cons (pv 0) (pa_cons (pv 1) pa_nil))))
      (pss_cons (ps_if (pt_cmpR op_eq (pv 3) pe_str (nomark _))
        (pss_one (ps_ret (pe_tup (pa_cons pe_non (pa_cons (pe_op op_add (pv 1) pe_int) pa_nil)))))
        pss_nil)
      (pss_cons (ps_if (pt_cmpR op_eq (pv 3) pe_str (nomark _))
        (pss_one (ps_ret (D_read_integer.call hr (by omega) (pa_cons (pv 0) (pa_cons (pe_op op_add (pv 1) pe_int) pa_nil)))))
        pss_nil)
      (pss_cons (ps_if (pt_cmpR op_eq (pv 3) pe_str (nomark _))
        (pss_one (ps_ret (D_read_text.call hr (by omega) (pa_cons (pv 0) (pa_cons (pe_op op_add (pv 1) pe_int) pa_nil)))))
        pss_nil)
      (pss_cons (ps_if (PW.pt (pw_or (pt_cmpR op_ne (pv 3) pe_str (nomark _)) (pw_or1 (pt_cmpR op_eq (pv 2) (pe_gc B.c_MOST_LEVELS) (nomark _)))))
        (pss_one ps_never)
        pss_nil)
      (pss_cons (ps_aug (i := 1) sc_read_item.nd rfl (Or.inl rfl) pe_int ip_add)
      (pss_cons (ps_set (i := 4) sc_read_item.nd rfl (Or.inl rfl) (pe_lst pa_nil))
      (pss_cons (ps_while PassesOwn.never (pt_cmpR op_ne (D_char_at.call hr (by omega) (pa_cons (pv 0) (pa_cons (pv 1) pa_nil))) pe_str (nomark _))
        (pss_cons (ps_asg (D_read_item.call hr (by omega) (pa_cons (pv 0) (pa_cons (pv 1) (pa_cons (pe_op op_add (pv 2) pe_int) pa_nil)))) (pg_tup (by rfl) (pgs_cons (pg_name (i := 5) sc_read_item.nd rfl (Or.inl rfl)) (pgs_cons (pg_name (i := 1) sc_read_item.nd rfl (Or.inl rfl)) pgs_nil))))
        (pss_one (ps_expr (pe_bm PySem.F.plainAttrs_list PySem.F.slot_list_append PySem.F.type_list_append mt_append (pv 4) (pa_cons (pv 5) pa_nil))))))
      (pss_one (ps_ret (pe_tup (pa_cons (pe_callTy call_tuple_of (by rfl) B.tuple (by decide +kernel) (pa_cons (pv 4) pa_nil)) (pa_cons (pe_op op_add (pv 1) pe_int) pa_nil))))))))))))), ?_⟩
    cases d with
    | non =>
      simp only [D.enc] at hA q
      refine ⟨_, rfl, _, rfl, z, n, 110, rfl, At.get hA, hl, ?_⟩
      refine ⟨_, rfl, rfl, _, rfl, if_t (sg_yes sgN) ?_⟩
      refine ⟨_, rfl, _, _, rfl, rfl, (by show 2 ≤ sizeLine; decide), fun p hp => ?_⟩
      exact q p _ _ (same_new hp _) .non upd_same
    | int i =>
      simp only [D.enc] at hA q
      refine ⟨_, rfl, _, rfl, z, n, 105, rfl, At.get hA, hl, ?_⟩
      refine ⟨_, rfl, rfl, _, rfl, if_f (sg_no sgN (by decide)) ?_⟩
      refine ⟨_, rfl, rfl, _, rfl, if_t (sg_yes sgI) ?_⟩
      refine ⟨_, rfl, _, rfl, _, _, rfl, rfl, z, n + 1, i, l, rfl, (by have := At.next hA; simpa using this), hl, hg, fun p H' hS hp => ?_⟩
      refine q p _ H' hS (.int i) ?_
      rw [hp, List.length_cons, List.length_append, List.length_singleton, show n + 1 + (numI i).length + 1 = n + ((numI i).length + 1 + 1) by omega]
    | str y =>
      simp only [D.enc] at hA q
      refine ⟨_, rfl, _, rfl, z, n, 116, rfl, At.get hA, hl, ?_⟩
      refine ⟨_, rfl, rfl, _, rfl, if_f (sg_no sgN (by decide)) ?_⟩
      refine ⟨_, rfl, rfl, _, rfl, if_f (sg_no sgI (by decide)) ?_⟩
      refine ⟨_, rfl, rfl, _, rfl, if_t (sg_yes sgT) ?_⟩
      refine ⟨_, rfl, _, rfl, _, _, rfl, rfl, z, n + 1, y, l, rfl, (by have := At.next hA; simpa using this), hl, hg, fun p H' hS hp => ?_⟩
      refine q p _ H' hS (.str y) ?_
      rw [hp, List.length_cons, List.length_append, List.length_cons, len_tl y, show n + 1 + (numL (tl y).length).length + 1 + (tl y).length = n + ((numL (tl y).length).length + ((tl y).length + 1) + 1) by omega]
    | tup ds =>
      simp only [D.enc] at hA q
      have hdep : D.depA ds + 1 < m + 1 := by simpa only [D.dep] using hd
      have hlv : lvl + (D.depA ds + 1) ≤ 12 := by simpa only [D.dep] using hv
      have hga : D.GoodA ds := by simpa only [D.Good] using hg
      refine ⟨_, rfl, _, rfl, z, n, 40, rfl, At.get hA, hl, ?_⟩
      refine ⟨_, rfl, rfl, _, rfl, if_f (sg_no sgN (by decide)) ?_⟩
      refine ⟨_, rfl, rfl, _, rfl, if_f (sg_no sgI (by decide)) ?_⟩
      refine ⟨_, rfl, rfl, _, rfl, if_f (sg_no sgT (by decide)) ?_⟩
      refine ⟨_, rfl, rfl, _, rfl, if_f (sg_neF sgOpen) ?_⟩
      refine ⟨_, rfl, rfl, _, rfl, if_f (decide_eq_false (fun z => by
        have := V.int.inj z
        omega)) ?_⟩
      refine ⟨_, rfl, _, _, rfl, rfl, ?_⟩
      refine ⟨(by show 0 ≤ sizeLine; decide), fun pl hpl => ?_⟩
      have hA1 : At z (n + 1) (D.encA ds ++ (41 :: l)) := by
        have := At.next hA
        simpa using this
      have hsz : ∀ ds' : List D, ds'.length ≤ (D.encA ds').length := by
        intro ds'
        induction ds' with
        | nil => simp
        | cons d r ih =>
          have := enc_pos d
          simp only [D.encA, List.length_cons, List.length_append]
          omega
      have hle := hA1.le (by
        have := (show At z n (40 :: (D.encA ds ++ [41] ++ l)) from hA).lt
        omega)
      have hlds := hsz ds
      refine ⟨fun k σ H' => ∃ (a b : List D) (xs : List V) (it : Option V), a ++ b = ds ∧ b.length = k ∧ σ = [some (.str z), some (.int ((n + 1 + (D.encA a).length : Nat) : Int)), some (.int (lvl : Int)), some (.str (sg 40)), some (.ref pl), it] ∧
        H' pl = some (.lst xs) ∧ RpA H' xs a ∧ Same H H', ⟨ds.length, [], ds, [], none, rfl, rfl, rfl, upd_same, .nil, same_new hpl _⟩, ?_⟩
      rintro k σ H' ⟨a, b, xs, it, hab, hk, rfl, hx, hr', hS⟩
      have hAb : At z (n + 1 + (D.encA a).length) (D.encA b ++ (41 :: l)) := by
        rw [← hab, encA_app, List.append_assoc] at hA1
        exact hA1.app
      have hla := hr'.length
      have hlab : a.length + b.length = ds.length := by rw [← hab, List.length_append]
      cases b with
      | nil =>
        have hA2 : At z (n + 1 + (D.encA a).length) (41 :: l) := hAb
        refine ⟨_, rfl, _, rfl, z, _, 41, rfl, hA2.get, hl, rfl, _, rfl, if_f (sg_neF sgClose) ?_⟩
        rw [List.append_nil] at hab
        subst hab
        refine ⟨_, rfl, pl, xs, rfl, .inl ⟨SqL.of hx, fun pt hpt => ?_⟩⟩
        refine ⟨_, rfl, _, _, rfl, rfl, (by show 2 ≤ sizeLine; decide), fun p hp => ?_⟩
        have s1 : Same H' (upd H' pt (.tup xs)) := same_new hpt _
        have s2 : Same H' (upd (upd H' pt (.tup xs)) p (.tup [.ref pt, .int (((n + 1 + (D.encA a).length : Nat) : Int) + 1)])) := s1.trans (same_new hp _)
        refine q p _ _ (hS.trans s2) (.tup (by rw [upd_ne (ne_of_none upd_same hp), upd_same]) (same_rpA s2 hr')) ?_
        rw [upd_same, List.length_cons, List.length_append, List.length_singleton]
        show some (HO.tup [_, V.int (((n + 1 + (D.encA a).length : Nat) : Int) + 1)]) = _
        rw [show (((n + 1 + (D.encA a).length : Nat) : Int) + 1) = ((n + ((D.encA a).length + 1 + 1) : Nat) : Int) by omega]
      | cons d b =>
        obtain ⟨c, r, ec, nc⟩ := enc_head d
        have hA2 : At z (n + 1 + (D.encA a).length) (d.enc ++ (D.encA b ++ (41 :: l))) := by
          simpa only [D.encA, List.append_assoc] using hAb
        have hA3 := hA2
        rw [ec] at hA3
        have hmem : d ∈ ds := by rw [← hab]; simp
        have hdd := depA_mem hmem
        refine ⟨_, rfl, _, rfl, z, _, c, rfl, At.get hA3, hl, rfl, _, rfl, if_t (sg_neT sgClose nc) ?_⟩
        refine ⟨fun σ' H'' => ∃ k', k' < k ∧ ∃ (a b : List D) (xs : List V) (it : Option V), a ++ b = ds ∧ b.length = k' ∧ σ' = [some (.str z), some (.int ((n + 1 + (D.encA a).length : Nat) : Int)), some (.int (lvl : Int)), some (.str (sg 40)), some (.ref pl), it] ∧
          H'' pl = some (.lst xs) ∧ RpA H'' xs a ∧ Same H H'', fun _ _ h => h, ?_⟩
        refine ⟨_, rfl, _, rfl, _, rfl, _, _, rfl, rfl, z, n + 1 + (D.encA a).length, lvl + 1, d, D.encA b ++ (41 :: l), (by simp), hA2, hl, goodA_mem hga hmem, by omega, by omega, fun p v H2 s2 rv hp => ?_⟩
        refine ⟨p, _, rfl, SqT.of hp, rfl, _, _, rfl, _, _, rfl, rfl, ?_⟩
        refine ⟨_, rfl, .inl ⟨rfl, _, SqL.of (s2 _ _ hx)⟩, _, rfl, pl, xs, v, rfl, rfl, s2 _ _ hx, ?_, ?_⟩
        · rw [hla]
          simp only [List.length_cons] at hlab
          omega
        · refine ⟨b.length, by rw [← hk]; simp, a ++ [d], b, xs ++ [v], some v, by rw [← hab]; simp, rfl, ?_, upd_same, ?_, ?_⟩
          · rw [encA_app, List.length_append]
            show _ = [some (V.str z), some (V.int ((n + 1 + ((D.encA a).length + (D.encA [d]).length) : Nat) : Int)), _, _, _, _]
            rw [show D.encA [d] = d.enc ++ [] from rfl, List.append_nil, show n + 1 + (D.encA a).length + d.enc.length = n + 1 + ((D.encA a).length + d.enc.length) by omega]
            rfl
          · have nt : ∀ b xs', H2 b = some (.tup xs') → (upd H2 pl (.lst (xs ++ [v]))) b = some (.tup xs') := fun b xs' e => by
              rw [upd_ne (ne_of e (s2 _ _ hx) (by intro z; cases z))]
              exact e
            exact (RpA.snoc rv (same_rpA s2 hr')).mono nt _ _
          · exact same_mut (hS.trans s2) hpl _
theorem item_none : FnOk P w K mg base CX0 4 f fd ["text", "index", "level"] (spReadItem 0) := by
  have no : ∀ vs H Q E, ¬ spReadItem 0 vs H Q E := fun vs H Q E h => by
    obtain ⟨z, n, lvl, d, l, _, _, _, _, hd, _⟩ := h
    omega
  exact ⟨fun vs H Q E h => absurd h (no vs H Q E), fun A outer s H args us vs Q E _ _ _ _ h => absurd h (no vs H Q E)⟩
theorem item_all (F : Fun K "read_item" "read_item" s_read_item f fd) (m0 : mg "read_item" = some (.ref f)) (b : Binds K fd ["text", "index", "level"] []) (B : Bl mg) (D_char_at : Def P w K mg base 1 "char_at" ["text", "index"] spCharAt) (D_read_integer : Def P w K mg base 3 "read_integer" ["text", "index"] spReadInt)
    (D_read_text : Def P w K mg base 3 "read_text" ["text", "index"] spReadText) : ∀ m : Nat, FnOk P w K mg base CX0 (m + 4) f fd ["text", "index", "level"] (spReadItem m)
  | 0 => item_none
  | m + 1 => (ok_read_item F B D_char_at D_read_integer D_read_text (mkDef F m0 b (item_all F m0 b B D_char_at D_read_integer D_read_text m))).mono (by omega)
/-! ### decode -/
def spDecodePrefix : Sp := fun vs H Q _ => ∃ (z : Str) (n : Nat) (d : D) (l : List Nat), vs = [.str z, .int (n : Int)] ∧ At z n (d.enc ++ l) ∧ z.length ≤ sizeLine ∧ d.Good ∧ d.dep ≤ 12 ∧
  ∀ p v H', Same H H' → Rp H' v d → H' p = some (.tup [v, .int ((n + d.enc.length : Nat) : Int)]) → Q (.ref p) H'
theorem ok_decode_prefix (F : Fun K "decode_prefix" "decode_prefix" s_decode_prefix f fd) (D_read_item : Def P w K mg base 17 "read_item" ["text", "index", "level"] (spReadItem 13)) : FnOk P w K mg base CX0 18 f fd ["text", "index"] spDecodePrefix := by
  refine F.ok sc_decode_prefix (fun vs H Q E h => ?_) (fun cdv A outer s H vs Q E hr h => ?_)
  · obtain ⟨z, n, d, l, rfl, _⟩ := h
    rfl
  · obtain ⟨z, n, d, l, rfl, hA, hl, hg, hd, q⟩ := h
    refine ⟨_, (pss_one (ps_ret (D_read_item.call hr (by omega) (pa_cons (pv 0) (pa_cons (pv 1) (pa_cons pe_int pa_nil)))))), ?_⟩
    exact ⟨_, rfl, _, rfl, z, n, 0, d, l, rfl, hA, hl, hg, by omega, by omega, q⟩
/-- decode of a text that an item writes -/
def spDecode : Sp := fun vs H Q _ => ∃ (d : D), vs = [.str (tx d.enc)] ∧ d.enc.length ≤ sizeLine ∧ d.Good ∧ d.dep ≤ 12 ∧ ∀ v H', Same H H' → Rp H' v d → Q v H'
theorem ok_decode (F : Fun K "decode" "decode" s_decode f fd) (B : Bl mg) (D_decode_prefix : Def P w K mg base 18 "decode_prefix" ["text", "index"] spDecodePrefix) : FnOk P w K mg base CX0 19 f fd ["text"] spDecode := by
  refine F.ok sc_decode (fun vs H Q E h => ?_) (fun cdv A outer s H vs Q E hr h => ?_)
  · obtain ⟨d, rfl, _⟩ := h
    rfl
  · obtain ⟨d, rfl, hl, hg, hd, q⟩ := h
    refine ⟨_, (pss_cons (ps_try_thru0 (pss_one (ps_asg (D_decode_prefix.call hr (by omega) (pa_cons (pv 0) (pa_cons pe_int pa_nil))) (pg_tup (by rfl) (pgs_cons (pg_name (i := 1) sc_decode.nd rfl (Or.inl rfl)) (pgs_cons (pg_name (i := 2) sc_decode.nd rfl (Or.inl rfl)) pgs_nil))))))
      (pss_cons (ps_if (pt_cmpR op_lt (pv 2) (pe_callB call_len_str (by rfl) B.len (by decide +kernel) (pa_cons (pv 0) pa_nil)) (nomark _))
        (pss_one ps_never)
        pss_nil)
      (pss_one (ps_ret (pv 1))))), ?_⟩
    have hz : (tx d.enc).length = d.enc.length := tx_len _
    refine ⟨_, rfl, tx d.enc, 0, d, [], rfl, (by show (tl (tx d.enc)).drop 0 = _; rw [List.append_nil]; rfl), by rw [hz]; exact hl, hg, hd, fun p v H' hS hv hp => ?_⟩
    refine ⟨p, _, rfl, SqT.of hp, rfl, _, _, rfl, _, _, rfl, rfl, ?_⟩
    refine ⟨_, rfl, _, rfl, _, rfl, by rw [hz]; exact hl, _, _, rfl, rfl, _, rfl, if_f (decide_eq_false (by rw [hz]; omega)) ?_⟩
    exact ⟨_, rfl, q v H' hS hv⟩
end
end My
set_option Elab.async false
set_option linter.all false
set_option maxRecDepth 100000
set_option maxHeartbeats 4000000
/-! Chunks as items, their children; the book. -/
namespace My
open PySem L2 TL
/-! ### fields -/
theorem lk_here {k : Str} {v : V} {r : List (Str × V)} : List.lookup k ((k, v) :: r) = some v := by
  have e : (k == k) = true := beq_self_eq_true k
  simp only [List.lookup, e]
theorem lk_past {k g : Str} {v : V} {r : List (Str × V)} (h : (k == g) = false) : List.lookup k ((g, v) :: r) = List.lookup k r := by
  simp only [List.lookup, h]
theorem put_here {f : Str} {v x : V} {r : List (Str × V)} : putF f v ((f, x) :: r) = (f, v) :: r := if_pos rfl
theorem put_past {f g : Str} {v x : V} {r : List (Str × V)} (h : ¬ g = f) : putF f v ((g, x) :: r) = (g, x) :: putF f v r := if_neg h
/-! ### chunks -/
inductive Chunk : D → List Int → Prop
  | rows (r : List D) : Chunk (.tup [.str "rows", .tup r]) []
  | node (n : Int) (es : List (D × Int × Int)) : Chunk (.tup [.str "node", .int n, .tup (es.map fun e => .tup [e.1, .int e.2.1, .int e.2.2])]) (es.map fun e => e.2.1)
  | state (ts : List (D × D × Int)) : Chunk (.tup [.str "state", .tup (ts.map fun t => .tup [t.1, t.2.1, .int t.2.2])]) (ts.map fun t => t.2.2)
  | commit (s : Int) (ps : List Int) (m : D) : Chunk (.tup [.str "commit", .int s, .tup (ps.map D.int), m]) (s :: ps)
theorem map_int_inj {a b : List Int} (h : a.map D.int = b.map D.int) : a = b := by
  induction a generalizing b with
  | nil => cases b with
    | nil => rfl
    | cons y b => simp at h
  | cons x a ih => cases b with
    | nil => simp at h
    | cons y b =>
      simp only [List.map_cons, List.cons.injEq, D.int.injEq] at h
      rw [h.1, ih h.2]
theorem map_node_inj {a b : List (D × Int × Int)} (h : a.map (fun e => D.tup [e.1, .int e.2.1, .int e.2.2]) = b.map (fun e => D.tup [e.1, .int e.2.1, .int e.2.2])) : a = b := by
  induction a generalizing b with
  | nil => cases b with
    | nil => rfl
    | cons y b => simp at h
  | cons x a ih => cases b with
    | nil => simp at h
    | cons y b =>
      simp only [List.map_cons, List.cons.injEq, D.tup.injEq, D.int.injEq, and_true] at h
      obtain ⟨⟨h1, h2, h3⟩, h4⟩ := h
      rw [ih h4, show x = y from Prod.ext h1 (Prod.ext h2 h3)]
theorem map_state_inj {a b : List (D × D × Int)} (h : a.map (fun t => D.tup [t.1, t.2.1, .int t.2.2]) = b.map (fun t => D.tup [t.1, t.2.1, .int t.2.2])) : a = b := by
  induction a generalizing b with
  | nil => cases b with
    | nil => rfl
    | cons y b => simp at h
  | cons x a ih => cases b with
    | nil => simp at h
    | cons y b =>
      simp only [List.map_cons, List.cons.injEq, D.tup.injEq, D.int.injEq, and_true] at h
      obtain ⟨⟨h1, h2, h3⟩, h4⟩ := h
      rw [ih h4, show x = y from Prod.ext h1 (Prod.ext h2 h3)]
theorem nRN : ("rows" : Str) ≠ "node" := by decide +kernel
theorem nRS : ("rows" : Str) ≠ "state" := by decide +kernel
theorem nRC : ("rows" : Str) ≠ "commit" := by decide +kernel
theorem nNS : ("node" : Str) ≠ "state" := by decide +kernel
theorem nNC : ("node" : Str) ≠ "commit" := by decide +kernel
theorem nSC : ("state" : Str) ≠ "commit" := by decide +kernel
theorem Chunk.uniq {d : D} {ks js : List Int} (h : Chunk d ks) (g : Chunk d js) : ks = js := by
  cases h with
  | rows r =>
    generalize e : D.tup [.str "rows", .tup r] = x at g
    cases g with
    | rows r' => rfl
    | node n es => simp only [D.tup.injEq, List.cons.injEq, D.str.injEq] at e; exact absurd e.1 nRN
    | state ts => simp only [D.tup.injEq, List.cons.injEq, D.str.injEq] at e; exact absurd e.1 nRS
    | commit s ps m => simp only [D.tup.injEq, List.cons.injEq, D.str.injEq] at e; exact absurd e.1 nRC
  | node n es =>
    generalize e : D.tup [.str "node", .int n, .tup (es.map fun e => .tup [e.1, .int e.2.1, .int e.2.2])] = x at g
    cases g with
    | rows r' => simp only [D.tup.injEq, List.cons.injEq, D.str.injEq] at e; exact absurd e.1.symm nRN
    | node n es' =>
      simp only [D.tup.injEq, List.cons.injEq, D.str.injEq, true_and, and_true] at e
      rw [map_node_inj e.2]
    | state ts => simp only [D.tup.injEq, List.cons.injEq, D.str.injEq] at e; exact absurd e.1 nNS
    | commit s ps m => simp only [D.tup.injEq, List.cons.injEq, D.str.injEq] at e; exact absurd e.1 nNC
  | state ts =>
    generalize e : D.tup [.str "state", .tup (ts.map fun t => .tup [t.1, t.2.1, .int t.2.2])] = x at g
    cases g with
    | rows r' => simp only [D.tup.injEq, List.cons.injEq, D.str.injEq] at e; exact absurd e.1.symm nRS
    | node n es' => simp only [D.tup.injEq, List.cons.injEq, D.str.injEq] at e; exact absurd e.1.symm nNS
    | state ts' =>
      simp only [D.tup.injEq, List.cons.injEq, D.str.injEq, true_and, and_true] at e
      rw [map_state_inj e]
    | commit s ps m => simp only [D.tup.injEq, List.cons.injEq, D.str.injEq] at e; exact absurd e.1 nSC
  | commit s ps m =>
    generalize e : D.tup [.str "commit", .int s, .tup (ps.map D.int), m] = x at g
    cases g with
    | rows r' => simp only [D.tup.injEq, List.cons.injEq, D.str.injEq] at e; exact absurd e.1.symm nRC
    | node n es' => simp only [D.tup.injEq, List.cons.injEq, D.str.injEq] at e; exact absurd e.1.symm nNC
    | state ts' => simp only [D.tup.injEq, List.cons.injEq, D.str.injEq] at e; exact absurd e.1.symm nSC
    | commit s' ps' m' =>
      simp only [D.tup.injEq, List.cons.injEq, D.int.injEq, true_and, and_true] at e
      obtain ⟨e1, e2, _⟩ := e
      rw [e1, map_int_inj e2]
theorem str_no {a b : Str} (h : a ≠ b) : decide (V.str a = V.str b) = false := decide_eq_false fun q => h (V.str.inj q)
theorem str_yes {a : Str} : decide (V.str a = V.str a) = true := decide_eq_true rfl
theorem at0 {α : Type} {x : α} {r : List α} : atI (x :: r) 0 = some x := atI_nat (j := 0) rfl
theorem at1 {α : Type} {x y : α} {r : List α} : atI (x :: y :: r) 1 = some y := atI_nat (j := 1) rfl
theorem at2 {α : Type} {x y z : α} {r : List α} : atI (x :: y :: z :: r) 2 = some z := atI_nat (j := 2) rfl
section
variable {P : Program} {w : World} {K : PySem.W.Frag} {mg : Str → Option Value} {base : Heap} {f : Addr} {fd : FuncData}
def spChildren : Sp := fun vs H Q _ => ∃ (d : D) (ks : List Int), vs = [.str (tx d.enc)] ∧ Chunk d ks ∧ d.enc.length ≤ 1000000 ∧ d.Good ∧ d.dep ≤ 12 ∧ ∀ p H', Same H H' → H p = none → H' p = some (.lst (ks.map V.int)) → Q (.ref p) H'
/-- the entries' own places in a list of rows of three, the third or the second -/
theorem encA_len : ∀ ds : List D, ds.length ≤ (D.encA ds).length
  | [] => Nat.zero_le _
  | d :: r => by
    have := enc_pos d
    have := encA_len r
    simp only [D.encA, List.length_cons, List.length_append]
    omega
theorem ints_rep : ∀ {H : Hp} {ns : List Int} {xs : List V}, RpA H xs (ns.map D.int) → xs = ns.map V.int
  | _, [], _, h => by cases h; rfl
  | _, n :: ns, _, h => by
    cases h with
    | cons h1 h2 =>
      cases h1
      rw [ints_rep h2]
      rfl
theorem ok_children (F : Fun K "children" "children" s_children f fd) (B : Bl mg) (D_decode : Def P w K mg base 19 "decode" ["text"] spDecode) : FnOk P w K mg base CX0 20 f fd ["text"] spChildren := by
  refine F.ok sc_children (fun vs H Q E h => ?_) (fun cdv A outer s H vs Q E hr h => ?_)
  · obtain ⟨d, ks, rfl, _⟩ := h
    rfl
  · obtain ⟨d, ks, rfl, hc, hl, hg, hd, q⟩ := h
    refine ⟨_, (pss_cons (ps_set (i := 1) sc_children.nd rfl (Or.inl rfl) (D_decode.call hr (by omega) (pa_cons (pv 0) pa_nil)))
      (pss_cons (ps_if (pt_cmpR op_eq (pe_ix ix_tup (pv 1) pe_int (fun _ _ => rfl)) pe_str (nomark _))
        (pss_one (ps_ret (pe_lc (own := [("entry", 2)]) (g := gName 2) (tt := tYes) rfl sc_children.nd (pi_tup (pe_ix ix_tup (pv 1) pe_int (fun _ _ => rfl))) (blkOk_by (own := [("entry", 2)]) (N := N_children) (sc := defScope s_children) (by decide +kernel)) (fun _ _ _ _ _ => (pg_name (i := 2) sc_children.nd rfl (Or.inl rfl))) (fun _ _ _ _ _ => pts_nil) (fun _ _ _ _ _ => (pe_ix (r := rIxT K) ix_tup (pv 2) pe_int (fun _ _ => rfl))))))
        pss_nil)
      (pss_cons (ps_if (pt_cmpR op_eq (pe_ix ix_tup (pv 1) pe_int (fun _ _ => rfl)) pe_str (nomark _))
        (pss_one (ps_ret (pe_lc (own := [("table", 3)]) (g := gName 3) (tt := tYes) rfl sc_children.nd (pi_tup (pe_ix ix_tup (pv 1) pe_int (fun _ _ => rfl))) (blkOk_by (own := [("table", 3)]) (N := N_children) (sc := defScope s_children) (by decide +kernel)) (fun _ _ _ _ _ => (pg_name (i := 3) sc_children.nd rfl (Or.inl rfl))) (fun _ _ _ _ _ => pts_nil) (fun _ _ _ _ _ => (pe_ix (r := rIxT K) ix_tup (pv 3) pe_int (fun _ _ => rfl))))))
        pss_nil)
      (pss_cons (ps_if (pt_cmpR op_eq (pe_ix ix_tup (pv 1) pe_int (fun _ _ => rfl)) pe_str (nomark _))
        (pss_one (ps_ret (pe_op op_cat (pe_lst (pa_cons (pe_ix ix_tup (pv 1) pe_int (fun _ _ => rfl)) pa_nil)) (pe_callTy call_list_of (by rfl) B.list (by decide +kernel) (pa_cons (pe_ix ix_tup (pv 1) pe_int (fun _ _ => rfl)) pa_nil)))))
        pss_nil)
      (pss_one (ps_ret (pe_lst pa_nil))))))), ?_⟩
    refine ⟨_, rfl, d, rfl, sz hl, hg, hd, fun v H1 s1 rv => ?_⟩
    cases hc with
    | rows r =>
      cases rv with
      | @tup a xs ds ha hx =>
      cases hx with
      | cons h1 hx =>
      cases h1
      have sa := SqT.of (K := K) ha
      refine ⟨_, rfl, a, _, _, _, rfl, rfl, sa, at0, rfl, _, rfl, if_f (str_no nRN) ?_⟩
      refine ⟨_, rfl, a, _, _, _, rfl, rfl, sa, at0, rfl, _, rfl, if_f (str_no nRS) ?_⟩
      refine ⟨_, rfl, a, _, _, _, rfl, rfl, sa, at0, rfl, _, rfl, if_f (str_no nRC) ?_⟩
      refine ⟨(by show 0 ≤ sizeLine; decide), fun p hp => ?_⟩
      exact q p _ (s1.trans (same_new hp _)) (s1.free hp) upd_same
    | node n es =>
      cases rv with
      | @tup a xs ds ha hx =>
      cases hx with
      | cons h1 hx =>
      cases h1
      cases hx with
      | cons h2 hx =>
      cases h2
      cases hx with
      | cons h3 hx =>
      cases hx
      cases h3 with
      | @tup b ys ds hb hy =>
      have sa := SqT.of (K := K) ha
      refine ⟨_, rfl, a, _, _, _, rfl, rfl, sa, at0, rfl, _, rfl, if_t str_yes ?_⟩
      refine ⟨_, rfl, a, _, _, _, rfl, rfl, sa, at2, b, rfl, ⟨_, SqT.of hb⟩, fun p hp => ?_⟩
      have hlen : ys.length = es.length := by rw [hy.length, List.length_map]
      have hesz : es.length < 1000000 := by
        have e1 := encA_len (es.map fun e => D.tup [e.1, .int e.2.1, .int e.2.2])
        simp only [D.enc, D.encA, List.length_cons, List.length_append, List.length_map] at hl e1
        omega
      refine lc_tup (K := K) (a := b) (xs := ys) (fun i H2 => H2 = upd H1 p (.lst ((es.take i).map fun e => V.int e.2.1))) rfl (fun i H2 _ e => by
        rw [e]
        exact SqT.of (by rw [upd_ne (ne_of_none hb hp)]; exact hb)) ?_ ?_
      · rintro i x H2 hi rfl
        obtain ⟨dd, hdd, rx⟩ := hy.get hi
        rw [List.getElem?_map] at hdd
        cases ee : es[i]? with
        | none => rw [ee] at hdd; cases hdd
        | some e =>
          rw [ee] at hdd
          cases hdd
          cases rx with
          | @tup c zs ds hc hz =>
          cases hz with
          | cons z1 hz =>
          cases hz with
          | cons z2 hz =>
          cases z2
          refine ⟨rfl, ?_⟩
          refine lc_yes ?_
          refine ⟨_, rfl, c, _, _, _, rfl, rfl, SqT.of (by rw [upd_ne (ne_of_none hc hp)]; exact hc), at1, _, upd_same, ?_, ?_⟩
          · rw [List.length_map, List.length_take]
            refine szlt ?_
            omega
          · rw [upd_upd, List.take_add_one, ee, Option.toList_some, List.map_append]
            rfl
      · rintro H2 rfl
        rw [hlen, List.take_length]
        refine q p _ (s1.trans (same_new hp _)) (s1.free hp) ?_
        rw [upd_same, List.map_map]
        rfl
    | state ts =>
      cases rv with
      | @tup a xs ds ha hx =>
      cases hx with
      | cons h1 hx =>
      cases h1
      cases hx with
      | cons h3 hx =>
      cases hx
      cases h3 with
      | @tup b ys ds hb hy =>
      have sa := SqT.of (K := K) ha
      refine ⟨_, rfl, a, _, _, _, rfl, rfl, sa, at0, rfl, _, rfl, if_f (str_no nNS.symm) ?_⟩
      refine ⟨_, rfl, a, _, _, _, rfl, rfl, sa, at0, rfl, _, rfl, if_t str_yes ?_⟩
      refine ⟨_, rfl, a, _, _, _, rfl, rfl, sa, at1, b, rfl, ⟨_, SqT.of hb⟩, fun p hp => ?_⟩
      have hlen : ys.length = ts.length := by rw [hy.length, List.length_map]
      have hesz : ts.length < 1000000 := by
        have e1 := encA_len (ts.map fun t => D.tup [t.1, t.2.1, .int t.2.2])
        simp only [D.enc, D.encA, List.length_cons, List.length_append, List.length_map] at hl e1
        omega
      refine lc_tup (K := K) (a := b) (xs := ys) (fun i H2 => H2 = upd H1 p (.lst ((ts.take i).map fun e => V.int e.2.2))) rfl (fun i H2 _ e => by
        rw [e]
        exact SqT.of (by rw [upd_ne (ne_of_none hb hp)]; exact hb)) ?_ ?_
      · rintro i x H2 hi rfl
        obtain ⟨dd, hdd, rx⟩ := hy.get hi
        rw [List.getElem?_map] at hdd
        cases ee : ts[i]? with
        | none => rw [ee] at hdd; cases hdd
        | some e =>
          rw [ee] at hdd
          cases hdd
          cases rx with
          | @tup c zs ds hc hz =>
          cases hz with
          | cons z1 hz =>
          cases hz with
          | cons z2 hz =>
          cases hz with
          | cons z3 hz =>
          cases z3
          refine ⟨rfl, ?_⟩
          refine lc_yes ?_
          refine ⟨_, rfl, c, _, _, _, rfl, rfl, SqT.of (by rw [upd_ne (ne_of_none hc hp)]; exact hc), at2, _, upd_same, ?_, ?_⟩
          · rw [List.length_map, List.length_take]
            refine szlt ?_
            omega
          · rw [upd_upd, List.take_add_one, ee, Option.toList_some, List.map_append]
            rfl
      · rintro H2 rfl
        rw [hlen, List.take_length]
        refine q p _ (s1.trans (same_new hp _)) (s1.free hp) ?_
        rw [upd_same, List.map_map]
        rfl
    | commit s ps m =>
      cases rv with
      | @tup a xs ds ha hx =>
      cases hx with
      | cons h1 hx =>
      cases h1
      cases hx with
      | cons h2 hx =>
      cases h2
      cases hx with
      | cons h3 hx =>
      cases h3 with
      | @tup b ys ds hb hy =>
      have hys := ints_rep hy
      have sa := SqT.of (K := K) ha
      refine ⟨_, rfl, a, _, _, _, rfl, rfl, sa, at0, rfl, _, rfl, if_f (str_no nNC.symm) ?_⟩
      refine ⟨_, rfl, a, _, _, _, rfl, rfl, sa, at0, rfl, _, rfl, if_f (str_no nSC.symm) ?_⟩
      refine ⟨_, rfl, a, _, _, _, rfl, rfl, sa, at0, rfl, _, rfl, if_t str_yes ?_⟩
      have hesz : ps.length < 1000000 := by
        have e1 := encA_len (ps.map D.int)
        simp only [D.enc, D.encA, List.length_cons, List.length_append, List.length_map] at hl e1
        omega
      refine ⟨_, rfl, a, _, _, _, rfl, rfl, sa, at1, (by show 1 ≤ sizeLine; decide), fun p1 hp1 => ?_⟩
      have k1 : Same H1 (upd H1 p1 (.lst [.int s])) := same_new hp1 _
      refine ⟨_, rfl, a, _, _, _, rfl, rfl, SqT.of (k1 _ _ ha), at2, b, ys, rfl, .inr (SqT.of (k1 _ _ hb)), fun p2 hp2 => ?_⟩
      have k2 := k1.trans (same_new hp2 (.lst ys))
      refine ⟨p1, p2, _, _, rfl, rfl, (by rw [upd_ne (ne_of_none upd_same hp2), upd_same]), upd_same, ?_, fun p3 hp3 => ?_⟩
      · rw [hys, List.length_map]
        exact sz (by simp only [List.length_cons, List.length_nil]; omega)
      · have k3 := k2.trans (same_new hp3 (.lst ([V.int s] ++ ys)))
        refine q p3 _ (s1.trans k3) ((s1.trans k2).free hp3) ?_
        rw [upd_same, hys]
        rfl
end
end My
set_option Elab.async false
set_option linter.all false
set_option maxRecDepth 100000
set_option maxHeartbeats 4000000
/-! The walks of book.py and chunks.py. -/
namespace My
open PySem L2 TL
/-! ### len(o), o of an own class with __len__ -/
def rLenO (C : Addr) (sp : Sp) : List V → Hp → VK → Prop := fun xs H Q => ∃ a dx fs, xs = [.ref a] ∧ H a = some (.ins C dx fs) ∧ sp [.ref a] H (fun v H' => ∃ n : Int, v = .int n ∧ 0 ≤ n ∧ n < 2 ^ 63 ∧ Q (.int n) H') E0
theorem call_lenO {X : Cx} {k kr : Nat} {C : Addr} {sp : Sp} (D : MDef X.prog X.w X.K X.mg X.base k C "__len__" ["self"] sp) (hr : Room kr X.A) (hk : k + 1 ≤ kr) : CallR X (.builtin "len") (rLenO C sp) := by
  intro pins s σ H xs us Q I rv h
  obtain ⟨a, dx, fs, rfl, ha, hsp⟩ := h
  obtain ⟨u, rfl, ru⟩ := rv.one
  cases ru
  obtain ⟨f, fd, F, hm, hb⟩ := D.ex
  obtain ⟨mA, J, _⟩ := ins_get I.hok ha
  obtain ⟨od, J, _⟩ := J.look
  obtain ⟨m0, hF⟩ := I.fr
  refine PySem.W.len_K hF I.ok.mod.kin J hm.at_ hm.fn ?_
  have r2 : Vals [V.ref a] [Value.ref a] := .cons rfl .nil
  refine wpAny_call (codeAny_mono (F.run X.A.in1 X.stack s H ⟨[.ref a], []⟩ [.ref a] [.ref a] _ E0 (hr.mono hk).in1 I.env0.in1 (by
    have := hb s [.ref a] I.kIn (by simp)
    simpa using this) r2 hsp) fun r s' hq => ?_)
  cases r with
  | error e => exact False.elim hq
  | ok fl =>
    cases fl with
    | next => exact False.elim hq
    | brk => exact False.elim hq
    | cont => exact False.elim hq
    | ret u =>
      obtain ⟨v, H', I', rv, n, ev, h0, h1, q⟩ := I.after hq
      subst ev
      obtain ⟨t, rfl⟩ := rv
      exact ⟨⟨h0, h1⟩, .int n, H', I'.tok _, ⟨_, rfl⟩, q⟩
/-! ### the book: texts by their addresses -/
def numsFrom : Nat → List Str → List (Key × V)
  | _, [] => []
  | n, t :: ts => (Sum.inr t, V.int ((n + 1 : Nat) : Int)) :: numsFrom (n + 1) ts
def nums (ts : List Str) : List (Key × V) := numsFrom 0 ts
def adr (ts : List Str) (t : Str) : Nat := ts.idxOf t + 1
def bookAdd (ts : List Str) (t : Str) : List Str := if t ∈ ts then ts else ts ++ [t]
theorem numsFrom_len : ∀ (n : Nat) (ts : List Str), (numsFrom n ts).length = ts.length
  | _, [] => rfl
  | n, t :: ts => congrArg (· + 1) (numsFrom_len (n + 1) ts)
theorem numsFrom_snoc : ∀ (n : Nat) (ts : List Str) (t : Str), numsFrom n (ts ++ [t]) = numsFrom n ts ++ [(Sum.inr t, V.int ((n + ts.length + 1 : Nat) : Int))]
  | n, [], t => rfl
  | n, s :: ts, t => by
    show (Sum.inr s, V.int ((n + 1 : Nat) : Int)) :: numsFrom (n + 1) (ts ++ [t]) = (Sum.inr s, V.int ((n + 1 : Nat) : Int)) :: (numsFrom (n + 1) ts ++ _)
    rw [numsFrom_snoc (n + 1) ts t, List.length_cons, show n + 1 + ts.length + 1 = n + (ts.length + 1) + 1 by omega]
theorem numsFrom_get : ∀ (n : Nat) (ts : List Str) (t : Str), valV (numsFrom n ts) (Sum.inr t : Key) = if t ∈ ts then some (V.int ((n + ts.idxOf t + 1 : Nat) : Int)) else none
  | n, [], t => rfl
  | n, s :: ts, t => by
    unfold numsFrom
    by_cases h : s = t
    · subst h
      rw [valV_pos rfl, if_pos List.mem_cons_self, List.idxOf_cons_self, Nat.add_zero]
    · rw [valV_neg (fun z => h (Sum.inr.inj z)), numsFrom_get (n + 1) ts t]
      have hm : t ∈ s :: ts ↔ t ∈ ts := by simp [Ne.symm h]
      by_cases h2 : t ∈ ts
      · have hb : (s == t) = false := beq_eq_false_iff_ne.mpr h
        rw [if_pos h2, if_pos (hm.mpr h2), List.idxOf_cons, hb, show n + 1 + ts.idxOf t + 1 = n + (ts.idxOf t + 1) + 1 by omega]
        rfl
      · rw [if_neg h2, if_neg (fun z => h2 (hm.mp z))]
theorem nums_get (ts : List Str) (t : Str) : valV (nums ts) (Sum.inr t : Key) = if t ∈ ts then some (V.int (adr ts t : Int)) else none := by
  unfold nums
  rw [numsFrom_get, Nat.zero_add]
  rfl
theorem adr_add (ts : List Str) (t : Str) (h : t ∉ ts) : adr (ts ++ [t]) t = ts.length + 1 := by
  unfold adr
  rw [List.idxOf_append, if_neg h, List.idxOf_cons_self, Nat.zero_add]
theorem bookAdd_in {ts : List Str} {t : Str} (h : t ∈ ts) : bookAdd ts t = ts := if_pos h
theorem bookAdd_new {ts : List Str} {t : Str} (h : t ∉ ts) : bookAdd ts t = ts ++ [t] := if_neg h
theorem mem_bookAdd (ts : List Str) (t : Str) : t ∈ bookAdd ts t := by
  unfold bookAdd
  split
  · assumption
  · simp
theorem bookAdd_len (ts : List Str) (t : Str) : (bookAdd ts t).length ≤ ts.length + 1 := by
  unfold bookAdd
  split
  · omega
  · simp
theorem bookAdd_pre (ts : List Str) (t : Str) : ∃ m, bookAdd ts t = ts ++ m := by
  unfold bookAdd
  split
  · exact ⟨[], by simp⟩
  · exact ⟨[t], rfl⟩
theorem adr_pos (ts : List Str) (t : Str) : 1 ≤ adr ts t := by unfold adr; omega
theorem adr_get {ts : List Str} {t : Str} (h : t ∈ ts) : ts[adr ts t - 1]? = some t := by
  unfold adr
  rw [Nat.add_sub_cancel]
  have hl := List.idxOf_lt_length_of_mem h
  rw [List.getElem?_eq_getElem hl, List.getElem_idxOf hl]
theorem adr_le {ts : List Str} {t : Str} (h : t ∈ ts) : adr ts t ≤ ts.length := List.idxOf_lt_length_of_mem h
theorem adr_of_get {ts : List Str} {t : Str} {i : Nat} (nd : ts.Nodup) (h : ts[i]? = some t) : adr ts t = i + 1 := by
  obtain ⟨h1, h2⟩ := List.getElem?_eq_some_iff.mp h
  unfold adr
  rw [← h2, List.Nodup.idxOf_getElem nd]
def bF (nd : Addr) : List (Str × V) := [("numbers", .ref nd)]
theorem bF_numbers {nd : Addr} : (bF nd).lookup ("numbers" : Str) = some (.ref nd) := lk_here
structure TBook (K : PySem.W.Frag) (C : Addr) : Prop where
  cl : Cls K C
  nN : NoAttr K C "numbers"
structure BookAt (C : Addr) (H : Hp) (bk nd : Addr) (ts : List Str) : Prop where
  ob : ∃ dx, H bk = some (.ins C dx (bF nd))
  dc : H nd = some (.dK (nums ts))
  nodup : ts.Nodup
def spBookInit (C : Addr) : Sp := fun vs H Q _ => ∃ (p dx : Addr), vs = [.ref p] ∧ H p = some (.ins C dx []) ∧ ∀ nd H', H nd = none → nd ≠ p → BookAt C H' p nd [] → (∀ b o, H b = some o → b ≠ p → H' b = some o) → Q .non H'
def spBookAddress (C : Addr) : Sp := fun vs H Q _ => ∃ (bk nd : Addr) (ts : List Str) (t : Str), vs = [.ref bk, .str t] ∧ BookAt C H bk nd ts ∧ ts.length ≤ 500000 ∧
  ∀ H', BookAt C H' bk nd (bookAdd ts t) → Kp (· = nd) H H' → Q (.int (adr (bookAdd ts t) t : Int)) H'
def spBookFind (C : Addr) : Sp := fun vs H Q _ => ∃ (bk nd : Addr) (ts : List Str) (t : Str), vs = [.ref bk, .str t] ∧ BookAt C H bk nd ts ∧ Q (.int (if t ∈ ts then (adr ts t : Int) else 0)) H
def spBookLen (C : Addr) : Sp := fun vs H Q _ => ∃ (bk nd : Addr) (ts : List Str), vs = [.ref bk] ∧ BookAt C H bk nd ts ∧ Q (.int (ts.length : Int)) H
section
variable {P : Program} {w : World} {K : PySem.W.Frag} {mg : Str → Option Value} {base : Heap} {f C : Addr} {fd : FuncData}
theorem ok_book_init (F : Fun K "__init__" "Book.__init__" s_Book_init f fd) (T : TBook K C) : FnOk P w K mg base CX0 1 f fd ["self"] (spBookInit C) := by
  refine F.ok sc_Book_init (fun vs H Q E h => ?_) (fun cdv A outer s H vs Q E hr h => ?_)
  · obtain ⟨p, dx, rfl, _⟩ := h
    rfl
  · obtain ⟨p, dx, rfl, hp, k⟩ := h
    refine ⟨_, (pss_one (ps_fld (pv 0) pe_dnewK rfl)), ?_⟩
    intro d hd
    have npd : p ≠ d := ne_of_none hp hd
    refine ⟨_, rfl, p, C, dx, [], rfl, (by rw [upd_ne npd]; exact hp), T.cl, T.nN, (by show 0 < 1000; decide), ?_⟩
    refine k d _ hd npd.symm ⟨⟨dx, upd_same⟩, by rw [upd_ne npd.symm, upd_same]; rfl, List.nodup_nil⟩ fun b o e hb => ?_
    rw [upd_ne hb, upd_ne (ne_of_none e hd)]
    exact e
theorem ok_book_address (F : Fun K "address" "Book.address" s_Book_address f fd) (B : Bl mg) (T : TBook K C) : FnOk P w K mg base CX0 1 f fd ["self", "text"] (spBookAddress C) := by
  refine F.ok sc_Book_address (fun vs H Q E h => ?_) (fun cdv A outer s H vs Q E hr h => ?_)
  · obtain ⟨bk, nd, ts, t, rfl, _⟩ := h
    rfl
  · obtain ⟨bk, nd, ts, t, rfl, S, hl, k⟩ := h
    have hu := hu_of hr
    obtain ⟨⟨dx, h1⟩, hd, hn⟩ := id S
    have npd : bk ≠ nd := ne_of h1 hd (by intro z; cases z)
    refine ⟨_, (pss_cons (ps_if (pt_cmp (pc_dnotin hu (pv 1) (pe_fld (pv 0) rfl)))
        (pss_one (ps_dput hu (pe_fld (pv 0) rfl) (pv 1) (pe_op op_add (pe_callB call_lenD (by rfl) B.len (by decide +kernel) (pa_cons (pe_fld (pv 0) rfl) pa_nil)) pe_int) rfl))
        pss_nil)
      (pss_one (ps_ret (pe_dget hu (pe_fld (pv 0) rfl) (pv 1) (fun _ _ => rfl))))), ?_⟩
    refine ⟨_, rfl, _, rfl, bk, C, dx, _, _, rfl, h1, T.cl, T.nN, bF_numbers, nd, _, rfl, DGet.k (k := Sum.inr t) hd, _, rfl, ?_⟩
    rw [nums_get]
    by_cases hm : t ∈ ts
    · rw [if_pos hm]
      refine if_f rfl ?_
      refine ⟨_, rfl, bk, C, dx, _, _, rfl, h1, T.cl, T.nN, bF_numbers, _, rfl, nd, V.int (adr ts t : Int), rfl, ?_, ?_⟩
      · have g := DGet.k (k := Sum.inr t) hd
        rw [nums_get, if_pos hm] at g
        exact g
      · have q := k H (by rw [bookAdd_in hm]; exact S) Kp.refl
        rw [bookAdd_in hm] at q
        exact q
    · rw [if_neg hm]
      refine if_t rfl ?_
      have hlen : (nums ts).length = ts.length := numsFrom_len 0 ts
      refine ⟨_, rfl, bk, C, dx, _, _, rfl, h1, T.cl, T.nN, bF_numbers, nd, _, rfl, hd, _, _, rfl, rfl, ?_⟩
      refine ⟨_, rfl, bk, C, dx, _, _, rfl, h1, T.cl, T.nN, bF_numbers, _, rfl, nd, _, rfl, DPut.k (k := Sum.inr t) hd (by rw [hlen]; exact szlt (by omega)), ?_⟩
      have e1 : putK (nums ts) (Sum.inr t : Key) (V.int (((nums ts).length : Int) + 1)) = nums (bookAdd ts t) := by
        rw [putK_new _ (by rw [nums_get, if_neg hm]), bookAdd_new hm, hlen]
        unfold nums
        rw [numsFrom_snoc, Nat.zero_add]
        rfl
      have S' : BookAt C (upd H nd (.dK (nums (bookAdd ts t)))) bk nd (bookAdd ts t) := ⟨⟨dx, by rw [upd_ne npd]; exact h1⟩, upd_same, by
        rw [bookAdd_new hm]
        exact nd_snoc hn hm⟩
      have kp : Kp (· = nd) H (upd H nd (.dK (nums (bookAdd ts t)))) := Kp.refl.set rfl (fun xs z => by rw [hd] at z; cases z)
      have q := k _ S' kp
      rw [e1]
      refine ⟨_, rfl, bk, C, dx, _, _, rfl, (by rw [upd_ne npd]; exact h1), T.cl, T.nN, bF_numbers, _, rfl, nd, V.int (adr (bookAdd ts t) t : Int), rfl, ?_, q⟩
      have g := DGet.k (k := Sum.inr t) S'.dc
      rw [nums_get, if_pos (mem_bookAdd ts t)] at g
      exact g
theorem ok_book_find (F : Fun K "find" "Book.find" s_Book_find f fd) (T : TBook K C) : FnOk P w K mg base CX0 1 f fd ["self", "text"] (spBookFind C) := by
  refine F.ok sc_Book_find (fun vs H Q E h => ?_) (fun cdv A outer s H vs Q E hr h => ?_)
  · obtain ⟨bk, nd, ts, t, rfl, _⟩ := h
    rfl
  · obtain ⟨bk, nd, ts, t, rfl, S, k⟩ := h
    have hu := hu_of hr
    obtain ⟨⟨dx, h1⟩, hd, hn⟩ := id S
    refine ⟨_, (pss_one (ps_ret (pe_dget2 hu (pe_fld (pv 0) rfl) (pv 1) pe_int ⟨rfl, rfl, rfl, rfl⟩))), ?_⟩
    have g := DGet.k (k := Sum.inr t) hd
    rw [nums_get] at g
    refine ⟨_, rfl, bk, C, dx, _, _, rfl, h1, T.cl, T.nN, bF_numbers, nd, rfl, .inl ⟨_, .inl hd⟩, _, rfl, _, g, ?_⟩
    by_cases hm : t ∈ ts
    · rw [if_pos hm] at k ⊢
      exact k
    · rw [if_neg hm] at k ⊢
      exact k
theorem ok_book_len (F : Fun K "__len__" "Book.__len__" s_Book_len f fd) (B : Bl mg) (T : TBook K C) : FnOk P w K mg base CX0 1 f fd ["self"] (spBookLen C) := by
  refine F.ok sc_Book_len (fun vs H Q E h => ?_) (fun cdv A outer s H vs Q E hr h => ?_)
  · obtain ⟨bk, nd, ts, rfl, _⟩ := h
    rfl
  · obtain ⟨bk, nd, ts, rfl, S, k⟩ := h
    obtain ⟨⟨dx, h1⟩, hd, hn⟩ := id S
    refine ⟨_, (pss_one (ps_ret (pe_callB call_lenD (by rfl) B.len (by decide +kernel) (pa_cons (pe_fld (pv 0) rfl) pa_nil)))), ?_⟩
    have hlen : (nums ts).length = ts.length := numsFrom_len 0 ts
    refine ⟨_, rfl, bk, C, dx, _, _, rfl, h1, T.cl, T.nN, bF_numbers, nd, _, rfl, hd, ?_⟩
    rw [hlen]
    exact k
/-- Book() -/
theorem mk_book {σ : L2.St} {H : Hp} {Q : VK} (h : ∀ bk nd H1, Same H H1 → H bk = none → H nd = none → bk ≠ nd → BookAt C H1 bk nd [] → Q (.ref bk) H1) : tMake C (spBookInit C) [] E0 tNil σ H Q := by
  intro x dx nx ndx nex
  refine ⟨x, dx, rfl, upd_same, fun nd H1 hnd hne S kp => ⟨rfl, ?_⟩⟩
  have s0 : Same H (upd (upd H dx (.own x)) x (.ins C dx [])) := (same_new ndx _).trans (same_new (by rw [upd_ne (Ne.symm nex)]; exact nx) _)
  exact h x nd H1 (Same.made nx ndx kp) nx (s0.free hnd) (Ne.symm hne) S
end
end My
set_option Elab.async false
set_option linter.all false
set_option maxRecDepth 100000
set_option maxHeartbeats 4000000
/-! The walk of chunks.py. -/
namespace My
open PySem L2 TL
/-! ### dicts by int keys -/
def mapd (f : Int → V) (as : List Int) : List (Key × V) := as.map fun a => (Sum.inl a, f a)
theorem mapd_get (f : Int → V) : ∀ (as : List Int) (a : Int), valV (mapd f as) (Sum.inl a : Key) = if a ∈ as then some (f a) else none
  | [], a => rfl
  | b :: as, a => by
    show valV ((Sum.inl b, f b) :: mapd f as) (Sum.inl a : Key) = _
    by_cases h : b = a
    · subst h
      rw [valV_pos rfl, if_pos List.mem_cons_self]
    · rw [valV_neg (fun z => h (Sum.inl.inj z)), mapd_get f as a]
      have hm : a ∈ b :: as ↔ a ∈ as := by simp [Ne.symm h]
      by_cases h2 : a ∈ as
      · rw [if_pos h2, if_pos (hm.mpr h2)]
      · rw [if_neg h2, if_neg (fun z => h2 (hm.mp z))]
def asAdd (as : List Int) (a : Int) : List Int := if a ∈ as then as else as ++ [a]
theorem mem_asAdd {as : List Int} {a x : Int} : x ∈ asAdd as a ↔ x ∈ as ∨ x = a := by
  unfold asAdd
  split
  · next h =>
    constructor
    · exact .inl
    · rintro (q | rfl)
      · exact q
      · exact h
  · simp
theorem asAdd_nodup {as : List Int} {a : Int} (h : as.Nodup) : (asAdd as a).Nodup := by
  unfold asAdd
  split
  · exact h
  · next hn => exact nodup_snoc h hn
theorem asAdd_len (as : List Int) (a : Int) : (asAdd as a).length ≤ as.length + 1 := by
  unfold asAdd
  split
  · omega
  · simp
theorem mapd_put {f : Int → V} {as : List Int} (a : Int) : putK (mapd f as) (Sum.inl a : Key) (f a) = mapd f (asAdd as a) := by
  by_cases h : a ∈ as
  · have e : asAdd as a = as := if_pos h
    rw [e]
    unfold putK
    rw [if_pos (by rw [valV_any, mapd_get, if_pos h]; rfl)]
    unfold mapd
    rw [List.map_map]
    refine List.map_congr_left fun b hb => ?_
    show (if (Sum.inl b : Key) = Sum.inl a then ((Sum.inl b : Key), f a) else ((Sum.inl b : Key), f b)) = (Sum.inl b, f b)
    by_cases z : (Sum.inl b : Key) = Sum.inl a
    · rw [if_pos z, Sum.inl.inj z]
    · rw [if_neg z]
  · have e : asAdd as a = as ++ [a] := if_neg h
    rw [e, putK_new _ (by rw [mapd_get, if_neg h])]
    unfold mapd
    rw [List.map_append]
    rfl
theorem mapd_len (f : Int → V) (as : List Int) : (mapd f as).length = as.length := List.length_map _
theorem mapd_keys (f : Int → V) (as : List Int) : (mapd f as).map (fun kv => kV kv.1) = as.map V.int := by
  unfold mapd
  rw [List.map_map]
  rfl
theorem mapd_congr {f g : Int → V} {as : List Int} (h : ∀ a ∈ as, f a = g a) : mapd f as = mapd g as := List.map_congr_left fun a ha => by rw [h a ha]
/-- the text with an address -/
def tOf (ts : List Str) (a : Int) : Str := ts.getD (a - 1).toNat (tx [])
def Adr (ts : List Str) (a : Int) : Prop := 1 ≤ a ∧ a ≤ (ts.length : Int)
theorem tOf_ext {ts m : List Str} {a : Int} (h : Adr ts a) : tOf (ts ++ m) a = tOf ts a := by
  have h1 := h.1
  have h2 := h.2
  unfold tOf
  rw [List.getD_eq_getElem?_getD, List.getD_eq_getElem?_getD, List.getElem?_append_left (by omega)]
theorem Adr.ext {ts m : List Str} {a : Int} (h : Adr ts a) : Adr (ts ++ m) a := ⟨h.1, by have := h.2; rw [List.length_append]; omega⟩
theorem tOf_adr {ts : List Str} {t : Str} (h : t ∈ ts) : tOf ts (adr ts t : Int) = t := by
  have h1 := adr_get h
  have h2 := adr_pos ts t
  unfold tOf
  rw [show ((adr ts t : Nat) : Int) - 1 = ((adr ts t - 1 : Nat) : Int) by omega, Int.toNat_natCast, List.getD_eq_getElem?_getD, h1]
  rfl
theorem adr_Adr {ts : List Str} {t : Str} (h : t ∈ ts) : Adr ts (adr ts t : Int) := by
  have h1 := adr_le h
  have h2 := adr_pos ts t
  exact ⟨by omega, by omega⟩
theorem adr_tOf {ts : List Str} {a : Int} (nd : ts.Nodup) (h : Adr ts a) : ((adr ts (tOf ts a) : Nat) : Int) = a := by
  have h1 := h.1
  have h2 := h.2
  have e : ts[(a - 1).toNat]? = some (tOf ts a) := by
    unfold tOf
    rw [List.getD_eq_getElem?_getD, List.getElem?_eq_getElem (by omega)]
    rfl
  rw [adr_of_get nd e]
  omega
theorem tOf_mem {ts : List Str} {a : Int} (h : Adr ts a) : tOf ts a ∈ ts := by
  have h1 := h.1
  have h2 := h.2
  unfold tOf
  rw [List.getD_eq_getElem?_getD, List.getElem?_eq_getElem (by omega)]
  exact List.getElem_mem _
theorem tOf_inj {ts : List Str} {a b : Int} (nd : ts.Nodup) (ha : Adr ts a) (hb : Adr ts b) (h : tOf ts a = tOf ts b) : a = b := by
  rw [← adr_tOf nd ha, ← adr_tOf nd hb, h]
/-! ### the store -/
def cF (bk : Addr) (r : Int) (cd : Addr) : List (Str × V) := [("book", .ref bk), ("reads", .int r), ("texts", .ref cd)]
theorem cF_book {bk cd : Addr} {r : Int} : (cF bk r cd).lookup ("book" : Str) = some (.ref bk) := lk_here
theorem cF_texts {bk cd : Addr} {r : Int} : (cF bk r cd).lookup ("texts" : Str) = some (.ref cd) := (lk_past (by decide +kernel)).trans ((lk_past (by decide +kernel)).trans lk_here)
theorem cF_reads {bk cd : Addr} {r : Int} : (cF bk r cd).lookup ("reads" : Str) = some (.int r) := (lk_past (by decide +kernel)).trans lk_here
theorem cF_no {bk cd : Addr} {r : Int} {m : Str} (h1 : (m == ("book" : Str)) = false) (h2 : (m == ("reads" : Str)) = false) (h3 : (m == ("texts" : Str)) = false) : (cF bk r cd).lookup m = none :=
  (lk_past h1).trans ((lk_past h2).trans ((lk_past h3).trans rfl))
theorem cF_new {bk cd : Addr} : putF "texts" (.ref cd) (putF "reads" (.int 0) (putF "book" (.ref bk) [])) = cF bk 0 cd := by
  show putF "texts" (.ref cd) (putF "reads" (.int 0) [("book", .ref bk)]) = _
  rw [put_past (by decide +kernel)]
  show putF "texts" (.ref cd) [("book", .ref bk), ("reads", .int 0)] = _
  rw [put_past (by decide +kernel), put_past (by decide +kernel)]
  rfl
theorem cF_put {bk cd : Addr} {r z : Int} : putF "reads" (.int z) (cF bk r cd) = cF bk z cd := by
  unfold cF
  rw [put_past (by decide +kernel), put_here]
structure TChunks (K : PySem.W.Frag) (C : Addr) : Prop where
  cl : Cls K C
  nB : NoAttr K C "book"
  nR : NoAttr K C "reads"
  nT : NoAttr K C "texts"
structure ChAt (C : Addr) (H : Hp) (cc bk cd : Addr) (ts : List Str) (as : List Int) : Prop where
  ob : ∃ dx r, H cc = some (.ins C dx (cF bk r cd))
  dc : H cd = some (.dK (mapd (fun a => .str (tOf ts a)) as))
  nodup : as.Nodup
  ok : ∀ a ∈ as, Adr ts a
def spChInit (C : Addr) : Sp := fun vs H Q _ => ∃ (p dx bk : Addr), vs = [.ref p, .ref bk] ∧ H p = some (.ins C dx []) ∧ ∀ cd H', H cd = none → cd ≠ p → (∀ ts, ChAt C H' p bk cd ts []) → (∀ b o, H b = some o → b ≠ p → H' b = some o) → Q .non H'
def spPut (CB C : Addr) : Sp := fun vs H Q _ => ∃ (cc bk nd cd : Addr) (ts : List Str) (as : List Int) (t : Str), vs = [.ref cc, .str t] ∧ BookAt CB H bk nd ts ∧ ChAt C H cc bk cd ts as ∧ nd ≠ cd ∧ ts.length ≤ 500000 ∧ as.length ≤ 500000 ∧
  ∀ H', BookAt CB H' bk nd (bookAdd ts t) → ChAt C H' cc bk cd (bookAdd ts t) (asAdd as (adr (bookAdd ts t) t)) → Kp (fun b => b = nd ∨ b = cd) H H' → Q (.int (adr (bookAdd ts t) t : Int)) H'
def spHas (C : Addr) : Sp := fun vs H Q _ => ∃ (cc bk cd : Addr) (ts : List Str) (as : List Int) (a : Int), vs = [.ref cc, .int a] ∧ ChAt C H cc bk cd ts as ∧ Q (.bl (decide (a ∈ as))) H
def spAddresses (C : Addr) : Sp := fun vs H Q _ => ∃ (cc bk cd : Addr) (ts : List Str) (as : List Int), vs = [.ref cc] ∧ ChAt C H cc bk cd ts as ∧ ∀ p H', Same H H' → H p = none → H' p = some (.lst ((srt as).map V.int)) → Q (.ref p) H'
def spChLen (C : Addr) : Sp := fun vs H Q _ => ∃ (cc bk cd : Addr) (ts : List Str) (as : List Int), vs = [.ref cc] ∧ ChAt C H cc bk cd ts as ∧ Q (.int (as.length : Int)) H
section
variable {P : Program} {w : World} {K : PySem.W.Frag} {mg : Str → Option Value} {base : Heap} {f CB C : Addr} {fd : FuncData}
theorem ok_ch_init (F : Fun K "__init__" "Chunks.__init__" s_Chunks_init f fd) (T : TChunks K C) : FnOk P w K mg base CX0 1 f fd ["self", "book"] (spChInit C) := by
  refine F.ok sc_Chunks_init (fun vs H Q E h => ?_) (fun cdv A outer s H vs Q E hr h => ?_)
  · obtain ⟨p, dx, bk, rfl, _⟩ := h
    rfl
  · obtain ⟨p, dx, bk, rfl, hp, k⟩ := h
    refine ⟨_, (pss_cons (ps_fld (pv 0) (pv 1) rfl)
      (pss_cons (ps_fld (pv 0) pe_int rfl)
      (pss_one (ps_fld (pv 0) pe_dnewK rfl)))), ?_⟩
    refine ⟨_, rfl, _, rfl, p, C, dx, [], rfl, hp, T.cl, T.nB, (by show 0 < 1000; decide), ?_⟩
    refine ⟨_, rfl, p, C, dx, _, rfl, upd_same, T.cl, T.nR, (by show 1 < 1000; decide), ?_⟩
    intro d hd
    rw [upd_upd] at hd ⊢
    have npd : p ≠ d := ne_of_none upd_same hd
    have hd0 : H d = none := by rw [upd_ne npd.symm] at hd; exact hd
    refine ⟨_, rfl, p, C, dx, _, rfl, (by rw [upd_ne npd, upd_same]), T.cl, T.nT, ?_, ?_⟩
    · show (putF "reads" (V.int 0) [("book", V.ref bk)]).length < 1000
      rw [put_past (by decide +kernel)]
      show 2 < 1000
      decide
    rw [cF_new]
    refine k d _ hd0 npd.symm (fun ts => ⟨⟨dx, 0, upd_same⟩, by rw [upd_ne npd.symm, upd_same]; rfl, List.nodup_nil, fun a h => absurd h List.not_mem_nil⟩) fun b o e hb => ?_
    rw [upd_ne hb, upd_ne (ne_of_none e hd0), upd_ne hb]
    exact e
theorem ok_put (F : Fun K "put" "Chunks.put" s_Chunks_put f fd) (T : TChunks K C) (M_Book_address : MDef P w K mg base 1 CB "address" ["self", "text"] (spBookAddress CB)) : FnOk P w K mg base CX0 2 f fd ["self", "text"] (spPut CB C) := by
  refine F.ok sc_Chunks_put (fun vs H Q E h => ?_) (fun cdv A outer s H vs Q E hr h => ?_)
  · obtain ⟨cc, bk, nd, cd, ts, as, t, rfl, _⟩ := h
    rfl
  · obtain ⟨cc, bk, nd, cd, ts, as, t, rfl, SB, SC, hne, hl, hla, k⟩ := h
    have hu := hu_of hr
    obtain ⟨⟨dx, r, h1⟩, hd, hn, hok⟩ := id SC
    obtain ⟨⟨bx, hb⟩, hnd, _⟩ := id SB
    refine ⟨_, (pss_cons (ps_set (i := 2) sc_Chunks_put.nd rfl (Or.inl rfl) (M_Book_address.call hr (by omega) (pe_fld (pv 0) rfl) (pa_cons (pv 1) pa_nil)))
      (pss_cons (ps_dput hu (pe_fld (pv 0) rfl) (pv 2) (pv 1) rfl)
      (pss_one (ps_ret (pv 2))))), ?_⟩
    refine ⟨_, rfl, cc, C, dx, _, _, rfl, h1, T.cl, T.nB, cF_book, bk, bx, _, rfl, hb, (lk_past (by decide +kernel)).trans rfl, _, rfl, bk, nd, ts, t, rfl, SB, hl, fun H1 SB1 k1 => ?_⟩
    have ncn : cc ≠ nd := ne_of h1 hnd (by intro z; cases z)
    have ncd : cc ≠ cd := ne_of h1 hd (by intro z; cases z)
    have h1' := k1.old _ _ h1 ncn
    have hd' := k1.old _ _ hd (Ne.symm hne)
    obtain ⟨m, em⟩ := bookAdd_pre ts t
    refine ⟨_, rfl, _, rfl, cc, C, dx, _, _, rfl, h1', T.cl, T.nT, cF_texts, _, rfl, cd, _, rfl, DPut.k (k := Sum.inl _) hd' (by rw [mapd_len]; exact szlt (by omega)), ?_⟩
    have e0 : mapd (fun a => V.str (tOf ts a)) as = mapd (fun a => V.str (tOf (bookAdd ts t) a)) as := mapd_congr fun a ha => by rw [em, tOf_ext (hok a ha)]
    have e1 : putK (mapd (fun a => V.str (tOf ts a)) as) (Sum.inl (adr (bookAdd ts t) t : Int) : Key) (V.str t) = mapd (fun a => V.str (tOf (bookAdd ts t) a)) (asAdd as (adr (bookAdd ts t) t)) := by
      rw [e0, ← mapd_put (f := fun a => V.str (tOf (bookAdd ts t) a)), tOf_adr (mem_bookAdd ts t)]
    rw [e1]
    refine ⟨_, rfl, k _ ⟨?_, ?_, SB1.nodup⟩ ⟨⟨dx, r, by rw [upd_ne ncd]; exact h1'⟩, upd_same, asAdd_nodup hn, fun a ha => ?_⟩ ?_⟩
    · obtain ⟨⟨bx', hb'⟩, _, _⟩ := id SB1
      exact ⟨bx', by rw [upd_ne (ne_of hb' hd' (by intro z; cases z))]; exact hb'⟩
    · rw [upd_ne hne]
      exact SB1.dc
    · rcases mem_asAdd.mp ha with q | q
      · rw [em]
        exact (hok a q).ext
      · rw [q]
        exact adr_Adr (mem_bookAdd ts t)
    · exact (k1.mono fun b z => Or.inl z).set (Or.inr rfl) fun xs z => by rw [hd] at z; cases z
theorem ok_has (F : Fun K "has" "Chunks.has" s_Chunks_has f fd) (T : TChunks K C) : FnOk P w K mg base CX0 1 f fd ["self", "address"] (spHas C) := by
  refine F.ok sc_Chunks_has (fun vs H Q E h => ?_) (fun cdv A outer s H vs Q E hr h => ?_)
  · obtain ⟨cc, bk, cd, ts, as, a, rfl, _⟩ := h
    rfl
  · obtain ⟨cc, bk, cd, ts, as, a, rfl, SC, k⟩ := h
    have hu := hu_of hr
    obtain ⟨⟨dx, r, h1⟩, hd, hn, hok⟩ := id SC
    refine ⟨_, (pss_one (ps_ret (pe_cmp (pc_din hu (pv 1) (pe_fld (pv 0) rfl)) rfl))), ?_⟩
    refine ⟨_, rfl, _, rfl, cc, C, dx, _, _, rfl, h1, T.cl, T.nT, cF_texts, cd, _, rfl, DGet.k (k := Sum.inl a) hd, ?_⟩
    rw [mapd_get]
    by_cases hm : a ∈ as
    · rw [if_pos hm]
      rw [decide_eq_true hm] at k
      exact k
    · rw [if_neg hm]
      rw [decide_eq_false hm] at k
      exact k
theorem ok_addresses (F : Fun K "addresses" "Chunks.addresses" s_Chunks_addresses f fd) (B : Bl mg) (T : TChunks K C) : FnOk P w K mg base CX0 1 f fd ["self"] (spAddresses C) := by
  refine F.ok sc_Chunks_addresses (fun vs H Q E h => ?_) (fun cdv A outer s H vs Q E hr h => ?_)
  · obtain ⟨cc, bk, cd, ts, as, rfl, _⟩ := h
    rfl
  · obtain ⟨cc, bk, cd, ts, as, rfl, SC, k⟩ := h
    obtain ⟨⟨dx, r, h1⟩, hd, hn, hok⟩ := id SC
    refine ⟨_, (pss_one (ps_ret (pe_callB cr_sortedI (by rfl) B.sorted (by decide +kernel) (pa_cons (pe_callTy (call_listD rfl) (by rfl) B.list (by decide +kernel) (pa_cons (pe_fld (pv 0) rfl) pa_nil)) pa_nil)))), ?_⟩
    refine ⟨_, rfl, cc, C, dx, _, _, rfl, h1, T.cl, T.nT, cF_texts, cd, _, rfl, .inl hd, fun p hp => ?_⟩
    rw [mapd_keys]
    refine ⟨p, as, rfl, SqL.of upd_same, fun ns' p2 hpm hs hp2 => ?_⟩
    rw [srt_of hpm hs]
    have s1 : Same H (upd H p (.lst (as.map V.int))) := same_new hp _
    exact k p2 _ (s1.trans (same_new hp2 _)) (s1.free hp2) upd_same
theorem ok_ch_len (F : Fun K "__len__" "Chunks.__len__" s_Chunks_len f fd) (B : Bl mg) (T : TChunks K C) : FnOk P w K mg base CX0 1 f fd ["self"] (spChLen C) := by
  refine F.ok sc_Chunks_len (fun vs H Q E h => ?_) (fun cdv A outer s H vs Q E hr h => ?_)
  · obtain ⟨cc, bk, cd, ts, as, rfl, _⟩ := h
    rfl
  · obtain ⟨cc, bk, cd, ts, as, rfl, SC, k⟩ := h
    obtain ⟨⟨dx, r, h1⟩, hd, hn, hok⟩ := id SC
    refine ⟨_, (pss_one (ps_ret (pe_callB call_lenD (by rfl) B.len (by decide +kernel) (pa_cons (pe_fld (pv 0) rfl) pa_nil)))), ?_⟩
    refine ⟨_, rfl, cc, C, dx, _, _, rfl, h1, T.cl, T.nT, cF_texts, cd, _, rfl, hd, ?_⟩
    rw [mapd_len]
    exact k
/-- Chunks(book) -/
theorem mk_chunks {σ : L2.St} {H : Hp} {Q : VK} {t : TA} {bk : Addr} (ht : ∀ Q', Q' [V.ref bk] H → t σ H Q') (h : ∀ cc cd H1, Same H H1 → H cc = none → H cd = none → cc ≠ cd → (∀ ts, ChAt C H1 cc bk cd ts []) → Q (.ref cc) H1) : tMake C (spChInit C) [] E0 t σ H Q := by
  refine ht _ ?_
  intro x dx nx ndx nex
  refine ⟨x, dx, bk, rfl, upd_same, fun cd H1 hnd hne S kp => ⟨rfl, ?_⟩⟩
  have s0 : Same H (upd (upd H dx (.own x)) x (.ins C dx [])) := (same_new ndx _).trans (same_new (by rw [upd_ne (Ne.symm nex)]; exact nx) _)
  exact h x cd H1 (Same.made nx ndx kp) nx (s0.free hnd) (Ne.symm hne) S
end
end My
set_option Elab.async false
set_option linter.all false
set_option maxRecDepth 100000
set_option maxHeartbeats 4000000
/-! The walk of the law's small helpers. -/
namespace My
open PySem L2 TL
section
variable {P : Program} {w : World} {K : PySem.W.Frag} {mg : Str → Option Value} {base : Heap} {f : Addr} {fd : FuncData}
/-! ### _law_cell -/
def spLCell (K : PySem.W.Frag) : Sp := fun vs H Q _ => ∃ (l : Addr) (ns : List Int) (j : Nat), vs = [.ref l, .int (j : Int)] ∧ SqL K H l (ns.map V.int) ∧ ∀ z, Q (.int z) H
theorem ok_lcell (F : Fun K "_law_cell" "_law_cell" s_Lcell f fd) (B : Bl mg) : FnOk P w K mg base CX0 1 f fd ["_law_script", "_law_k"] (spLCell K) := by
  refine F.ok sc_Lcell (fun vs H Q E h => ?_) (fun cdv A outer s H vs Q E hr h => ?_)
  · obtain ⟨l, ns, j, rfl, _⟩ := h
    rfl
  · obtain ⟨l, ns, j, rfl, hs, q⟩ := h
    refine ⟨_, (pss_cons (ps_if (pt_cmpR op_lt (pv 1) (pe_callB call_len_seq (by rfl) B.len (by decide +kernel) (pa_cons (pv 0) pa_nil)) (nomark _))
        (pss_one (ps_ret (pe_ix ix_list (pv 0) (pv 1) (fun _ _ => rfl))))
        pss_nil)
      (pss_one (ps_ret pe_int))), ?_⟩
    refine ⟨_, rfl, _, rfl, l, _, rfl, .inl hs, _, _, rfl, rfl, _, rfl, ?_⟩
    refine ite2 (fun c => ?_) (fun c => ?_)
    · have c' := of_decide_eq_true c
      rw [List.length_map] at c'
      have hj : j < ns.length := by omega
      exact ⟨_, rfl, _, rfl, l, _, _, .int ns[j], rfl, rfl, hs, atI_nat (by rw [List.getElem?_map, List.getElem?_eq_getElem hj]; rfl), q _⟩
    · exact q _
/-! ### _law_numbers -/
def spLNumbers : Sp := fun vs H Q _ => ∃ (c : Int) (n : Nat), vs = [.int c, .int (n : Int)] ∧ n ≤ 1000 ∧ ∀ p (ns : List Int) H', Same H H' → H p = none → H' p = some (.lst (ns.map V.int)) → ns.length = n → (∀ x ∈ ns, 0 ≤ x ∧ x < 1000) → Q (.ref p) H'
theorem ok_lnumbers (F : Fun K "_law_numbers" "_law_numbers" s_Lnumbers f fd) (B : Bl mg) : FnOk P w K mg base CX0 1 f fd ["_law_cell_here", "_law_count"] spLNumbers := by
  refine F.ok sc_Lnumbers (fun vs H Q E h => ?_) (fun cdv A outer s H vs Q E hr h => ?_)
  · obtain ⟨c, n, rfl, _⟩ := h
    rfl
  · obtain ⟨c, n, rfl, hn, q⟩ := h
    refine ⟨_, (pss_cons (ps_set (i := 2) sc_Lnumbers.nd rfl (Or.inl rfl) (pe_lst pa_nil))
      (pss_cons (ps_if (pt_cmpR op_ge (pv 0) (pe_op op_pow pe_int pe_int) (nomark _))
        (pss_cons (ps_for PassesOwn.never rfl (pi_range1 (by rfl) B.range (pa_cons (pv 1) pa_nil)) (pg_name (i := 3) sc_Lnumbers.nd rfl (Or.inl rfl))
          (pss_cons (ps_expr (pe_bm PySem.F.plainAttrs_list PySem.F.slot_list_append PySem.F.type_list_append mt_append (pv 2) (pa_cons (pe_op op_mod (pe_callTy call_int1 (by rfl) B.int (by decide +kernel) (pa_cons (pv 0) pa_nil)) pe_int) pa_nil)))
          (pss_one (ps_set (i := 0) sc_Lnumbers.nd rfl (Or.inl rfl) (pe_op op_fdiv (pv 0) pe_int)))))
        (pss_one (ps_ret (pv 2))))
        pss_nil)
      (pss_cons (ps_set (i := 4) sc_Lnumbers.nd rfl (Or.inl rfl) (pe_op op_mod (pe_callTy call_int1 (by rfl) B.int (by decide +kernel) (pa_cons (pv 0) pa_nil)) pe_int))
      (pss_cons (ps_for PassesOwn.never rfl (pi_range1 (by rfl) B.range (pa_cons (pv 1) pa_nil)) (pg_name (i := 3) sc_Lnumbers.nd rfl (Or.inl rfl))
        (pss_cons (ps_set (i := 4) sc_Lnumbers.nd rfl (Or.inl rfl) (pe_op op_mod (pe_callTy call_int1 (by rfl) B.int (by decide +kernel) (pa_cons (pe_op op_add (pe_op op_mul (pv 4) pe_int) (pe_op op_mul pe_int (pe_op op_add (pv 3) pe_int))) pa_nil)) pe_int))
        (pss_one (ps_expr (pe_bm PySem.F.plainAttrs_list PySem.F.slot_list_append PySem.F.type_list_append mt_append (pv 2) (pa_cons (pe_op op_mod (pe_op op_fdiv (pv 4) pe_int) pe_int) pa_nil))))))
      (pss_one (ps_ret (pv 2))))))), ?_⟩
    refine ⟨(by show 0 ≤ sizeLine; decide), fun p hp => ?_⟩
    have b62 : ((n : Nat) : Int) < 2 ^ 62 := by omega
    refine ⟨_, rfl, _, _, rfl, rfl, ⟨by decide, by decide, by decide⟩, _, _, rfl, rfl, _, rfl, ?_⟩
    refine ite2 (fun hc => ?_) (fun hc => ?_)
    · refine ⟨_, rfl, _, rfl, by omega, b62, ?_⟩
      rw [Int.toNat_natCast]
      refine for_range (lo := 0) (n := n) (fun i σ H' => ∃ (c' : Int) (ns : List Int) (kv mx : Option V), σ = [some (.int c'), some (.int (n : Int)), some (.ref p), kv, mx] ∧ Same H H' ∧ H' p = some (.lst (ns.map V.int)) ∧ ns.length = i ∧ ∀ x ∈ ns, 0 ≤ x ∧ x < 1000)
        ⟨c, [], none, none, rfl, same_new hp _, upd_same, rfl, fun x h => absurd h List.not_mem_nil⟩ ?_ ?_
      · rintro i σ H' hi ⟨c', ns, kv, mx, rfl, hS, hl, hlen, hx⟩
        refine ⟨_, rfl, .inl ⟨rfl, _, SqL.of hl⟩, _, rfl, .inl ⟨_, rfl, ?_⟩⟩
        refine ⟨_, _, rfl, rfl, (by show (0 : Int) < 1000; decide), p, _, _, rfl, rfl, hl, ?_, ?_⟩
        · rw [List.length_map]
          exact szlt (by omega)
        · refine ⟨_, rfl, _, _, rfl, rfl, ⟨by decide, by decide⟩, ?_⟩
          refine ⟨_, ns ++ [c' % 1000], _, _, rfl, same_mut hS hp _, ?_, by simp [hlen], fun x hx' => ?_⟩
          · rw [upd_same, List.map_append]
            rfl
          · rcases List.mem_append.mp hx' with z | z
            · exact hx x z
            · rw [List.mem_singleton.mp z]
              omega
      · rintro σ H' ⟨c', ns, kv, mx, rfl, hS, hl, hlen, hx⟩
        exact ⟨_, rfl, q p ns H' hS hp hl hlen hx⟩
    · refine ⟨_, rfl, .inl ⟨_, rfl, ?_⟩⟩
      refine ⟨_, _, rfl, rfl, (by show (0 : Int) < 2147483647; decide), ?_⟩
      refine ⟨_, rfl, _, rfl, by omega, b62, ?_⟩
      rw [Int.toNat_natCast]
      refine for_range (lo := 0) (n := n) (fun i σ H' => ∃ (m : Int) (ns : List Int) (kv : Option V), σ = [some (.int c), some (.int (n : Int)), some (.ref p), kv, some (.int m)] ∧ 0 ≤ m ∧ m < 2147483647 ∧ Same H H' ∧ H' p = some (.lst (ns.map V.int)) ∧ ns.length = i ∧ ∀ x ∈ ns, 0 ≤ x ∧ x < 1000)
        ⟨c % 2147483647, [], none, rfl, Int.emod_nonneg _ (by decide), Int.emod_lt_of_pos _ (by decide), same_new hp _, upd_same, rfl, fun x h => absurd h List.not_mem_nil⟩ ?_ ?_
      · rintro i σ H' hi ⟨m, ns, kv, rfl, hm0, hm1, hS, hl, hlen, hx⟩
        refine ⟨_, rfl, _, _, rfl, rfl, .inl ⟨by omega, by omega⟩, _, rfl, _, _, rfl, rfl, _, _, rfl, rfl, .inl ⟨by decide, by decide⟩, _, _, rfl, rfl, .inl ⟨_, rfl, ?_⟩⟩
        refine ⟨_, _, rfl, rfl, (by show (0 : Int) < 2147483647; decide), ?_⟩
        refine ⟨_, rfl, .inl ⟨rfl, _, SqL.of hl⟩, _, rfl, _, _, rfl, rfl, ⟨by decide, by decide⟩, _, _, rfl, rfl, (by show (0 : Int) < 1000; decide), p, _, _, rfl, rfl, hl, ?_, ?_⟩
        · rw [List.length_map]
          exact szlt (by omega)
        · refine ⟨(m * 48271 + 69621 * (0 + (i : Int) + 1)) % 2147483647, ns ++ [(m * 48271 + 69621 * (0 + (i : Int) + 1)) % 2147483647 / 7 % 1000], some (.int (0 + (i : Int))), rfl, Int.emod_nonneg _ (by decide), Int.emod_lt_of_pos _ (by decide), same_mut hS hp _, ?_, by simp [hlen], fun x hx' => ?_⟩
          · rw [upd_same, List.map_append]
            rfl
          · rcases List.mem_append.mp hx' with z | z
            · exact hx x z
            · rw [List.mem_singleton.mp z]
              exact ⟨Int.emod_nonneg _ (by decide), Int.emod_lt_of_pos _ (by decide)⟩
      · rintro σ H' ⟨m, ns, kv, rfl, hm0, hm1, hS, hl, hlen, hx⟩
        exact ⟨_, rfl, q p ns H' hS hp hl hlen hx⟩
/-! ### _law_text -/
theorem joinL_nil : ∀ ps : List (List Nat), joinL [] ps = ps.flatten
  | [] => rfl
  | [p] => by simp [joinL]
  | p :: q :: r => by
    show p ++ ([] ++ joinL [] (q :: r)) = _
    rw [joinL_nil (q :: r)]
    simp
theorem join_empty (ys : List Str) : tl (Txt.join (("" : String) : Str) ys) = (ys.map tl).flatten := by
  rw [join_eq, tl_join, show tl (("" : String) : Str) = [] by decide +kernel, joinL_nil]
theorem ones_sum : ∀ cs : List Nat, ((cs.map sg).map (·.length)).sum = cs.length
  | [] => rfl
  | c :: cs => by
    rw [List.map_cons, List.map_cons, List.sum_cons, ones_sum cs, List.length_cons, show (sg c).length = 1 from rfl]
    omega
theorem ones_flat : ∀ cs : List Nat, ((cs.map sg).map tl).flatten = cs
  | [] => rfl
  | c :: cs => by
    rw [List.map_cons, List.map_cons, List.flatten_cons, ones_flat cs]
    rfl
def lawChars : Str := ((" !\"#$&'()*+,-./0123456789:;<=>?@ABCDEFGHIJKLMNOPQRSTUVWXYZ[\\]^_`" : String) : Str) ++ (("abcdefghijklmnopqrstuvwxyz{|}~" : String) : Str)
theorem lawChars_len : (tl lawChars).length = 94 := by decide +kernel
def spLText : Sp := fun vs H Q _ => ∃ (a b : Int), vs = [.int a, .int b] ∧ ∀ z H', Same H H' → z.length ≤ 60 → Q (.str z) H'
theorem ok_ltext (F : Fun K "_law_text" "_law_text" s_Ltext f fd) (B : Bl mg) : FnOk P w K mg base CX0 1 f fd ["_law_a", "_law_b"] spLText := by
  refine F.ok sc_Ltext (fun vs H Q E h => ?_) (fun cdv A outer s H vs Q E hr h => ?_)
  · obtain ⟨a, b, rfl, _⟩ := h
    rfl
  · obtain ⟨a, b, rfl, q⟩ := h
    refine ⟨_, (pss_cons (ps_set (i := 2) sc_Ltext.nd rfl (Or.inr rfl) pe_str)
      (pss_cons (ps_set (i := 2) sc_Ltext.nd rfl (Or.inr rfl) (pe_op op_add_str (pv 2) pe_str))
      (pss_cons (ps_set (i := 3) sc_Ltext.nd rfl (Or.inl rfl) (pe_op op_mod (pv 1) pe_int))
      (pss_cons (ps_if (pt_cmpR op_eq (pe_op op_mod (pv 1) pe_int) pe_int (nomark _))
        (pss_one (ps_set (i := 3) sc_Ltext.nd rfl (Or.inl rfl) pe_int))
        pss_nil)
      (pss_one (ps_ret (pe_join pe_str (pe_lc (own := [("_law_k", 4)]) (g := gName 4) (tt := tYes) rfl sc_Ltext.nd (pi_range1 (by rfl) B.range (pa_cons (pv 3) pa_nil)) (blkOk_by (own := [("_law_k", 4)]) (N := N_Ltext) (sc := defScope s_Ltext) (by decide +kernel)) (fun _ _ _ _ _ => (pg_name (i := 4) sc_Ltext.nd rfl (Or.inl rfl))) (fun _ _ _ _ _ => pts_nil) (fun _ _ _ _ _ => (pe_ix ix_str (pv 2) (pe_op op_mod (pe_op op_add (pv 0) (pe_op op_mul (pv 4) (pe_op op_add pe_int (pe_op op_fdiv (pv 1) pe_int)))) pe_int) (fun _ _ => rfl))))))))))), ?_⟩
    refine ⟨_, rfl, _, _, rfl, rfl, (by decide +kernel), ?_⟩
    refine ⟨_, rfl, _, _, rfl, rfl, (by show (0 : Int) < 5; decide), ?_⟩
    refine ⟨_, rfl, _, _, rfl, rfl, (by show (0 : Int) < 40; decide), rfl, _, rfl, ?_⟩
    have tail : ∀ m : Nat, m ≤ 60 → (tRet (tM1 (fun x xs H Q => ∃ a p, ∃ ys : List Str, x = .str a ∧ xs = [.ref p] ∧ (SqL K H p (ys.map V.str) ∨ SqT K H p (ys.map V.str)) ∧ (ys.map (·.length)).sum + ys.length * a.length ≤ 16777216 ∧ Q (.str (Txt.join a ys)) H) (tC (.str (("" : String) : Str)))
        (tLc (iRng1 (tCons (tVar 3) tNil)) (gName 4) tYes (tOp rIxS (tVar 2) (tOp (rI (fun _ j => 0 < j) fun i j => .int (i % j)) (tOp (rI0 fun i j => .int (i + j)) (tVar 0) (tOp (rI CMul fun i j => .int (i * j)) (tVar 4) (tOp (rI0 fun i j => .int (i + j)) (tC (.int 1)) (tOp (rI CDiv fun i j => .int (i / j)) (tVar 1) (tC (.int 5)))))) (tC (.int 94)))) [4])))
        { nx := fun _ H' => Q .non H', rt := Q } [some (.int a), some (.int b), some (.str lawChars), some (.int (m : Int)), none] H := by
      intro m hm
      refine ⟨⟨_, rfl⟩, _, rfl, _, rfl, by omega, by omega, ?_⟩
      rw [Int.toNat_natCast]
      intro D hD
      refine lc_range (lo := 0) (n := m) (fun i H' => ∃ cs : List Nat, cs.length = i ∧ H' = upd H D (.lst ((cs.map sg).map V.str))) ⟨[], rfl, rfl⟩ ?_ ?_
      · rintro i H' hi ⟨cs, hcs, rfl⟩
        refine ⟨rfl, ?_⟩
        refine lc_yes ?_
        refine ⟨_, rfl, _, rfl, _, rfl, _, rfl, _, _, rfl, rfl, ⟨by decide, by decide⟩, _, _, rfl, rfl, _, _, rfl, rfl, .inl ⟨by omega, by omega⟩, _, _, rfl, rfl, _, _, rfl, rfl, (by show (0 : Int) < 94; decide), ?_⟩
        have hmod : ∀ y : Int, ∃ c, atI lawChars.cps.toList (y % 94) = some c := fun y => by
          have h0 : 0 ≤ y % 94 := Int.emod_nonneg _ (by decide)
          have h1 : y % 94 < 94 := Int.emod_lt_of_pos _ (by decide)
          have h2 : (y % 94).toNat < (tl lawChars).length := by
            rw [lawChars_len]
            omega
          refine ⟨(tl lawChars)[(y % 94).toNat], ?_⟩
          have q : atI lawChars.cps.toList (((y % 94).toNat : Nat) : Int) = some (tl lawChars)[(y % 94).toNat] := atI_nat (List.getElem?_eq_getElem h2)
          rw [show (((y % 94).toNat : Nat) : Int) = y % 94 by omega] at q
          exact q
        obtain ⟨c, hc⟩ := hmod (a + (0 + (i : Int)) * (1 + b / 5))
        refine ⟨lawChars, _, c, rfl, rfl, (by rw [len_tl, lawChars_len]; decide), hc, _, upd_same, ?_, cs ++ [c], by simp [hcs], ?_⟩
        · rw [List.length_map, List.length_map]
          exact szlt (by omega)
        · rw [upd_upd, List.map_append, List.map_append]
          rfl
      · rintro H' ⟨cs, hcs, rfl⟩
        refine ⟨_, D, cs.map sg, rfl, rfl, .inl (SqL.of upd_same), ?_, ?_⟩
        · rw [ones_sum, show (("" : String) : Str).length = 0 by decide +kernel]
          omega
        · refine q _ _ (same_new hD _) ?_
          rw [len_tl, join_empty, ones_flat]
          omega
    refine ite2 (fun c => ?_) (fun c => ?_)
    · exact tail 60 (by omega)
    · have e : ((b % 5).toNat : Int) = b % 5 := Int.toNat_of_nonneg (Int.emod_nonneg _ (by decide))
      have l := Int.emod_lt_of_pos b (show (0 : Int) < 5 by decide)
      have t := tail (b % 5).toNat (by omega)
      rw [e] at t
      exact t
/-! ### _law_encode: m deep at most -/
def spLEnc (m : Nat) : Sp := fun vs H Q _ => ∃ (v : V) (d : D), vs = [v] ∧ Rp H v d ∧ d.Good ∧ d.dep < m ∧ d.enc.length ≤ 1000000 ∧ ∀ H', Same H H' → Q (.str (tx d.enc)) H'
theorem log_small {n : Nat} (h : n < 10 ^ 60) : n.log2 < 1920 := by
  by_cases h0 : n = 0
  · subst h0
    decide
  · have h1 : n < 2 ^ 200 := Nat.lt_of_lt_of_le h (by decide)
    have := (Nat.log2_lt h0).mpr h1
    omega
theorem tl_inj {a b : Str} (h : tl a = tl b) : a = b := by rw [← mk_tl a, ← mk_tl b, h]
theorem slen_app (a b : Str) : (a ++ b).length = a.length + b.length := by rw [len_tl, tl_append, List.length_append, ← len_tl, ← len_tl]
theorem isi_int {i : Int} {H : Hp} : TyX K H (.int i) (.type "int") := .base (.int i)
theorem encs_sum : ∀ ds : List D, ((ds.map fun d => tx d.enc).map (·.length)).sum = (D.encA ds).length
  | [] => rfl
  | d :: ds => by
    rw [List.map_cons, List.map_cons, List.sum_cons, encs_sum ds, tx_len]
    simp only [D.encA, List.length_append]
theorem encs_flat : ∀ ds : List D, ((ds.map fun d => tx d.enc).map tl).flatten = D.encA ds
  | [] => rfl
  | d :: ds => by
    rw [List.map_cons, List.map_cons, List.flatten_cons, encs_flat ds]
    rfl
theorem len_ofString1 : (("n" : String) : Str) = tx [110] := by decide +kernel
theorem ok_lencode {m : Nat} (F : Fun K "_law_encode" "_law_encode" s_Lencode f fd) (B : Bl mg) (D_Lencode : Def P w K mg base (m + 1) "_law_encode" [nItem] (spLEnc m)) : FnOk P w K mg base CX0 (m + 1 + 1) f fd [nItem] (spLEnc (m + 1)) := by
  refine F.ok sc_Lencode (fun vs H Q E h => ?_) (fun cdv A outer s H vs Q E hr h => ?_)
  · obtain ⟨v, d, rfl, _⟩ := h
    rfl
  · obtain ⟨v, d, rfl, rv, hg, hd, hl, q⟩ := h
    refine ⟨_, (pss_cons (ps_if (pt_cmp (pc_isN (pv 0)))
        (pss_one (ps_ret pe_str))
        pss_nil)
      (pss_cons (ps_if (pt_val (pe_callB call_isi (by rfl) B.isinstance (by decide +kernel) (pa_cons (pv 0) (pa_cons (pe_bltn (v := .ty "int") (by rfl) B.int (by decide +kernel) rfl) pa_nil))))
        (pss_one (ps_ret (pe_op op_add_str (pe_op op_add_str pe_str (pe_callTy call_str_int (by rfl) B.str (by decide +kernel) (pa_cons (pv 0) pa_nil))) pe_str)))
        pss_nil)
      (pss_cons (ps_if (pt_val (pe_callB call_isi (by rfl) B.isinstance (by decide +kernel) (pa_cons (pv 0) (pa_cons (pe_bltn (v := .ty "str") (by rfl) B.str (by decide +kernel) rfl) pa_nil))))
        (pss_one (ps_ret (pe_op op_add_str (pe_op op_add_str (pe_op op_add_str pe_str (pe_callTy call_str_int (by rfl) B.str (by decide +kernel) (pa_cons (pe_callB call_len_str (by rfl) B.len (by decide +kernel) (pa_cons (pv 0) pa_nil)) pa_nil))) pe_str) (pv 0))))
        pss_nil)
      (pss_one (ps_ret (pe_op op_add_str (pe_op op_add_str pe_str (pe_join pe_str (pe_lc (own := [("_law_part", 1)]) (g := gName 1) (tt := tYes) rfl sc_Lencode.nd (pi_tup (pv 0)) (blkOk_by (own := [("_law_part", 1)]) (N := N_Lencode) (sc := defScope s_Lencode) (by decide +kernel)) (fun _ _ _ _ _ => (pg_name (i := 1) sc_Lencode.nd rfl (Or.inl rfl))) (fun _ _ _ _ _ => pts_nil) (fun _ _ _ _ _ => (D_Lencode.call hr (by omega) (pa_cons (pv 1) pa_nil)))))) pe_str)))))), ?_⟩
    cases d with
    | non =>
      cases rv
      refine ⟨_, rfl, _, rfl, if_t rfl ?_⟩
      have := q H (Same.refl H)
      simp only [D.enc] at this
      rw [← len_ofString1] at this
      exact this
    | int i =>
      cases rv
      refine ⟨_, rfl, _, rfl, if_f rfl ?_⟩
      refine ⟨_, rfl, _, _, _, _, true, rfl, .ty "int", .base (.int i), kit_ty (by decide +kernel), _, rfl, if_t rfl ?_⟩
      have hg' : i.natAbs < 10 ^ 60 := hg
      have e : tl ((("i" : String) : Str) ++ Str.ofString (toString i) ++ ((";" : String) : Str)) = (D.int i).enc := by
        rw [tl_append, tl_append, tl_int, show tl (("i" : String) : Str) = [105] by decide +kernel, show tl ((";" : String) : Str) = [59] by decide +kernel]
        simp only [D.enc]
        simp
      have e2 := congrArg List.length e
      rw [← len_tl, slen_app, slen_app] at e2
      refine ⟨_, rfl, _, rfl, log_small hg', _, _, rfl, rfl, ?_, _, _, rfl, rfl, ?_, ?_⟩
      · exact sz (by omega)
      · rw [slen_app]
        exact sz (by omega)
      · have := q H (Same.refl H)
        rw [show tx (D.int i).enc = (("i" : String) : Str) ++ Str.ofString (toString i) ++ ((";" : String) : Str) from tl_inj e.symm] at this
        exact this
    | str z =>
      cases rv
      refine ⟨_, rfl, _, rfl, if_f rfl ?_⟩
      refine ⟨_, rfl, _, _, _, _, false, rfl, .ty "int", .base (.str z), kit_ty (by decide +kernel), _, rfl, if_f rfl ?_⟩
      refine ⟨_, rfl, _, _, _, _, true, rfl, .ty "str", .base (.str z), kit_ty (by decide +kernel), _, rfl, if_t rfl ?_⟩
      have hg' : z.length < 10 ^ 6 := hg
      have e : tl ((("t" : String) : Str) ++ Str.ofString (toString ((z.length : Nat) : Int)) ++ ((":" : String) : Str) ++ z) = (D.str z).enc := by
        rw [tl_append, tl_append, tl_append, tl_num, show tl (("t" : String) : Str) = [116] by decide +kernel, show tl ((":" : String) : Str) = [58] by decide +kernel]
        simp only [D.enc]
        simp
      have h6 : (Str.ofString (toString ((z.length : Nat) : Int))).length ≤ 6 := by
        rw [len_tl, tl_num]
        exact numL_len (by decide) hg'
      have l1 : (("t" : String) : Str).length = 1 := by decide +kernel
      have l2 : ((":" : String) : Str).length = 1 := by decide +kernel
      have e2 := congrArg List.length e
      rw [← len_tl, slen_app, slen_app, slen_app] at e2
      refine ⟨_, rfl, z, rfl, sz (by omega), _, rfl, log_small (by omega), _, _, rfl, rfl, ?_, _, _, rfl, rfl, ?_, _, rfl, _, _, rfl, rfl, ?_, ?_⟩
      · exact sz (by omega)
      · rw [slen_app]
        exact sz (by omega)
      · rw [slen_app, slen_app]
        exact sz (by omega)
      · have := q H (Same.refl H)
        rw [show tx (D.str z).enc = (("t" : String) : Str) ++ Str.ofString (toString ((z.length : Nat) : Int)) ++ ((":" : String) : Str) ++ z from tl_inj e.symm] at this
        exact this
    | tup ds =>
      cases rv with
      | @tup a xs _ ha hx =>
      have hdep : D.depA ds + 1 < m + 1 := by simpa only [D.dep] using hd
      have hga : D.GoodA ds := by simpa only [D.Good] using hg
      have hle : (D.encA ds).length + 2 ≤ 1000000 := by
        simp only [D.enc, List.length_cons, List.length_append, List.length_nil] at hl
        omega
      refine ⟨_, rfl, _, rfl, if_f rfl ?_⟩
      refine ⟨_, rfl, _, _, _, _, false, rfl, .ty "int", .base (.tup ha), kit_ty (by decide +kernel), _, rfl, if_f rfl ?_⟩
      refine ⟨_, rfl, _, _, _, _, false, rfl, .ty "str", .base (.tup ha), kit_ty (by decide +kernel), _, rfl, if_f rfl ?_⟩
      refine ⟨⟨_, rfl⟩, _, rfl, a, rfl, ⟨_, SqT.of ha⟩, fun p hp => ?_⟩
      have hlen := hx.length
      have hds := encA_len ds
      refine lc_tup (K := K) (a := a) (xs := xs) (fun i H' => ∃ H0, Same H H0 ∧ H0 p = none ∧ Same H H' ∧ H' p = some (.lst ((ds.take i).map fun d => V.str (tx d.enc)))) ⟨H, Same.refl H, hp, same_new hp _, upd_same⟩ (fun i H' _ ⟨_, _, _, s', _⟩ => SqT.of (s' _ _ ha)) ?_ ?_
      · rintro i x H' hi ⟨H0, s0, h0, s1, hl'⟩
        obtain ⟨d, hdd, rx⟩ := hx.get hi
        have hmem := List.mem_of_getElem? hdd
        have hdm := depA_mem hmem
        refine ⟨rfl, ?_⟩
        refine lc_yes ?_
        refine ⟨_, rfl, x, d, rfl, same_rp s1 rx, goodA_mem hga hmem, by omega, ?_, fun H2 s2 => ?_⟩
        · have : ∀ (ds : List D) (d : D), d ∈ ds → d.enc.length ≤ (D.encA ds).length := by
            intro ds
            induction ds with
            | nil => intro d h; cases h
            | cons e r ih =>
              intro d h
              simp only [D.encA, List.length_append]
              rcases List.mem_cons.mp h with q | q
              · subst q; omega
              · have := ih d q; omega
          have := this ds d hmem
          omega
        · refine ⟨_, s2 _ _ hl', ?_, H0, s0, h0, ?_, ?_⟩
          · rw [List.length_map, List.length_take]
            refine szlt ?_
            omega
          · exact same_mut (s1.trans s2) hp _
          · rw [upd_same, List.take_add_one, hdd, Option.toList_some, List.map_append]
            rfl
      · rintro H' ⟨H0, s0, h0, s1, hl'⟩
        rw [hlen, List.take_length] at hl'
        have em : (ds.map fun d => V.str (tx d.enc)) = (ds.map fun d => tx d.enc).map V.str := by
          rw [List.map_map]
          rfl
        rw [em] at hl'
        have ej : tl (Txt.join (("" : String) : Str) (ds.map fun d => tx d.enc)) = D.encA ds := by rw [join_empty, encs_flat]
        have ejl := congrArg List.length ej
        rw [← len_tl] at ejl
        have e : tl ((("(" : String) : Str) ++ Txt.join (("" : String) : Str) (ds.map fun d => tx d.enc) ++ ((")" : String) : Str)) = (D.tup ds).enc := by
          rw [tl_append, tl_append, ej, show tl (("(" : String) : Str) = [40] by decide +kernel, show tl ((")" : String) : Str) = [41] by decide +kernel]
          simp only [D.enc]
          simp
        have l1 : (("(" : String) : Str).length = 1 := by decide +kernel
        have l2 : ((")" : String) : Str).length = 1 := by decide +kernel
        refine ⟨_, p, ds.map fun d => tx d.enc, rfl, rfl, .inl (SqL.of hl'), ?_, _, _, rfl, rfl, ?_, _, _, rfl, rfl, ?_, ?_⟩
        · rw [encs_sum, show (("" : String) : Str).length = 0 by decide +kernel]
          omega
        · rw [l1, ejl]
          exact sz (by omega)
        · rw [len_tl (_ ++ _), tl_append, List.length_append, ej, l2, show (tl (("(" : String) : Str)).length = 1 by decide +kernel]
          exact sz (by omega)
        · have := q H' s1
          rw [show tx (D.tup ds).enc = (("(" : String) : Str) ++ Txt.join (("" : String) : Str) (ds.map fun d => tx d.enc) ++ ((")" : String) : Str) from tl_inj e.symm] at this
          exact this
theorem enc_none : FnOk P w K mg base CX0 1 f fd [nItem] (spLEnc 0) := by
  have no : ∀ vs H Q E, ¬ spLEnc 0 vs H Q E := fun vs H Q E h => by
    obtain ⟨v, d, _, _, _, hd, _⟩ := h
    omega
  exact ⟨fun vs H Q E h => absurd h (no vs H Q E), fun A outer s H args us vs Q E _ _ _ _ h => absurd h (no vs H Q E)⟩
theorem enc_all (F : Fun K "_law_encode" "_law_encode" s_Lencode f fd) (m0 : mg "_law_encode" = some (.ref f)) (b : Binds K fd [nItem] []) (B : Bl mg) : ∀ m : Nat, FnOk P w K mg base CX0 (m + 1) f fd [nItem] (spLEnc m)
  | 0 => enc_none
  | m + 1 => ok_lencode F B (mkDef F m0 b (enc_all F m0 b B m))
/-! ### _law_digest, _law_ends -/
def spLDigest : Sp := fun vs H Q _ => ∃ (z : Str), vs = [.str z] ∧ ∀ (i : Int), Q (.int i) H
theorem ok_ldigest (F : Fun K "_law_digest" "_law_digest" s_Ldigest f fd) (B : Bl mg) : FnOk P w K mg base CX0 1 f fd ["_law_text_here"] spLDigest := by
  refine F.ok sc_Ldigest (fun vs H Q E h => ?_) (fun cdv A outer s H vs Q E hr h => ?_)
  · obtain ⟨z, rfl, _⟩ := h
    rfl
  · obtain ⟨z, rfl, q⟩ := h
    refine ⟨_, (pss_cons (ps_set (i := 1) sc_Ldigest.nd rfl (Or.inl rfl) pe_int)
      (pss_cons (ps_for PassesOwn.never rfl (pi_str (pv 0)) (pg_name (i := 2) sc_Ldigest.nd rfl (Or.inl rfl))
        (pss_one (ps_set (i := 1) sc_Ldigest.nd rfl (Or.inl rfl) (pe_op op_mod (pe_op op_add (pe_op op_mul (pv 1) pe_int) (pe_callB call_ord (by rfl) B.ord (by decide +kernel) (pa_cons (pv 2) pa_nil))) pe_int))))
      (pss_one (ps_ret (pv 1))))), ?_⟩
    refine ⟨_, rfl, z, rfl, ?_⟩
    refine ⟨fun i m σ H' => i + m = z.cps.size ∧ H' = H ∧ ∃ (r : Int) (cv : Option V), σ = [some (.str z), some (.int r), cv], ⟨z.cps.size, by omega, rfl, 7, none, rfl⟩, ?_⟩
    rintro i m σ H' ⟨him, rfl, r, cv, rfl⟩
    by_cases hi : i < z.cps.size
    · refine .inr ⟨hi, fun σ' H'' => (i + 1) + (m - 1) = z.cps.size ∧ H'' = H' ∧ ∃ (r : Int) (cv : Option V), σ' = [some (.str z), some (.int r), cv], fun σ' H'' w => ⟨m - 1, by omega, w⟩, ?_⟩
      rintro x H'' ⟨rfl, c, hc, rfl⟩
      refine ⟨_, rfl, _, _, rfl, rfl, .inr ⟨by decide, by decide⟩, _, rfl, sg c, rfl, rfl, _, _, rfl, rfl, _, _, rfl, rfl, (by show (0 : Int) < 1000003; decide), ?_⟩
      exact ⟨by omega, rfl, _, _, rfl⟩
    · refine .inl ⟨(by show z.cps.size ≤ i; omega), ?_⟩
      exact ⟨_, rfl, q _⟩
def spLEnds : Sp := fun vs H Q _ => ∃ (lvl cnt : Int) (v : V) (d : D), vs = [.int lvl, v, .int cnt] ∧ 0 ≤ lvl ∧ lvl < 1000 ∧ Rp H v d ∧ d.Good ∧ d.dep ≤ 6 ∧ d.enc.length ≤ 10000 ∧
  ∀ (b : Bool) H', Same H H' → (cnt = 8 → b = true) → (0 < lvl → cnt = 1 → b = false) → Q (.bl b) H'
theorem numI_small {i : Int} (h0 : 0 ≤ i) (h : i < 1000) : (numI i).length ≤ 3 := by
  rw [numI_pos (by omega)]
  exact numL_len (by decide) (by omega)
theorem ok_lends (F : Fun K "_law_ends" "_law_ends" s_Lends f fd) (B : Bl mg) (D_Lencode : Def P w K mg base 11 "_law_encode" [nItem] (spLEnc 10)) (D_Ldigest : Def P w K mg base 1 "_law_digest" ["_law_text_here"] spLDigest) :
    FnOk P w K mg base CX0 12 f fd ["_law_level_here", "_law_key", "_law_count"] spLEnds := by
  refine F.ok sc_Lends (fun vs H Q E h => ?_) (fun cdv A outer s H vs Q E hr h => ?_)
  · obtain ⟨lvl, cnt, v, d, rfl, _⟩ := h
    rfl
  · obtain ⟨lvl, cnt, v, d, rfl, h0, h1, rv, hg, hd, hl, q⟩ := h
    refine ⟨_, (pss_cons (ps_if (pt_cmpR op_eq (pv 2) pe_int (nomark _))
        (pss_one (ps_ret pe_bl))
        pss_nil)
      (pss_cons (ps_if (PW.pt (pw_and (pt_cmpR op_gt (pv 0) pe_int (nomark _)) (pw_and1 (pt_cmpR op_eq (pv 2) pe_int (nomark _)))))
        (pss_one (ps_ret pe_bl))
        pss_nil)
      (pss_one (ps_ret (pe_cmpR op_eq (pe_op op_mod (pe_callTy call_int1 (by rfl) B.int (by decide +kernel) (pa_cons (D_Ldigest.call hr (by omega) (pa_cons (D_Lencode.call hr (by omega) (pa_cons (pe_tup (pa_cons (pv 0) (pa_cons (pv 1) pa_nil))) pa_nil)) pa_nil)) pa_nil)) pe_int) pe_int (nomark _)))))), ?_⟩
    refine ⟨_, rfl, rfl, _, rfl, ?_⟩
    refine ite2 (fun c => ?_) (fun c => ?_)
    · have c' : cnt = 8 := V.int.inj (of_decide_eq_true c)
      exact q true H (Same.refl H) (fun _ => rfl) (fun _ z => by omega)
    · have c8 : cnt ≠ 8 := fun z => c (by rw [z]; exact decide_eq_true rfl)
      refine ⟨_, rfl, _, _, rfl, rfl, _, rfl, ?_⟩
      have fin : ∀ H1, H1 = H → ((lvl ≤ 0) ∨ cnt ≠ 1) → (tRet (tOp rEq (tOp (rI (fun _ j => 0 < j) fun i j => .int (i % j)) (tCB (fun xs H Q => (∃ i, xs = [.int i] ∧ Q (.int i) H) ∨ ∃ k, xs = [.bl k] ∧ Q (.int (if k then 1 else 0)) H) (tCons (tCall spLDigest [] E0 (tCons (tCall (spLEnc 10) [] E0 (tCons (tTup (tCons (tVar 0) (tCons (tVar 1) tNil))) tNil)) tNil)) tNil)) (tC (.int 4))) (tC (.int 0))))
          { nx := fun _ H' => Q .non H', rt := Q } [some (.int lvl), some v, some (.int cnt)] H1 := by
        rintro H1 rfl hor
        refine ⟨_, rfl, _, rfl, (by show 2 ≤ sizeLine; decide), fun p hp => ?_⟩
        have s1 : Same H1 (upd H1 p (.tup [.int lvl, v])) := same_new hp _
        refine ⟨.ref p, .tup [.int lvl, d], rfl, .tup upd_same (.cons (.int lvl) (.cons (same_rp s1 rv) .nil)), ?_, ?_, ?_, fun H2 s2 => ?_⟩
        · exact ⟨(by show lvl.natAbs < 10 ^ 60; omega), hg, trivial⟩
        · simp only [D.dep, D.depA]
          omega
        · have := numI_small h0 h1
          simp only [D.enc, D.encA, List.length_cons, List.length_append, List.length_nil]
          omega
        · refine ⟨_, rfl, fun i => .inl ⟨_, rfl, _, _, rfl, rfl, (by show (0 : Int) < 4; decide), rfl, ?_⟩⟩
          refine q _ H2 (s1.trans s2) (fun z => absurd z c8) (fun z1 z2 => ?_)
          omega
      refine ite2 (fun c2 => ?_) (fun c2 => ?_)
      · have c2' : 0 < lvl := of_decide_eq_true c2
        refine ⟨_, rfl, rfl, _, rfl, ?_⟩
        refine ite2 (fun c3 => ?_) (fun c3 => ?_)
        · exact q false H (Same.refl H) (fun z => absurd z c8) (fun _ _ => rfl)
        · exact fin H rfl (.inr fun z => c3 (by rw [z]; exact decide_eq_true rfl))
      · have c2' : ¬ 0 < lvl := fun z => c2 (decide_eq_true z)
        refine if_f rfl ?_
        exact fin H rfl (.inl (by omega))
end
end My
set_option Elab.async false
set_option linter.all false
set_option maxRecDepth 100000
set_option maxHeartbeats 4000000
/-! The texts of a history, as the law writes them: the invariant, one level of a tree. -/
namespace My
open PySem L2 TL
theorem if_by {c : TT} {t u : TS} {D : Ends} {σ : L2.St} {H : Hp} (P : Bool → Hp → Prop) (h : ∀ Q : Bool → Hp → Prop, (∀ b H', P b H' → Q b H') → c σ H Q)
    (k : ∀ b H', P b H' → if b = true then t D σ H' else u D σ H') : tIfS c t u D σ H := h _ k
def isKey (kvs : List (Key × V)) (a : Int) : Prop := (valV kvs (Sum.inl a : Key)).isSome = true
theorem isKey_put {kvs : List (Key × V)} {a b : Int} {v : V} : isKey (putK kvs (Sum.inl b) v) a ↔ a = b ∨ isKey kvs a := by
  unfold isKey
  rw [valV_put]
  by_cases h : a = b
  · subst h
    simp
  · rw [if_neg (fun z => h (Sum.inl.inj z))]
    simp [h]
theorem putK_len (kvs : List (Key × V)) (k : Key) (v : V) : (putK kvs k v).length ≤ kvs.length + 1 := by
  unfold putK
  split
  · simp
  · simp
theorem putK_keys (kvs : List (Key × V)) (k : Key) (v : V) (hn : (kvs.map (·.1)).Nodup) : ((putK kvs k v).map (·.1)).Nodup := by
  by_cases h : valV kvs k = none
  · exact nd_putK v hn h
  · have e : (putK kvs k v).map (·.1) = kvs.map (·.1) := by
      unfold putK
      rw [if_pos (by
        rw [valV_any]
        cases e : valV kvs k with
        | none => exact absurd e h
        | some _ => rfl), List.map_map]
      refine List.map_congr_left fun p hp => ?_
      show (if p.1 = k then (p.1, v) else p).1 = p.1
      split <;> rfl
    rw [e]
    exact hn
/-- a chunk's item, its children -/
structure Kd (d : D) (ks : List Int) : Prop where
  ch : Chunk d ks
  good : d.Good
  dep : d.dep ≤ 9
  len : d.enc.length ≤ 100000
  few : ks.length ≤ 8
structure Ent (H : Hp) (ts : List Str) (kvs : List (Key × V)) (a : Int) (v : V) : Prop where
  ex : ∃ (p q : Addr) (d : D) (ks : List Int), v = .ref p ∧ H p = some (.tup [.str (tx d.enc), .ref q]) ∧ H q = some (.lst (ks.map V.int)) ∧ Kd d ks ∧ tOf ts a = tx d.enc ∧ ∀ c ∈ ks, isKey kvs c
  ok : Adr ts a
/-- the book at bk, the law's dict of texts at td -/
structure TW (C : Addr) (H : Hp) (bk nd td : Addr) (ts : List Str) (kvs : List (Key × V)) : Prop where
  book : BookAt C H bk nd ts
  tex : H td = some (.dK kvs)
  ne : nd ≠ td
  keys : (kvs.map (·.1)).Nodup
  ent : ∀ k v, valV kvs k = some v → ∃ a, k = Sum.inl a ∧ Ent H ts kvs a v
structure Grow (n : Nat) (ts : List Str) (kvs : List (Key × V)) (ts' : List Str) (kvs' : List (Key × V)) : Prop where
  pre : ∃ m, ts' = ts ++ m
  key : ∀ a, isKey kvs a → isKey kvs' a
  tl : ts'.length ≤ ts.length + n
  kl : kvs'.length ≤ kvs.length + n
section
variable {C : Addr} {H H' H3 : Hp} {bk nd td p q : Addr} {ts ts' ts2 : List Str} {kvs kvs' kvs2 : List (Key × V)} {m n : Nat}
theorem Grow.refl : Grow 0 ts kvs ts kvs := ⟨⟨[], by simp⟩, fun _ h => h, Nat.le_refl _, Nat.le_refl _⟩
theorem Grow.trans (a : Grow m ts kvs ts' kvs') (b : Grow n ts' kvs' ts2 kvs2) : Grow (m + n) ts kvs ts2 kvs2 := by
  obtain ⟨x, hx⟩ := a.pre
  obtain ⟨y, hy⟩ := b.pre
  exact ⟨⟨x ++ y, by rw [hy, hx, List.append_assoc]⟩, fun c h => b.key c (a.key c h), by have := a.tl; have := b.tl; omega, by have := a.kl; have := b.kl; omega⟩
theorem Grow.le (a : Grow m ts kvs ts' kvs') (h : m ≤ n) : Grow n ts kvs ts' kvs' := ⟨a.pre, a.key, by have := a.tl; omega, by have := a.kl; omega⟩
theorem TW.adrOk (W : TW C H bk nd td ts kvs) {a : Int} (h : isKey kvs a) : Adr ts a := by
  unfold isKey at h
  obtain ⟨v, hv⟩ := Option.isSome_iff_exists.mp h
  obtain ⟨a', e, E⟩ := W.ent _ _ hv
  cases e
  exact E.ok
theorem TW.keep {ex : Addr → Prop} (W : TW C H bk nd td ts kvs) (k : Kp ex H H') (hb : ¬ ex bk) (hn : ¬ ex nd) (ht : ¬ ex td) (hl : ∀ b xs, H b = some (.lst xs) → ¬ ex b) : TW C H' bk nd td ts kvs := by
  obtain ⟨⟨⟨dx, ob⟩, dc, nod⟩, tex, ne, keys, ent⟩ := W
  refine ⟨⟨⟨dx, k.old _ _ ob hb⟩, k.old _ _ dc hn, nod⟩, k.old _ _ tex ht, ne, keys, fun x v hv => ?_⟩
  obtain ⟨a, e, ⟨p, q, d, ks, e1, e2, e3, r⟩, ok⟩ := ent x v hv
  exact ⟨a, e, ⟨p, q, d, ks, e1, k.tup _ _ e2, k.old _ _ e3 (hl _ _ e3), r⟩, ok⟩
theorem TW.same (W : TW C H bk nd td ts kvs) (s : Same H H') : TW C H' bk nd td ts kvs := W.keep (Kp.same s (ex := fun _ => False)) id id id fun _ _ _ => id
theorem TW.mut (W : TW C H bk nd td ts kvs) {x : Addr} {o : HO} (s : Same H H') (h : H x = none) : TW C (upd H' x o) bk nd td ts kvs := W.same (same_mut s h o)
theorem TW.add {d : D} {ks : List Int} (W : TW C H bk nd td ts kvs) (kd : Kd d ks) (hk : ∀ c ∈ ks, isKey kvs c) (hb : BookAt C H3 bk nd (bookAdd ts (tx d.enc))) (hp : H3 p = some (.tup [.str (tx d.enc), .ref q])) (hq : H3 q = some (.lst (ks.map V.int)))
    (htd : H3 td = some (.dK (putK kvs (Sum.inl (adr (bookAdd ts (tx d.enc)) (tx d.enc) : Int)) (.ref p)))) (k : Kp (fun b => b = nd ∨ b = td) H H3) :
    TW C H3 bk nd td (bookAdd ts (tx d.enc)) (putK kvs (Sum.inl (adr (bookAdd ts (tx d.enc)) (tx d.enc) : Int)) (.ref p)) ∧ Grow 1 ts kvs (bookAdd ts (tx d.enc)) (putK kvs (Sum.inl (adr (bookAdd ts (tx d.enc)) (tx d.enc) : Int)) (.ref p)) := by
  obtain ⟨m, em⟩ := bookAdd_pre ts (tx d.enc)
  refine ⟨⟨hb, htd, W.ne, putK_keys _ _ _ W.keys, fun x v hv => ?_⟩, ⟨⟨m, em⟩, fun a h => isKey_put.mpr (.inr h), bookAdd_len _ _, putK_len _ _ _⟩⟩
  rw [valV_put] at hv
  by_cases hx : x = Sum.inl (adr (bookAdd ts (tx d.enc)) (tx d.enc) : Int)
  · rw [if_pos hx] at hv
    cases hv
    exact ⟨_, hx, ⟨p, q, d, ks, rfl, hp, hq, kd, tOf_adr (mem_bookAdd _ _), fun c hc => isKey_put.mpr (.inr (hk c hc))⟩, adr_Adr (mem_bookAdd _ _)⟩
  · rw [if_neg hx] at hv
    obtain ⟨a, e, ⟨p', q', d', ks', e1, e2, e3, e4, e5, e6⟩, ok⟩ := W.ent x v hv
    have n1 : q' ≠ nd := ne_of e3 W.book.dc (by intro z; cases z)
    have n2 : q' ≠ td := ne_of e3 W.tex (by intro z; cases z)
    refine ⟨a, e, ⟨p', q', d', ks', e1, k.tup _ _ e2, k.old _ _ e3 (by rintro (z | z); exact n1 z; exact n2 z), e4, ?_, fun c hc => isKey_put.mpr (.inr (e6 c hc))⟩, ?_⟩
    · rw [em, tOf_ext ok]
      exact e5
    · rw [em]
      exact ok.ext
end
/-! ### the lists of children that the dict holds -/
abbrev BT (nd td : Addr) : Addr → Prop := fun b => b = nd ∨ b = td
def Below (H : Hp) (kvs : List (Key × V)) (b : Addr) : Prop := ∃ (k : Key) (p : Addr) (t : V), valV kvs k = some (.ref p) ∧ H p = some (.tup [t, .ref b])
section
variable {C : Addr} {H H' H1 H2 H3 : Hp} {bk nd td p q x : Addr} {ts ts' ts1 ts2 : List Str} {kvs kvs' kvs1 kvs2 : List (Key × V)} {m n : Nat}
theorem Below.back (W : TW C H bk nd td ts kvs) (t : ∀ b xs, H b = some (.tup xs) → H' b = some (.tup xs)) {b : Addr} (h : Below H' kvs b) : Below H kvs b := by
  obtain ⟨k, p, z, h1, h2⟩ := h
  obtain ⟨a, e, ⟨p', q', d, ks, e1, e2, r⟩, ok⟩ := W.ent k _ h1
  cases e1
  rw [t _ _ e2] at h2
  cases h2
  exact ⟨k, p, _, h1, e2⟩
theorem Below.lst (W : TW C H bk nd td ts kvs) {b : Addr} (h : Below H kvs b) : ∃ ks : List Int, H b = some (.lst (ks.map V.int)) := by
  obtain ⟨k, p, z, h1, h2⟩ := h
  obtain ⟨a, e, ⟨p', q', d, ks, e1, e2, e3, r⟩, ok⟩ := W.ent k _ h1
  cases e1
  rw [e2] at h2
  cases h2
  exact ⟨ks, e3⟩
theorem Below.no (W : TW C H bk nd td ts kvs) {b : Addr} (h : H b = none) : ¬ Below H kvs b := fun z => by
  obtain ⟨ks, e⟩ := z.lst W
  rw [h] at e
  cases e
theorem Below.add {a : Int} {t0 : V} (W : TW C H bk nd td ts kvs) (t : ∀ b xs, H b = some (.tup xs) → H3 b = some (.tup xs)) (hp : H3 p = some (.tup [t0, .ref q])) {b : Addr} (h : Below H3 (putK kvs (Sum.inl a) (.ref p)) b) : b = q ∨ Below H kvs b := by
  obtain ⟨k, p', z, h1, h2⟩ := h
  rw [valV_put] at h1
  by_cases hk : k = Sum.inl a
  · rw [if_pos hk] at h1
    cases h1
    rw [hp] at h2
    cases h2
    exact .inl rfl
  · rw [if_neg hk] at h1
    exact .inr (Below.back W t ⟨k, p', z, h1, h2⟩)
/-- a list of one's own changes -/
theorem TW.lset {xs ys : List V} (W : TW C H bk nd td ts kvs) (hx : H x = some (.lst xs)) (nb : ¬ Below H kvs x) : TW C (upd H x (.lst ys)) bk nd td ts kvs := by
  obtain ⟨⟨⟨dx, ob⟩, dc, nod⟩, tex, ne, keys, ent⟩ := W
  refine ⟨⟨⟨dx, by rw [upd_ne (ne_of ob hx (by intro z; cases z))]; exact ob⟩, by rw [upd_ne (ne_of dc hx (by intro z; cases z))]; exact dc, nod⟩, by rw [upd_ne (ne_of tex hx (by intro z; cases z))]; exact tex, ne, keys, fun k v hv => ?_⟩
  obtain ⟨a, e, ⟨p, q, d, ks, e1, e2, e3, r⟩, ok⟩ := ent k v hv
  refine ⟨a, e, ⟨p, q, d, ks, e1, by rw [upd_ne (ne_of e2 hx (by intro z; cases z))]; exact e2, ?_, r⟩, ok⟩
  rw [upd_ne (fun z => nb (by rw [← z]; exact ⟨k, p, _, by rw [hv, e1], e2⟩))]
  exact e3
theorem tup_lset {xs ys : List V} (hx : H x = some (.lst xs)) : ∀ b zs, H b = some (.tup zs) → (upd H x (.lst ys)) b = some (.tup zs) := fun b zs e => by
  rw [upd_ne (ne_of e hx (by intro z; cases z))]
  exact e
/-- what a call that writes texts leaves -/
structure Stp (C bk nd td : Addr) (n : Nat) (H : Hp) (ts : List Str) (kvs : List (Key × V)) (H' : Hp) (ts' : List Str) (kvs' : List (Key × V)) : Prop where
  w : TW C H' bk nd td ts' kvs'
  g : Grow n ts kvs ts' kvs'
  k : Kp (BT nd td) H H'
  b : ∀ b, Below H' kvs' b → Below H kvs b ∨ H b = none
theorem Stp.refl (W : TW C H bk nd td ts kvs) : Stp C bk nd td 0 H ts kvs H ts kvs := ⟨W, Grow.refl, Kp.refl, fun _ h => .inl h⟩
theorem Stp.free (s : Stp C bk nd td n H ts kvs H1 ts1 kvs1) {b : Addr} (h : H1 b = none) : H b = none := s.k.free h (by
  rintro (rfl | rfl)
  · rw [s.w.book.dc] at h; cases h
  · rw [s.w.tex] at h; cases h)
theorem Stp.trans (a : Stp C bk nd td m H ts kvs H1 ts1 kvs1) (b : Stp C bk nd td n H1 ts1 kvs1 H2 ts2 kvs2) : Stp C bk nd td (m + n) H ts kvs H2 ts2 kvs2 :=
  ⟨b.w, a.g.trans b.g, a.k.trans b.k, fun c h => by
    rcases b.b c h with q | q
    · exact a.b c q
    · exact .inr (a.free q)⟩
theorem Stp.le (a : Stp C bk nd td m H ts kvs H1 ts1 kvs1) (h : m ≤ n) : Stp C bk nd td n H ts kvs H1 ts1 kvs1 := ⟨a.w, a.g.le h, a.k, a.b⟩
theorem Stp.same (a : Stp C bk nd td m H ts kvs H1 ts1 kvs1) (s : Same H1 H2) : Stp C bk nd td m H ts kvs H2 ts1 kvs1 :=
  ⟨a.w.same s, a.g, a.k.trans (Kp.same s), fun c h => a.b c (h.back a.w fun b xs e => s b _ e)⟩
theorem Stp.lset {xs ys : List V} (a : Stp C bk nd td m H ts kvs H1 ts1 kvs1) (h0 : H x = none) (hx : H1 x = some (.lst xs)) (nb : ¬ Below H1 kvs1 x) : Stp C bk nd td m H ts kvs (upd H1 x (.lst ys)) ts1 kvs1 :=
  ⟨a.w.lset hx nb, a.g, a.k.mut h0, fun c h => a.b c (h.back a.w (tup_lset hx))⟩
/-- a list that was tracked ahead is no list of children behind -/
theorem Stp.nb {o : HO} (a : Stp C bk nd td m H ts kvs H1 ts1 kvs1) (h : H x = some o) (nb : ¬ Below H kvs x) : ¬ Below H1 kvs1 x := fun z => by
  rcases a.b x z with q | q
  · exact nb q
  · rw [h] at q; cases q
/-- a chunk is written: the book, the pair, the dict -/
theorem Stp.add {d : D} {ks : List Int} (W : TW C H bk nd td ts kvs) (kd : Kd d ks) (hk : ∀ c ∈ ks, isKey kvs c) (hb : BookAt C H3 bk nd (bookAdd ts (tx d.enc))) (hp : H3 p = some (.tup [.str (tx d.enc), .ref q])) (hq : H3 q = some (.lst (ks.map V.int))) (hn : Below H kvs q ∨ H q = none)
    (htd : H3 td = some (.dK (putK kvs (Sum.inl (adr (bookAdd ts (tx d.enc)) (tx d.enc) : Int)) (.ref p)))) (k : Kp (fun b => b = nd ∨ b = td) H H3) :
    Stp C bk nd td 1 H ts kvs H3 (bookAdd ts (tx d.enc)) (putK kvs (Sum.inl (adr (bookAdd ts (tx d.enc)) (tx d.enc) : Int)) (.ref p)) := by
  obtain ⟨w, g⟩ := W.add kd hk hb hp hq htd k
  refine ⟨w, g, k, fun b h => ?_⟩
  rcases Below.add W k.tup hp h with z | z
  · rw [z]
    exact hn
  · exact .inl z
end
theorem numI_le {i : Int} {n : Nat} (hn : 0 < n) (h0 : 0 ≤ i) (h : i < 10 ^ n) : (numI i).length ≤ n := by
  rw [numI_pos (by omega)]
  refine numL_len hn ?_
  have e : ((i.natAbs : Nat) : Int) = i := by omega
  have : ((i.natAbs : Nat) : Int) < ((10 ^ n : Nat) : Int) := by
    rw [e, Int.natCast_pow]
    exact h
  exact Int.ofNat_lt.mp this
/-- an entry's key, its rest -/
structure KeyD (k : D) : Prop where
  good : k.Good
  dep : k.dep ≤ 1
  len : k.enc.length ≤ 200
inductive EntD (kvs : List (Key × V)) : Nat → D → Prop
  | row (key rest : D) : KeyD key → KeyD rest → EntD kvs 0 (.tup [key, rest])
  | node (lvl : Nat) (key : D) (a c : Int) : KeyD key → isKey kvs a → 0 ≤ c → c ≤ 8 ^ (lvl + 1) → EntD kvs (lvl + 1) (.tup [key, .int a, .int c])
theorem EntD.mono {kvs kvs' : List (Key × V)} (h : ∀ a, isKey kvs a → isKey kvs' a) {lvl : Nat} {e : D} (x : EntD kvs lvl e) : EntD kvs' lvl e := by
  cases x with
  | row key rest a b => exact .row key rest a b
  | node lvl key a c k i h0 h1 => exact .node lvl key a c k (h a i) h0 h1
theorem EntD.key {kvs : List (Key × V)} {lvl : Nat} {e : D} (x : EntD kvs lvl e) : ∃ key r, e = .tup (key :: r) ∧ KeyD key := by
  cases x with
  | row key rest a b => exact ⟨key, _, rfl, a⟩
  | node lvl key a c k i h0 h1 => exact ⟨key, _, rfl, k⟩
theorem pow8 {lvl : Nat} (h : lvl ≤ 62) : (8 : Int) ^ lvl < 10 ^ 58 := by
  have h1 : (8 : Nat) ^ lvl ≤ 8 ^ 62 := Nat.pow_le_pow_right (by decide) h
  have h2 : (8 : Nat) ^ 62 < 10 ^ 58 := by decide
  have h3 : (8 : Nat) ^ lvl < 10 ^ 58 := Nat.lt_of_le_of_lt h1 h2
  have h4 : (((8 : Nat) ^ lvl : Nat) : Int) < ((10 ^ 58 : Nat) : Int) := Int.ofNat_lt.mpr h3
  rw [Int.natCast_pow, Int.natCast_pow] at h4
  exact h4
theorem EntD.small {C : Addr} {H : Hp} {bk nd td : Addr} {ts : List Str} {kvs : List (Key × V)} (W : TW C H bk nd td ts kvs) (hl : ts.length ≤ 500000) {lvl : Nat} {e : D} (x : EntD kvs lvl e) (hv : lvl ≤ 62) : e.Good ∧ e.dep ≤ 2 ∧ e.enc.length ≤ 500 := by
  cases x with
  | row key rest a b =>
    refine ⟨⟨a.good, b.good, trivial⟩, ?_, ?_⟩
    · have := a.dep
      have := b.dep
      simp only [D.dep, D.depA]
      omega
    · have := a.len
      have := b.len
      simp only [D.enc, D.encA, List.length_cons, List.length_append, List.length_nil]
      omega
  | node lvl key a c k i h0 h1 =>
    have ok := W.adrOk i
    have o1 := ok.1
    have o2 := ok.2
    have hc : c < 10 ^ 58 := Int.lt_of_le_of_lt h1 (pow8 (by omega))
    have na : (numI a).length ≤ 9 := numI_le (by decide) (by omega) (by omega)
    have nc : (numI c).length ≤ 58 := numI_le (by decide) h0 hc
    refine ⟨⟨k.good, ?_, ?_, trivial⟩, ?_, ?_⟩
    · show a.natAbs < 10 ^ 60
      omega
    · show c.natAbs < 10 ^ 60
      have : (10 : Int) ^ 58 < 10 ^ 60 := by decide
      omega
    · have := k.dep
      simp only [D.dep, D.depA]
      omega
    · have := k.len
      simp only [D.enc, D.encA, List.length_cons, List.length_append, List.length_nil]
      omega
theorem encA_le {n : Nat} : ∀ {ds : List D}, (∀ d ∈ ds, d.enc.length ≤ n) → (D.encA ds).length ≤ ds.length * n
  | [], _ => Nat.zero_le _
  | d :: ds, h => by
    have h1 := h d List.mem_cons_self
    have h2 := encA_le (ds := ds) fun e he => h e (List.mem_cons_of_mem _ he)
    simp only [D.encA, List.length_append, List.length_cons, Nat.add_mul, Nat.one_mul]
    omega
theorem rowsText : (tl (("rows" : String) : Str)).length = 4 := by decide +kernel
theorem nodeText : (tl (("node" : String) : Str)).length = 4 := by decide +kernel
theorem numL4 : (numL 4).length = 1 := by rw [numL_lt (by decide)]; rfl
theorem numL5 : (numL 5).length = 1 := by rw [numL_lt (by decide)]; rfl
theorem numL6 : (numL 6).length = 1 := by rw [numL_lt (by decide)]; rfl
/-- a chunk of rows -/
theorem kd_rows {C : Addr} {H : Hp} {bk nd td : Addr} {ts : List Str} {kvs : List (Key × V)} (W : TW C H bk nd td ts kvs) (hl : ts.length ≤ 500000) {lvl : Nat} (hv : lvl ≤ 62) {ds : List D} (h : ∀ d ∈ ds, EntD kvs lvl d) (h8 : ds.length ≤ 8) : Kd (.tup [.str "rows", .tup ds]) [] := by
  have e := encA_le (n := 500) fun d hd => ((h d hd).small W hl hv).2.2
  have dd := depA_le (n := 2) fun d hd => ((h d hd).small W hl hv).2.1
  have l4 : (("rows" : String) : Str).length = 4 := by rw [len_tl, rowsText]
  refine ⟨.rows ds, ⟨(by show (("rows" : String) : Str).length < 10 ^ 6; omega), goodA_of fun d hd => ((h d hd).small W hl hv).1, trivial⟩, ?_, ?_, Nat.zero_le _⟩
  · simp only [D.dep, D.depA]
    omega
  · simp only [D.enc, D.encA, List.length_cons, List.length_append, List.length_nil, l4, rowsText, numL4]
    omega
/-- entries of a level above the first, as three things -/
theorem node_es {kvs : List (Key × V)} {lvl : Nat} : ∀ {ds : List D}, (∀ d ∈ ds, EntD kvs (lvl + 1) d) → ∃ es : List (D × Int × Int), ds = es.map (fun e => D.tup [e.1, .int e.2.1, .int e.2.2]) ∧ ∀ e ∈ es, isKey kvs e.2.1 ∧ 0 ≤ e.2.2 ∧ e.2.2 ≤ 8 ^ (lvl + 1)
  | [], _ => ⟨[], rfl, fun e h => absurd h List.not_mem_nil⟩
  | d :: ds, h => by
    obtain ⟨es, e1, e2⟩ := node_es (ds := ds) fun x hx => h x (List.mem_cons_of_mem _ hx)
    have hd := h d List.mem_cons_self
    cases hd with
    | node lvl key a c k i h0 h1 =>
      refine ⟨(key, a, c) :: es, by rw [e1]; rfl, fun e he => ?_⟩
      rcases List.mem_cons.mp he with q | q
      · subst q
        exact ⟨i, h0, h1⟩
      · exact e2 e q
theorem kd_node {C : Addr} {H : Hp} {bk nd td : Addr} {ts : List Str} {kvs : List (Key × V)} (W : TW C H bk nd td ts kvs) (hl : ts.length ≤ 500000) {lvl : Nat} (hv : lvl + 1 ≤ 62) {es : List (D × Int × Int)} (h : ∀ d ∈ es.map (fun e => D.tup [e.1, .int e.2.1, .int e.2.2]), EntD kvs (lvl + 1) d) (h8 : es.length ≤ 8) :
    Kd (.tup [.str "node", .int ((lvl + 1 : Nat) : Int), .tup (es.map fun e => .tup [e.1, .int e.2.1, .int e.2.2])]) (es.map fun e => e.2.1) := by
  have e := encA_le (n := 500) fun d hd => ((h d hd).small W hl hv).2.2
  have dd := depA_le (n := 2) fun d hd => ((h d hd).small W hl hv).2.1
  have l4 : (("node" : String) : Str).length = 4 := by rw [len_tl, nodeText]
  rw [List.length_map] at e
  have nl : (numI ((lvl + 1 : Nat) : Int)).length ≤ 2 := numI_le (by decide) (by omega) (by omega)
  refine ⟨.node _ es, ⟨(by show (("node" : String) : Str).length < 10 ^ 6; omega), (by show ((lvl + 1 : Nat) : Int).natAbs < 10 ^ 60; omega), goodA_of fun d hd => ((h d hd).small W hl hv).1, trivial⟩, ?_, ?_, by rw [List.length_map]; exact h8⟩
  · simp only [D.dep, D.depA]
    omega
  · simp only [D.enc, D.encA, List.length_cons, List.length_append, List.length_nil, l4, nodeText, numL4]
    omega
theorem RpA.comp3 {H : Hp} : ∀ {es : List (D × Int × Int)} {xs : List V} {i : Nat} {e : D × Int × Int}, RpA H xs (es.map fun e => D.tup [e.1, .int e.2.1, .int e.2.2]) → es[i]? = some e → ∃ c k, xs[i]? = some (.ref c) ∧ H c = some (.tup [k, .int e.2.1, .int e.2.2]) := by
  intro es xs i e h he
  obtain ⟨v, hv, r⟩ := h.at (i := i) (d := D.tup [e.1, .int e.2.1, .int e.2.2]) (by rw [List.getElem?_map, he]; rfl)
  cases r with
  | @tup c zs _ hc hz =>
    cases hz with
    | cons z1 hz =>
    cases hz with
    | cons z2 hz =>
    cases hz with
    | cons z3 hz =>
    cases hz
    cases z2
    cases z3
    exact ⟨c, _, hv, hc⟩
theorem sum_le {n : Int} : ∀ {l : List Int}, (∀ x ∈ l, 0 ≤ x ∧ x ≤ n) → 0 ≤ l.sum ∧ l.sum ≤ (l.length : Int) * n
  | [], _ => by simp
  | a :: l, h => by
    have h1 := h a List.mem_cons_self
    have h2 := sum_le (l := l) fun x hx => h x (List.mem_cons_of_mem _ hx)
    rw [List.sum_cons, List.length_cons]
    have e : ((l.length + 1 : Nat) : Int) * n = (l.length : Int) * n + n := by rw [Int.natCast_add, Int.add_mul]; simp
    rw [e]
    omega
end My
set_option Elab.async false
set_option linter.all false
set_option maxRecDepth 100000
set_option maxHeartbeats 8000000
/-! The walk of _law_level. -/
namespace My
open PySem L2 TL
def spLLevel (C : Addr) : Sp := fun vs H Q _ => ∃ (bk nd td el : Addr) (ts : List Str) (kvs : List (Key × V)) (lvl : Nat) (xs : List V) (ds : List D), vs = [.ref bk, .int (lvl : Int), .ref el, .ref td] ∧ TW C H bk nd td ts kvs ∧ H el = some (.lst xs) ∧ RpA H xs ds ∧
  (∀ d ∈ ds, EntD kvs lvl d) ∧ lvl ≤ 60 ∧ 1 ≤ ds.length ∧ ds.length ≤ 1000 ∧ ts.length ≤ 200000 ∧ kvs.length ≤ 200000 ∧
  ∀ p H' ts' kvs' ys es, Stp C bk nd td es.length H ts kvs H' ts' kvs' → H p = none → H' p = some (.lst ys) → ¬ Below H' kvs' p → RpA H' ys es → (∀ e ∈ es, EntD kvs' (lvl + 1) e) → es ≠ [] → es.length ≤ ds.length → (1 ≤ lvl → 2 * es.length ≤ ds.length + 1) → Q (.ref p) H'
/-- what holds behind i turns -/
structure LvI (C : Addr) (H0 : Hp) (bk nd td : Addr) (ts : List Str) (kvs : List (Key × V)) (lvl n i : Nat) (ab g : Addr) (H : Hp) (ts' : List Str) (kvs' : List (Key × V)) (ya yg : List V) (da dg : List D) : Prop where
  st : Stp C bk nd td da.length H0 ts kvs H ts' kvs'
  a1 : H ab = some (.lst ya)
  a2 : RpA H ya da
  a3 : ∀ e ∈ da, EntD kvs' (lvl + 1) e
  ba : ¬ Below H kvs' ab
  g1 : H g = some (.lst yg)
  g2 : RpA H yg dg
  g3 : ∀ e ∈ dg, EntD kvs' lvl e
  g4 : dg.length ≤ 7
  bg : ¬ Below H kvs' g
  ne : g ≠ ab
  fa : H0 ab = none
  fg : H0 g = none
  l1 : da.length + dg.length ≤ i
  l2 : i < n → 1 ≤ lvl → 2 * da.length + dg.length ≤ i
  l3 : i = n → 1 ≤ lvl → 2 * da.length ≤ n + 1
  l4 : i = n → 1 ≤ n → da ≠ []
section
variable {P : Program} {w : World} {K : PySem.W.Frag} {mg : Str → Option Value} {base : Heap} {f C : Addr} {fd : FuncData}
theorem ok_llevel (F : Fun K "_law_level" "_law_level" s_Llevel f fd) (B : Bl mg) (D_Lencode : Def P w K mg base 11 "_law_encode" [nItem] (spLEnc 10)) (D_Lends : Def P w K mg base 12 "_law_ends" ["_law_level_here", "_law_key", "_law_count"] spLEnds)
    (M_Book_address : MDef P w K mg base 1 C "address" ["self", "text"] (spBookAddress C)) : FnOk P w K mg base CX0 13 f fd ["_law_book", "_law_level_here", "_law_entries_here", "_law_texts"] (spLLevel C) := by
  refine F.ok sc_Llevel (fun vs H Q E h => ?_) (fun cdv A outer s H vs Q E hr h => ?_)
  · obtain ⟨bk, nd, td, el, ts, kvs, lvl, xs, ds, rfl, _⟩ := h
    rfl
  · obtain ⟨bk, nd, td, el, ts, kvs, lvl, xs, ds, rfl, W, hel, hx, hE, hlv, hn1, hn, hts, hkv, q⟩ := h
    have hu := hu_of hr
    refine ⟨_, (pss_cons (ps_set (i := 4) sc_Llevel.nd rfl (Or.inl rfl) (pe_lst pa_nil))
      (pss_cons (ps_set (i := 5) sc_Llevel.nd rfl (Or.inl rfl) (pe_lst pa_nil))
      (pss_cons (ps_for PassesOwn.never rfl (pi_range1 (by rfl) B.range (pa_cons (pe_callB call_len_seq (by rfl) B.len (by decide +kernel) (pa_cons (pv 2) pa_nil)) pa_nil)) (pg_name (i := 6) sc_Llevel.nd rfl (Or.inl rfl))
        (pss_cons (ps_expr (pe_bm PySem.F.plainAttrs_list PySem.F.slot_list_append PySem.F.type_list_append mt_append (pv 5) (pa_cons (pe_ix ix_list (pv 2) (pv 6) (fun _ _ => rfl)) pa_nil)))
        (pss_one (ps_if (PW.pt (pw_or (pt_cmpR op_eq (pv 6) (pe_op op_sub (pe_callB call_len_seq (by rfl) B.len (by decide +kernel) (pa_cons (pv 2) pa_nil)) pe_int) (nomark _)) (pw_or1 (pt_val (D_Lends.call hr (by omega) (pa_cons (pv 1) (pa_cons (pe_ix ix_tup (pe_ix ix_list (pv 2) (pv 6) (fun _ _ => rfl)) pe_int (fun _ _ => rfl)) (pa_cons (pe_callB call_len_seq (by rfl) B.len (by decide +kernel) (pa_cons (pv 5) pa_nil)) pa_nil))))))))
          (pss_cons (ps_set (i := 7) sc_Llevel.nd rfl (Or.inl rfl) (pe_tup (pa_cons pe_str (pa_cons (pe_callTy call_tuple_of (by rfl) B.tuple (by decide +kernel) (pa_cons (pv 5) pa_nil)) pa_nil))))
          (pss_cons (ps_set (i := 8) sc_Llevel.nd rfl (Or.inl rfl) (pe_callB call_len_seq (by rfl) B.len (by decide +kernel) (pa_cons (pv 5) pa_nil)))
          (pss_cons (ps_set (i := 9) sc_Llevel.nd rfl (Or.inl rfl) (pe_lst pa_nil))
          (C8.pss_cut (ps_if (pt_cmpR op_gt (pv 1) pe_int (nomark _))
            (pss_cons (ps_set (i := 7) sc_Llevel.nd rfl (Or.inl rfl) (pe_tup (pa_cons pe_str (pa_cons (pv 1) (pa_cons (pe_callTy call_tuple_of (by rfl) B.tuple (by decide +kernel) (pa_cons (pv 5) pa_nil)) pa_nil)))))
            (pss_cons (ps_set (i := 8) sc_Llevel.nd rfl (Or.inl rfl) (pe_callB (cr_sum rfl) (by rfl) B.sum (by decide +kernel) (pa_cons (pe_lc (own := [("_law_entry", 12)]) (g := gName 12) (tt := tYes) rfl sc_Llevel.nd (pi_list (pv 5)) (blkOk_by (own := [("_law_entry", 12)]) (N := N_Llevel) (sc := defScope s_Llevel) (by decide +kernel)) (fun _ _ _ _ _ => (pg_name (i := 12) sc_Llevel.nd rfl (Or.inl rfl))) (fun _ _ _ _ _ => pts_nil) (fun _ _ _ _ _ => (pe_ix (r := rIxT K) ix_tup (pv 12) pe_int (fun _ _ => rfl)))) pa_nil)))
            (pss_one (ps_setLc (i := 9) (own := [("_law_entry", 12)]) (g := gName 12) (tt := tYes) rfl sc_Llevel.nd rfl rfl (sw_true rfl rfl rfl (by decide +kernel)) (pi_list (pv 5)) (blkOk_by (own := [("_law_entry", 12)]) (N := N_Llevel) (sc := defScope s_Llevel) (by decide +kernel)) (fun _ _ _ _ _ => (pg_name (i := 12) sc_Llevel.nd rfl (Or.inl rfl))) (fun _ _ _ _ _ => pts_nil) (fun _ _ _ _ _ => (pe_ix (r := rIxT K) ix_tup (pv 12) pe_int (fun _ _ => rfl)))))))
            pss_nil)
          (pss_cons (ps_set (i := 10) sc_Llevel.nd rfl (Or.inl rfl) (D_Lencode.call hr (by omega) (pa_cons (pv 7) pa_nil)))
          (pss_cons (ps_set (i := 11) sc_Llevel.nd rfl (Or.inl rfl) (M_Book_address.call hr (by omega) (pv 0) (pa_cons (pv 10) pa_nil)))
          (pss_cons (ps_dput hu (pv 3) (pv 11) (pe_tup (pa_cons (pv 10) (pa_cons (pv 9) pa_nil))) rfl)
          (pss_cons (ps_expr (pe_bm PySem.F.plainAttrs_list PySem.F.slot_list_append PySem.F.type_list_append mt_append (pv 4) (pa_cons (pe_tup (pa_cons (pe_ix ix_tup (pe_ix ix_list (pv 5) (pe_un un_neg pe_int) (fun _ _ => rfl)) pe_int (fun _ _ => rfl)) (pa_cons (pv 11) (pa_cons (pv 8) pa_nil)))) pa_nil)))
          (pss_one (ps_set (i := 5) sc_Llevel.nd rfl (Or.inl rfl) (pe_lst pa_nil)))))))))))
          pss_nil))))
      (pss_one (ps_ret (pv 4)))))), ?_⟩
    have hxl := hx.length
    have nel : ¬ BT nd td el := by
      rintro (z | z)
      · exact ne_of hel W.book.dc (by intro z; cases z) z
      · exact ne_of hel W.tex (by intro z; cases z) z
    refine ⟨(by show 0 ≤ sizeLine; decide), fun ab hab => ?_⟩
    refine ⟨(by show 0 ≤ sizeLine; decide), fun g0 hg0 => ?_⟩
    have s0 : Same H (upd H ab (.lst [])) := same_new hab _
    have s1 : Same H (upd (upd H ab (.lst [])) g0 (.lst [])) := s0.trans (same_new hg0 _)
    have ng0 : g0 ≠ ab := (ne_of_none upd_same hg0).symm
    refine ⟨_, rfl, el, xs, rfl, .inl (SqL.of (s1 _ _ hel)), _, rfl, by omega, by omega, ?_⟩
    rw [Int.toNat_natCast]
    have st1 := (Stp.refl W).same s1
    refine for_range (lo := 0) (n := xs.length) (fun i σ H' => ∃ (g : Addr) (ts' : List Str) (kvs' : List (Key × V)) (ya yg : List V) (da dg : List D) (kv s7 s8 s9 s10 s11 : Option V),
        σ = [some (.ref bk), some (.int (lvl : Int)), some (.ref el), some (.ref td), some (.ref ab), some (.ref g), kv, s7, s8, s9, s10, s11, none] ∧ LvI C H bk nd td ts kvs lvl xs.length i ab g H' ts' kvs' ya yg da dg)
      ⟨g0, ts, kvs, [], [], [], [], none, none, none, none, none, none, rfl, { st := st1, a1 := by rw [upd_ne ng0.symm, upd_same]
                                                                              , a2 := .nil, a3 := fun e h => absurd h List.not_mem_nil
                                                                              , ba := fun z => Below.no W hab (z.back W fun b xs e => s1 b _ e)
                                                                              , g1 := upd_same, g2 := .nil, g3 := fun e h => absurd h List.not_mem_nil, g4 := Nat.zero_le _
                                                                              , bg := fun z => Below.no W (s0.free hg0) (z.back W fun b xs e => s1 b _ e)
                                                                              , ne := ng0, fa := hab, fg := s0.free hg0, l1 := Nat.le_refl _, l2 := fun _ _ => Nat.le_refl _, l3 := fun _ _ => Nat.zero_le _, l4 := fun h1 h2 => by omega }⟩ ?_ ?_
    · rintro i σ H' hi ⟨g, ts', kvs', ya, yg, da, dg, kv, s7, s8, s9, s10, s11, rfl, I⟩
      have hel' := I.st.k.old _ _ hel nel
      have htl := I.st.g.tl
      have hkl := I.st.g.kl
      have hl1 := I.l1
      have hg4 := I.g4
      have hyg := I.g2.length
      have hya := I.a2.length
      obtain ⟨d, hd, rx⟩ := hx.get (List.getElem?_eq_getElem hi)
      have hdm := List.mem_of_getElem? hd
      have Ed := (hE d hdm).mono I.st.g.key
      have rx' : Rp H' xs[i] d := rx.mono I.st.k.tup _ _
      have hat : atI xs (0 + (i : Int)) = some xs[i] := by
        rw [Int.zero_add]
        exact atI_nat (List.getElem?_eq_getElem hi)
      refine ⟨_, rfl, .inl ⟨rfl, _, SqL.of I.g1⟩, _, rfl, _, rfl, el, xs, _, xs[i], rfl, rfl, SqL.of hel', hat, g, yg, _, rfl, rfl, I.g1, (by rw [hyg]; exact szlt (by omega)), ?_⟩
      have S2 : Stp C bk nd td da.length H ts kvs (upd H' g (.lst (yg ++ [xs[i]]))) ts' kvs' := I.st.lset I.fg I.g1 I.bg
      have t2 : ∀ b zs, H' b = some (.tup zs) → (upd H' g (.lst (yg ++ [xs[i]]))) b = some (.tup zs) := tup_lset I.g1
      have e2g : (upd H' g (.lst (yg ++ [xs[i]]))) g = some (.lst (yg ++ [xs[i]])) := upd_same
      have e2a : (upd H' g (.lst (yg ++ [xs[i]]))) ab = some (.lst ya) := by
        rw [upd_ne I.ne.symm]
        exact I.a1
      have ba2 : ¬ Below (upd H' g (.lst (yg ++ [xs[i]]))) kvs' ab := fun z => I.ba (z.back I.st.w t2)
      have bg2 : ¬ Below (upd H' g (.lst (yg ++ [xs[i]]))) kvs' g := fun z => I.bg (z.back I.st.w t2)
      have r2 : RpA (upd H' g (.lst (yg ++ [xs[i]]))) (yg ++ [xs[i]]) (dg ++ [d]) := RpA.snoc (rx'.mono t2 _ _) (I.g2.mono t2 _ _)
      have a2 : RpA (upd H' g (.lst (yg ++ [xs[i]]))) ya da := I.a2.mono t2 _ _
      have rx2 := rx'.mono t2 _ _
      generalize upd H' g (.lst (yg ++ [xs[i]])) = H2 at S2 t2 e2g e2a ba2 bg2 r2 a2 rx2 ⊢
      have hel2 := S2.k.old _ _ hel nel
      have E3 : ∀ e ∈ dg ++ [d], EntD kvs' lvl e := fun e he => by
        rcases List.mem_append.mp he with z | z
        · exact I.g3 e z
        · rw [List.mem_singleton.mp z]; exact Ed
      have lyg : (yg ++ [xs[i]]).length = dg.length + 1 := by rw [List.length_append, hyg]; rfl
      dsimp only
      refine if_by (fun b H3 => Same H2 H3 ∧ (i + 1 = xs.length → b = true) ∧ (dg.length = 7 → b = true) ∧ (i + 1 ≠ xs.length → 1 ≤ lvl → dg.length = 0 → b = false)) (fun Q' hQ => ?_) (fun b H3 hb => ?_)
      · refine ⟨_, rfl, _, rfl, el, xs, rfl, .inl (SqL.of hel2), _, _, rfl, rfl, rfl, _, rfl, ?_⟩
        refine ite2 (fun c => ?_) (fun c => ?_)
        · have c' := V.int.inj (of_decide_eq_true c)
          exact hQ true H2 ⟨Same.refl _, fun _ => rfl, fun _ => rfl, fun z => absurd (by omega) z⟩
        · have c' : i + 1 ≠ xs.length := fun z => c (decide_eq_true (by rw [show (0 + (i : Int)) = (xs.length : Int) - 1 by omega]))
          obtain ⟨key, r, ed, kd⟩ := Ed.key
          rw [ed] at rx2
          generalize hxi : xs[i] = xi at rx2 hat ⊢
          cases rx2 with
          | @tup cc zs _ hcc hzs =>
          cases hzs with
          | cons hk hzs =>
          refine ⟨_, rfl, _, rfl, _, rfl, el, xs, _, _, rfl, rfl, SqL.of hel2, hat, cc, _, _, _, rfl, rfl, SqT.of hcc, at0, _, rfl, g, _, rfl, .inl (SqL.of e2g), (lvl : Int), ((yg ++ [xs[i]]).length : Int), _, key, ?_, by omega, by omega, hk, kd.good, ?_, ?_, ?_⟩
          · rfl
          · have := kd.dep
            omega
          · have := kd.len
            omega
          · intro b H3 s3 h8 h1
            refine ⟨b, rfl, hQ b H3 ⟨s3, fun z => absurd z c', fun z => h8 (by rw [lyg, z]; rfl), fun _ z1 z2 => h1 (by omega) (by rw [lyg, z2]; rfl)⟩⟩
      · obtain ⟨s3, hlast, h8, h1⟩ := hb
        have S3 := S2.same s3
        have e3g := s3 _ _ e2g
        have e3a := s3 _ _ e2a
        have r3 := same_rpA s3 r2
        have a3 := same_rpA s3 a2
        have ba3 : ¬ Below H3 kvs' ab := fun z => ba2 (z.back S2.w fun b xs e => s3 b _ e)
        have bg3 : ¬ Below H3 kvs' g := fun z => bg2 (z.back S2.w fun b xs e => s3 b _ e)
        cases b with
        | false =>
          refine if_f rfl ?_
          have c1 : i + 1 ≠ xs.length := fun z => Bool.noConfusion (hlast z)
          have c2 : dg.length ≠ 7 := fun z => Bool.noConfusion (h8 z)
          refine ⟨g, ts', kvs', ya, yg ++ [xs[i]], da, dg ++ [d], _, s7, s8, s9, s10, s11, rfl, { st := S3, a1 := e3a, a2 := a3, a3 := I.a3, ba := ba3, g1 := e3g, g2 := r3, g3 := E3, g4 := ?_, bg := bg3, ne := I.ne, fa := I.fa, fg := I.fg, l1 := ?_, l2 := ?_, l3 := ?_, l4 := ?_ }⟩
          · rw [List.length_append, List.length_singleton]
            omega
          · rw [List.length_append, List.length_singleton]
            omega
          · intro z1 z2
            have := I.l2 hi z2
            rw [List.length_append, List.length_singleton]
            omega
          · intro z
            exact absurd z c1
          · intro z
            exact absurd z c1
        | true =>
          refine if_t rfl ?_
          have hts' : ts'.length ≤ 500000 := by omega
          have h8' : (dg ++ [d]).length ≤ 8 := by
            rw [List.length_append, List.length_singleton]
            omega
          -- item, count, below
          refine ⟨_, rfl, g, _, rfl, .inl ⟨SqL.of e3g, fun pt hpt => ⟨(by show 2 ≤ sizeLine; decide), fun pi hpi => ?_⟩⟩⟩
          have s4 : Same H3 (upd H3 pt (.tup (yg ++ [xs[i]]))) := same_new hpt _
          have s5 := s4.trans (same_new hpi (.tup [.str "rows", .ref pt]))
          have ept : (upd (upd H3 pt (.tup (yg ++ [xs[i]]))) pi (.tup [.str "rows", .ref pt])) pt = some (.tup (yg ++ [xs[i]])) := by rw [upd_ne (ne_of_none upd_same hpi), upd_same]
          have epi : (upd (upd H3 pt (.tup (yg ++ [xs[i]]))) pi (.tup [.str "rows", .ref pt])) pi = some (.tup [.str "rows", .ref pt]) := upd_same
          have rd5 : Rp (upd (upd H3 pt (.tup (yg ++ [xs[i]]))) pi (.tup [.str "rows", .ref pt])) (.ref pi) (.tup [.str "rows", .tup (dg ++ [d])]) := .tup epi (.cons (.str _) (.cons (.tup ept (same_rpA s5 r3)) .nil))
          generalize upd (upd H3 pt (.tup (yg ++ [xs[i]]))) pi (.tup [.str "rows", .ref pt]) = H5 at s5 rd5 ⊢
          refine ⟨_, rfl, g, _, rfl, .inl (SqL.of (s5 _ _ e3g)), ?_⟩
          refine ⟨(by show 0 ≤ sizeLine; decide), fun q0 hq0 => ?_⟩
          have s6 := s5.trans (same_new hq0 (.lst []))
          refine ⟨fun σ' H' => ∃ (v : V) (c : Int) (q1 : Addr) (dd : D) (ks : List Int), σ' = [some (.ref bk), some (.int (lvl : Int)), some (.ref el), some (.ref td), some (.ref ab), some (.ref g), some (.int (0 + (i : Int))), some v, some (.int c), some (.ref q1), s10, s11, none] ∧
              Same H3 H' ∧ Rp H' v dd ∧ Kd dd ks ∧ H' q1 = some (.lst (ks.map V.int)) ∧ H3 q1 = none ∧ (∀ x ∈ ks, isKey kvs' x) ∧ 0 ≤ c ∧ c ≤ 8 ^ (lvl + 1), ?_, ?_⟩
          · refine ⟨_, rfl, _, _, rfl, rfl, _, rfl, ?_⟩
            refine ite2 (fun c => ?_) (fun c => ?_)
            · have c' : 0 < (lvl : Int) := of_decide_eq_true c
              obtain ⟨l, rfl⟩ : ∃ l, lvl = l + 1 := ⟨lvl - 1, by omega⟩
              obtain ⟨es, ees, hes⟩ := node_es E3
              have les : es.length = dg.length + 1 := by
                have := congrArg List.length ees
                rw [List.length_append, List.length_map, List.length_singleton] at this
                omega
              have r6 : RpA (upd H5 q0 (.lst [])) (yg ++ [xs[i]]) (es.map fun e => D.tup [e.1, .int e.2.1, .int e.2.2]) := by
                rw [← ees]
                exact same_rpA s6 r3
              have e6g := s6 _ _ e3g
              have f6 : ∀ b, (upd H5 q0 (.lst [])) b = none → H3 b = none := fun b z => s6.free z
              generalize upd H5 q0 (.lst []) = H6 at s6 r6 e6g f6 ⊢
              refine ⟨_, rfl, _, rfl, g, _, rfl, .inl ⟨SqL.of e6g, fun pt2 hpt2 => ⟨(by show 3 ≤ sizeLine; decide), fun pi2 hpi2 => ?_⟩⟩⟩
              have s7' := s6.trans ((same_new hpt2 (.tup (yg ++ [xs[i]]))).trans (same_new hpi2 (.tup [.str "node", .int ((l + 1 : Nat) : Int), .ref pt2])))
              have s67 := (same_new hpt2 (.tup (yg ++ [xs[i]]))).trans (same_new hpi2 (.tup [.str "node", .int ((l + 1 : Nat) : Int), .ref pt2]))
              have rd7 : Rp (upd (upd H6 pt2 (.tup (yg ++ [xs[i]]))) pi2 (.tup [.str "node", .int ((l + 1 : Nat) : Int), .ref pt2])) (.ref pi2) (.tup [.str "node", .int ((l + 1 : Nat) : Int), .tup (es.map fun e => D.tup [e.1, .int e.2.1, .int e.2.2])]) :=
                .tup upd_same (.cons (.str _) (.cons (.int _) (.cons (.tup (by rw [upd_ne (ne_of_none upd_same hpi2), upd_same]) (same_rpA s67 r6)) .nil)))
              have r7 := same_rpA s67 r6
              have e7g := s67 _ _ e6g
              generalize upd (upd H6 pt2 (.tup (yg ++ [xs[i]]))) pi2 (.tup [.str "node", .int ((l + 1 : Nat) : Int), .ref pt2]) = H7 at s7' s67 rd7 r7 e7g ⊢
              -- count = sum([..])
              refine ⟨_, rfl, g, rfl, ⟨_, SqL.of e7g⟩, fun p8 hp8 => ?_⟩
              have s8' : Same H7 (upd H7 p8 (.lst [])) := same_new hp8 _
              have lyes : (yg ++ [xs[i]]).length = es.length := by rw [lyg, les]
              refine lc_list (K := K) (a := g) (xs := yg ++ [xs[i]]) (fun j H8 => H8 = upd H7 p8 (.lst ((es.take j).map fun e => V.int e.2.2))) rfl (fun j H8 _ e => by
                rw [e]
                exact SqL.of (by rw [upd_ne (ne_of_none e7g hp8)]; exact e7g)) ?_ ?_
              · rintro j x H8 hj rfl
                have hjl : j < es.length := by
                  rw [← lyes]
                  exact (List.getElem?_eq_some_iff.mp hj).1
                obtain ⟨cc, kk, h1', h2'⟩ := r7.comp3 (List.getElem?_eq_getElem hjl)
                rw [hj] at h1'
                cases h1'
                refine ⟨rfl, ?_⟩
                refine lc_yes ?_
                refine ⟨_, rfl, cc, _, _, _, rfl, rfl, SqT.of (s8' _ _ h2' |> fun _ => by rw [upd_ne (ne_of_none h2' hp8)]; exact h2'), at2, _, upd_same, ?_, ?_⟩
                · rw [List.length_map, List.length_take]
                  exact szlt (by omega)
                · rw [upd_upd, List.take_add_one, List.getElem?_eq_getElem hjl, Option.toList_some, List.map_append]
                  rfl
              · rintro H8 rfl
                rw [lyes, List.take_length]
                refine ⟨p8, es.map fun e => e.2.2, rfl, SqL.of (by rw [upd_same, List.map_map]; rfl), ?_⟩
                have s78 : Same H7 (upd H7 p8 (.lst (es.map fun e => V.int e.2.2))) := same_new hp8 _
                have e8g := s78 _ _ e7g
                have r8 := same_rpA s78 r7
                have s38 := s7'.trans s78
                have rd8 := same_rp s78 rd7
                generalize upd H7 p8 (.lst (es.map fun e => V.int e.2.2)) = H8 at s78 e8g r8 s38 rd8 ⊢
                refine ⟨_, rfl, g, rfl, ⟨_, SqL.of e8g⟩, fun p9 hp9 => ?_⟩
                refine lc_list (K := K) (a := g) (xs := yg ++ [xs[i]]) (fun j H9 => H9 = upd H8 p9 (.lst ((es.take j).map fun e => V.int e.2.1))) rfl (fun j H9 _ e => by
                  rw [e]
                  exact SqL.of (by rw [upd_ne (ne_of_none e8g hp9)]; exact e8g)) ?_ ?_
                · rintro j x H9 hj rfl
                  have hjl : j < es.length := by
                    rw [← lyes]
                    exact (List.getElem?_eq_some_iff.mp hj).1
                  obtain ⟨cc, kk, h1', h2'⟩ := r8.comp3 (List.getElem?_eq_getElem hjl)
                  rw [hj] at h1'
                  cases h1'
                  refine ⟨rfl, ?_⟩
                  refine lc_yes ?_
                  refine ⟨_, rfl, cc, _, _, _, rfl, rfl, SqT.of (by rw [upd_ne (ne_of_none h2' hp9)]; exact h2'), at1, _, upd_same, ?_, ?_⟩
                  · rw [List.length_map, List.length_take]
                    exact szlt (by omega)
                  · rw [upd_upd, List.take_add_one, List.getElem?_eq_getElem hjl, Option.toList_some, List.map_append]
                    rfl
                · rintro H9 rfl
                  rw [lyes, List.take_length]
                  have s89 : Same H8 (upd H8 p9 (.lst (es.map fun e => V.int e.2.1))) := same_new hp9 _
                  have sums := sum_le (n := (8 : Int) ^ (l + 1)) (l := es.map fun e => e.2.2) fun x hx => by
                    obtain ⟨e, he, rfl⟩ := List.mem_map.mp hx
                    exact (hes e he).2
                  refine ⟨_, _, p9, _, es.map fun e => e.2.1, rfl, s38.trans s89, same_rp s89 rd8, ?_, ?_, s38.free hp9, ?_, sums.1, ?_⟩
                  · exact kd_node S3.w hts' (by omega) (by rw [← ees]; exact E3) (by omega)
                  · rw [upd_same, List.map_map]
                    rfl
                  · intro x hx
                    obtain ⟨e, he, rfl⟩ := List.mem_map.mp hx
                    exact (hes e he).1
                  · have h1 := sums.2
                    rw [List.length_map] at h1
                    have h2 : ((es.length : Nat) : Int) * 8 ^ (l + 1) ≤ 8 * 8 ^ (l + 1) := Int.mul_le_mul_of_nonneg_right (by omega) (Int.pow_nonneg (by decide))
                    have h3 : (8 : Int) ^ (l + 1 + 1) = 8 * 8 ^ (l + 1) := by rw [Int.pow_succ, Int.mul_comm]
                    rw [h3]
                    exact Int.le_trans h1 h2
            · have c' : ¬ 0 < (lvl : Int) := fun z => c (decide_eq_true z)
              have l0 : lvl = 0 := by omega
              subst l0
              refine ⟨_, _, q0, _, [], rfl, s6, same_rp (same_new hq0 _) rd5, kd_rows S3.w hts' (by decide) E3 h8', upd_same, s5.free hq0, fun x h => absurd h List.not_mem_nil, by omega, ?_⟩
              rw [lyg]
              show ((dg.length + 1 : Nat) : Int) ≤ 8
              omega
          · rintro σ' H6 ⟨v, c, q1, dd, ks, rfl, s6', rd6, kdd, hq1, fq1, hks, hc0, hc1⟩
            have S6 := S3.same s6'
            have e6g := s6' _ _ e3g
            have e6a := s6' _ _ e3a
            have ra6 := same_rpA s6' a3
            have rg6 := same_rpA s6' r3
            have ba6 : ¬ Below H6 kvs' ab := fun z => ba3 (z.back S3.w fun b xs e => s6' b _ e)
            obtain ⟨⟨⟨bdx, hbk6⟩, hnd6, _⟩, htd6, _⟩ := id S6.w
            refine ⟨_, rfl, v, dd, rfl, rd6, kdd.good, (by have := kdd.dep; omega), (by have := kdd.len; omega), fun H7 s7' => ?_⟩
            have S7 := S6.same s7'
            have hbk7 := s7' _ _ hbk6
            refine ⟨_, rfl, bk, bdx, _, rfl, hbk7, (lk_past (by decide +kernel)).trans rfl, _, rfl, bk, nd, ts', tx dd.enc, rfl, S7.w.book, hts', fun H8 B8 k8 => ?_⟩
            have nq1n : q1 ≠ nd := ne_of (s7' _ _ hq1) S7.w.book.dc (by intro z; cases z)
            have nabn : ab ≠ nd := ne_of (s7' _ _ e6a) S7.w.book.dc (by intro z; cases z)
            have ngn : g ≠ nd := ne_of (s7' _ _ e6g) S7.w.book.dc (by intro z; cases z)
            have hq8 := k8.old _ _ (s7' _ _ hq1) nq1n
            have htd8 := k8.old _ _ S7.w.tex (Ne.symm S7.w.ne)
            have ea8 := k8.old _ _ (s7' _ _ e6a) nabn
            have eg8 := k8.old _ _ (s7' _ _ e6g) ngn
            refine ⟨_, rfl, _, rfl, (by show 2 ≤ sizeLine; decide), fun pp hpp => ?_⟩
            have s9 : Same H8 (upd H8 pp (.tup [.str (tx dd.enc), .ref q1])) := same_new hpp _
            refine ⟨_, rfl, _, rfl, td, _, rfl, DPut.k (k := Sum.inl _) (s9 _ _ htd8) (szlt (by omega)), ?_⟩
            have nq1t : q1 ≠ td := ne_of hq8 htd8 (by intro z; cases z)
            have nppt : pp ≠ td := fun z => by rw [z, htd8] at hpp; cases hpp
            have nabt : ab ≠ td := ne_of ea8 htd8 (by intro z; cases z)
            have ngt : g ≠ td := ne_of eg8 htd8 (by intro z; cases z)
            have nab : ab ≠ q1 := fun z => by rw [z, fq1] at e3a; cases e3a
            have kk : Kp (BT nd td) H7 (upd (upd H8 pp (.tup [.str (tx dd.enc), .ref q1])) td (.dK (putK kvs' (Sum.inl (adr (bookAdd ts' (tx dd.enc)) (tx dd.enc) : Int)) (.ref pp)))) :=
              ((k8.mono fun b z => Or.inl z).trans (Kp.same s9)).set (Or.inr rfl) fun xs z => by rw [S7.w.tex] at z; cases z
            have B10 : BookAt C (upd (upd H8 pp (.tup [.str (tx dd.enc), .ref q1])) td (.dK (putK kvs' (Sum.inl (adr (bookAdd ts' (tx dd.enc)) (tx dd.enc) : Int)) (.ref pp)))) bk nd (bookAdd ts' (tx dd.enc)) := by
              obtain ⟨⟨bx, hb⟩, hn8, nod⟩ := B8
              exact ⟨⟨bx, by rw [upd_ne (ne_of hb htd8 (by intro z; cases z))]; exact s9 _ _ hb⟩, by rw [upd_ne S7.w.ne]; exact s9 _ _ hn8, nod⟩
            have fq7 : Below H7 kvs' q1 ∨ H3 q1 = none := .inr fq1
            have ST : Stp C bk nd td 1 H3 ts' kvs' (upd (upd H8 pp (.tup [.str (tx dd.enc), .ref q1])) td (.dK (putK kvs' (Sum.inl (adr (bookAdd ts' (tx dd.enc)) (tx dd.enc) : Int)) (.ref pp)))) (bookAdd ts' (tx dd.enc)) (putK kvs' (Sum.inl (adr (bookAdd ts' (tx dd.enc)) (tx dd.enc) : Int)) (.ref pp)) :=
              Stp.add S3.w kdd hks B10 (by rw [upd_ne nppt, upd_same]) (by rw [upd_ne nq1t]; exact s9 _ _ hq8) (.inr fq1) upd_same ((Kp.same (s6'.trans s7')).trans kk)
            have ea10 : (upd (upd H8 pp (.tup [.str (tx dd.enc), .ref q1])) td (.dK (putK kvs' (Sum.inl (adr (bookAdd ts' (tx dd.enc)) (tx dd.enc) : Int)) (.ref pp)))) ab = some (.lst ya) := by
              rw [upd_ne nabt]
              exact s9 _ _ ea8
            have eg10 : (upd (upd H8 pp (.tup [.str (tx dd.enc), .ref q1])) td (.dK (putK kvs' (Sum.inl (adr (bookAdd ts' (tx dd.enc)) (tx dd.enc) : Int)) (.ref pp)))) g = some (.lst (yg ++ [xs[i]])) := by
              rw [upd_ne ngt]
              exact s9 _ _ eg8
            have ra10 := ra6.mono (fun b zs e => kk.tup b zs (s7' _ _ e)) _ _
            have rg10 := rg6.mono (fun b zs e => kk.tup b zs (s7' _ _ e)) _ _
            have keyA : isKey (putK kvs' (Sum.inl (adr (bookAdd ts' (tx dd.enc)) (tx dd.enc) : Int)) (.ref pp)) (adr (bookAdd ts' (tx dd.enc)) (tx dd.enc) : Int) := isKey_put.mpr (.inl rfl)
            have S10 := S3.trans ST
            have ba10 := ST.nb e3a ba3
            generalize upd (upd H8 pp (.tup [.str (tx dd.enc), .ref q1])) td (.dK (putK kvs' (Sum.inl (adr (bookAdd ts' (tx dd.enc)) (tx dd.enc) : Int)) (.ref pp))) = H10 at ST ea10 eg10 ra10 rg10 S10 ba10 ⊢
            generalize putK kvs' (Sum.inl (adr (bookAdd ts' (tx dd.enc)) (tx dd.enc) : Int)) (.ref pp) = kvs2 at keyA ST S10 ba10 ⊢
            generalize (adr (bookAdd ts' (tx dd.enc)) (tx dd.enc) : Int) = aa at keyA ⊢
            generalize bookAdd ts' (tx dd.enc) = ts2 at ST S10 ⊢
            -- above.append((group[-1][0], address, count))
            obtain ⟨key, r, ed, kdy⟩ := Ed.key
            obtain ⟨vl, hvl, rvl⟩ := rg10.at (i := dg.length) (d := d) (by rw [List.getElem?_append_right (Nat.le_refl _)]; simp)
            have evl : vl = xs[i] := by
              rw [List.getElem?_append_right (by rw [hyg]; exact Nat.le_refl _), hyg, Nat.sub_self] at hvl
              exact (Option.some.inj hvl).symm
            rw [evl, ed] at rvl
            generalize hxi : xs[i] = xi at rvl eg10
            cases rvl with
            | @tup cc zs _ hcc hzs =>
            cases hzs with
            | cons hkv hzs =>
            refine ⟨_, rfl, .inl ⟨rfl, _, SqL.of ea10⟩, _, rfl, _, rfl, g, _, _, _, rfl, rfl, SqL.of eg10, atI_last _ _, cc, _, _, _, rfl, rfl, SqT.of hcc, at0, _, rfl, _, rfl, (by show 3 ≤ sizeLine; decide), fun pt9 hpt9 => ?_⟩
            rename_i vkey _
            have s11' : Same H10 (upd H10 pt9 (.tup [vkey, .int aa, .int c])) := same_new hpt9 _
            refine ⟨ab, ya, _, rfl, rfl, s11' _ _ ea10, (by rw [hya]; exact szlt (by omega)), ?_⟩
            have S11 := S10.same s11'
            have ba11 : ¬ Below (upd H10 pt9 (.tup [vkey, .int aa, .int c])) kvs2 ab := fun z => ba10 (z.back S10.w fun b xs e => s11' b _ e)
            have S12 := S11.lset (ys := ya ++ [.ref pt9]) I.fa (s11' _ _ ea10) ba11
            have t12 := tup_lset (ys := ya ++ [.ref pt9]) (s11' _ _ ea10)
            have rn : Rp (upd (upd H10 pt9 (.tup [vkey, .int aa, .int c])) ab (.lst (ya ++ [.ref pt9]))) (.ref pt9) (.tup [key, .int aa, .int c]) :=
              .tup (t12 _ _ upd_same) (.cons ((same_rp s11' hkv).mono t12 _ _) (.cons (.int _) (.cons (.int _) .nil)))
            have ra12 := RpA.snoc rn ((same_rpA s11' ra10).mono t12 _ _)
            have ba12 : ¬ Below (upd (upd H10 pt9 (.tup [vkey, .int aa, .int c])) ab (.lst (ya ++ [.ref pt9]))) kvs2 ab := fun z => ba11 (z.back S11.w t12)
            have ea12 : (upd (upd H10 pt9 (.tup [vkey, .int aa, .int c])) ab (.lst (ya ++ [.ref pt9]))) ab = some (.lst (ya ++ [.ref pt9])) := upd_same
            generalize upd (upd H10 pt9 (.tup [vkey, .int aa, .int c])) ab (.lst (ya ++ [.ref pt9])) = H12 at S12 ra12 ba12 ea12 ⊢
            refine ⟨(by show 0 ≤ sizeLine; decide), fun g2 hg2 => ?_⟩
            have s13 : Same H12 (upd H12 g2 (.lst [])) := same_new hg2 _
            refine ⟨g2, ts2, kvs2, ya ++ [.ref pt9], [], da ++ [.tup [key, .int aa, .int c]], [], _, _, _, _, _, _, rfl, { st := ?_, a1 := s13 _ _ ea12, a2 := same_rpA s13 ra12, a3 := fun e he => ?_, ba := fun z => ba12 (z.back S12.w fun b xs e => s13 b _ e), g1 := upd_same, g2 := .nil, g3 := fun e he => absurd he List.not_mem_nil, g4 := Nat.zero_le _, bg := fun z => Below.no S12.w hg2 (z.back S12.w fun b xs e => s13 b _ e), ne := (ne_of_none ea12 hg2).symm, fa := I.fa, fg := S12.free hg2, l1 := ?_, l2 := ?_, l3 := ?_, l4 := ?_ }⟩
            · rw [List.length_append, List.length_singleton]
              exact S12.same s13
            · rcases List.mem_append.mp he with z | z
              · exact (I.a3 e z).mono ST.g.key
              · rw [List.mem_singleton.mp z]
                exact .node lvl key aa c kdy keyA hc0 hc1
            · rw [List.length_append, List.length_singleton]
              show _ + 0 ≤ _
              omega
            · intro z1 z2
              have h2 := I.l2 hi z2
              rw [List.length_append, List.length_singleton]
              show _ + 0 ≤ _
              have : dg.length ≠ 0 := fun z => Bool.noConfusion (h1 (by omega) z2 z)
              omega
            · intro z1 z2
              have h2 := I.l2 hi z2
              rw [List.length_append, List.length_singleton]
              omega
            · intro _ _ z
              have := congrArg List.length z
              simp at this
    · rintro σ H' ⟨g, ts', kvs', ya, yg, da, dg, kv, s7, s8, s9, s10, s11, rfl, I⟩
      have hn' : ds.length = xs.length := hxl.symm
      exact ⟨_, rfl, q ab H' ts' kvs' ya da I.st I.fa I.a1 I.ba I.a2 I.a3 (I.l4 rfl (by omega)) (by have := I.l1; omega) (fun h => by have := I.l3 rfl h; omega)⟩
end
end My
set_option Elab.async false
set_option linter.all false
set_option maxRecDepth 100000
set_option maxHeartbeats 8000000
/-! The walks of _law_tree, _law_state, _law_commit. -/
namespace My
open PySem L2 TL
/-- a list compared with an empty one -/
def rEqNil (K : PySem.W.Frag) : R2 := fun x y H Q => ∃ a b xs, x = .ref a ∧ y = .ref b ∧ SqL K H a xs ∧ SqL K H b [] ∧ Q (.bl xs.isEmpty) H
theorem op_eqNil {X : Cx} (hu : X.A.units < cLine) : OpR X (compareOp .Eq) (rEqNil X.K) := by
  intro pins s σ H x y v u Q I rx ry h
  obtain ⟨a, b, xs, rfl, rfl, ha, hb, q⟩ := h
  cases rx
  cases ry
  obtain ⟨its, r1, p1, _⟩ := I.list ha
  obtain ⟨its2, r2, p2, _⟩ := I.list hb
  cases r2
  cases r1 with
  | nil => exact PySem.SeqAt.eq_listAt (e := fun _ => true) p1.isList p2.isList rfl hu (fun j h1 => by simp at h1) ⟨.bl true, H, I, rfl, q⟩
  | cons r rr => exact PySem.SeqAt.eq_list_lengthsAt p1.isList p2.isList (by simp) hu ⟨.bl false, H, I, rfl, q⟩
section
variable {C : Addr} {H H0 H' H1 H2 H3 : Hp} {bk nd td p q x : Addr} {ts ts0 ts' ts1 ts2 : List Str} {kvs kvs0 kvs' kvs1 kvs2 : List (Key × V)} {m n : Nat}
theorem TW.rebook (W : TW C H bk nd td ts kvs) (B : BookAt C H' bk nd ts) (k : Kp (· = nd) H H') : TW C H' bk nd td ts kvs := by
  obtain ⟨_, tex, ne, keys, ent⟩ := W
  refine ⟨B, k.old _ _ tex (Ne.symm ne), ne, keys, fun x v hv => ?_⟩
  obtain ⟨a, e, ⟨p, q, d, ks, e1, e2, e3, r⟩, ok⟩ := ent x v hv
  exact ⟨a, e, ⟨p, q, d, ks, e1, k.tup _ _ e2, k.old _ _ e3 (ne_of e3 ‹BookAt C H bk nd ts›.dc (by intro z; cases z)), r⟩, ok⟩
theorem Stp.rebook (a : Stp C bk nd td m H ts kvs H1 ts1 kvs1) (B : BookAt C H2 bk nd ts1) (k : Kp (· = nd) H1 H2) : Stp C bk nd td m H ts kvs H2 ts1 kvs1 :=
  ⟨a.w.rebook B k, a.g, a.k.trans (k.mono fun b z => Or.inl z), fun c h => a.b c (h.back a.w k.tup)⟩
theorem Stp.put (a : Stp C bk nd td m H0 ts0 kvs0 H ts kvs) (hq : H0 q = none) (w : TW C H' bk nd td ts' kvs') (g : Grow 1 ts kvs ts' kvs') (k : Kp (BT nd td) H H') (b : ∀ b, Below H' kvs' b → b = q ∨ Below H kvs b) : Stp C bk nd td (m + 1) H0 ts0 kvs0 H' ts' kvs' :=
  ⟨w, a.g.trans g, a.k.trans k, fun c h => by
    rcases b c h with z | z
    · exact .inr (by rw [z]; exact hq)
    · exact a.b c z⟩
/-- texts[book.address(text)] = (text, a list of its children) -/
theorem rd_put {σ : L2.St} {De : Ends} {i j l : Nat} {d : D} {ks : List Int} {tv : TE} (hbk : σ[i]? = some (some (.ref bk))) (htd : σ[j]? = some (some (.ref td))) (htx : σ[l]? = some (some (.str (tx d.enc)))) (W : TW C H bk nd td ts kvs) (hts : ts.length ≤ 400000) (hkv : kvs.length ≤ 400000)
    (kd : Kd d ks) (hk : ∀ c ∈ ks, isKey kvs c)
    (hv : ∀ Q : VK, (∀ pp q H1, Same H H1 → H pp = none → H1 pp = some (.tup [.str (tx d.enc), .ref q]) → H1 q = some (.lst (ks.map V.int)) → (∀ H' ts' kvs', TW C H' bk nd td ts' kvs' → Grow 1 ts kvs ts' kvs' → Kp (BT nd td) H H' → (∀ b, Below H' kvs' b → b = q ∨ Below H kvs b) → tx d.enc ∈ ts' → isKey kvs' (adr ts' (tx d.enc) : Int) → De.nx σ H') → Q (.ref pp) H1) → tv σ H Q) :
    sDPut (tVar j) (tMeth C "address" (spBookAddress C) [] E0 (tVar i) (tCons (tVar l) tNil)) tv De σ H := by
  refine hv _ fun pp q H1 s1 fpp epp eq k => ?_
  have W1 := W.same s1
  obtain ⟨⟨⟨bdx, hb1⟩, hn1, _⟩, _, _⟩ := id W1
  refine ⟨_, htd, _, hbk, bk, bdx, _, rfl, hb1, (lk_past (by decide +kernel)).trans rfl, _, htx, bk, nd, ts, tx d.enc, rfl, W1.book, by omega, fun H2 B2 k2 => ?_⟩
  have htd2 := k2.old _ _ W1.tex (Ne.symm W1.ne)
  have hq2 := k2.old _ _ eq (ne_of eq W1.book.dc (by intro z; cases z))
  have nqt : q ≠ td := ne_of hq2 htd2 (by intro z; cases z)
  have npt : pp ≠ td := fun z => by rw [z, W1.tex] at epp; cases epp
  refine ⟨td, _, rfl, DPut.k (k := Sum.inl _) htd2 (szlt (by omega)), ?_⟩
  have kk : Kp (BT nd td) H1 (upd H2 td (.dK (putK kvs (Sum.inl (adr (bookAdd ts (tx d.enc)) (tx d.enc) : Int)) (.ref pp)))) :=
    (k2.mono fun b z => Or.inl z).set (Or.inr rfl) fun xs z => by rw [W1.tex] at z; cases z
  have B3 : BookAt C (upd H2 td (.dK (putK kvs (Sum.inl (adr (bookAdd ts (tx d.enc)) (tx d.enc) : Int)) (.ref pp)))) bk nd (bookAdd ts (tx d.enc)) := by
    obtain ⟨⟨bx, hb⟩, hn8, nod⟩ := B2
    exact ⟨⟨bx, by rw [upd_ne (ne_of hb htd2 (by intro z; cases z))]; exact hb⟩, by rw [upd_ne W1.ne]; exact hn8, nod⟩
  have kA : Kp (BT nd td) H (upd H2 td (.dK (putK kvs (Sum.inl (adr (bookAdd ts (tx d.enc)) (tx d.enc) : Int)) (.ref pp)))) := (Kp.same s1).trans kk
  have epp3 : (upd H2 td (.dK (putK kvs (Sum.inl (adr (bookAdd ts (tx d.enc)) (tx d.enc) : Int)) (.ref pp)))) pp = some (.tup [.str (tx d.enc), .ref q]) := by
    rw [upd_ne npt]
    exact k2.tup _ _ epp
  obtain ⟨W3, G3⟩ := W.add kd hk B3 epp3 (by rw [upd_ne nqt]; exact hq2) upd_same kA
  exact k _ _ _ W3 G3 kA (fun b h => Below.add W kA.tup epp3 h) (mem_bookAdd _ _) (isKey_put.mpr (.inl rfl))
/-- return book.address(text), the text known -/
theorem rd_adr {σ : L2.St} {i l : Nat} {t : Str} {Q : VK} (hbk : σ[i]? = some (some (.ref bk))) (htx : σ[l]? = some (some (.str t))) (W : TW C H bk nd td ts kvs) (hts : ts.length ≤ 400000) (hm : t ∈ ts) (h : ∀ H', BookAt C H' bk nd ts → Kp (· = nd) H H' → Q (.int (adr ts t : Int)) H') :
    tMeth C "address" (spBookAddress C) [] E0 (tVar i) (tCons (tVar l) tNil) σ H Q := by
  obtain ⟨⟨⟨bdx, hb1⟩, hn1, _⟩, _, _⟩ := id W
  refine ⟨_, hbk, bk, bdx, _, rfl, hb1, (lk_past (by decide +kernel)).trans rfl, _, htx, bk, nd, ts, t, rfl, W.book, by omega, fun H2 B2 k2 => ?_⟩
  rw [bookAdd_in hm] at B2 ⊢
  exact h H2 B2 k2
end
section
variable {P : Program} {w : World} {K : PySem.W.Frag} {mg : Str → Option Value} {base : Heap} {f C : Addr} {fd : FuncData}
/-! ### _law_tree -/
def spLTree (C : Addr) : Sp := fun vs H Q _ => ∃ (bk nd td el : Addr) (ts : List Str) (kvs : List (Key × V)) (xs : List V) (ds : List D), vs = [.ref bk, .ref el, .ref td] ∧ TW C H bk nd td ts kvs ∧ H el = some (.lst xs) ∧ RpA H xs ds ∧
  (∀ d ∈ ds, EntD kvs 0 d) ∧ ds.length ≤ 17 ∧ ts.length ≤ 100000 ∧ kvs.length ≤ 100000 ∧ ∀ a H' ts' kvs', Stp C bk nd td 49 H ts kvs H' ts' kvs' → isKey kvs' a → Q (.int a) H'
theorem emptyRows : Kd (.tup [.str "rows", .tup []]) [] := by
  have l4 : (("rows" : String) : Str).length = 4 := by rw [len_tl, rowsText]
  refine ⟨.rows [], ⟨(by show (("rows" : String) : Str).length < 10 ^ 6; omega), trivial, trivial⟩, ?_, ?_, Nat.zero_le _⟩
  · simp only [D.dep, D.depA]
    omega
  · simp only [D.enc, D.encA, List.length_cons, List.length_append, List.length_nil, l4, rowsText, numL4]
    omega
theorem ok_ltree (F : Fun K "_law_tree" "_law_tree" s_Ltree f fd) (B : Bl mg) (D_Lencode : Def P w K mg base 11 "_law_encode" [nItem] (spLEnc 10)) (M_Book_address : MDef P w K mg base 1 C "address" ["self", "text"] (spBookAddress C))
    (D_Llevel : Def P w K mg base 13 "_law_level" ["_law_book", "_law_level_here", "_law_entries_here", "_law_texts"] (spLLevel C)) : FnOk P w K mg base CX0 14 f fd ["_law_book", "_law_entries_here", "_law_texts"] (spLTree C) := by
  refine F.ok sc_Ltree (fun vs H Q E h => ?_) (fun cdv A outer s H vs Q E hr h => ?_)
  · obtain ⟨bk, nd, td, el, ts, kvs, xs, ds, rfl, _⟩ := h
    rfl
  · obtain ⟨bk, nd, td, el, ts, kvs, xs, ds, rfl, W, hel, hx, hE, hn, hts, hkv, q⟩ := h
    have hu := hu_of hr
    refine ⟨_, (pss_cons (ps_if (pt_cmpR (op_eqNil hr.units0) (pv 1) (pe_lst pa_nil) (nomark _))
        (pss_cons (ps_set (i := 3) sc_Ltree.nd rfl (Or.inl rfl) (D_Lencode.call hr (by omega) (pa_cons (pe_tup (pa_cons pe_str (pa_cons (pe_tup pa_nil) pa_nil))) pa_nil)))
        (pss_cons (ps_dput hu (pv 2) (M_Book_address.call hr (by omega) (pv 0) (pa_cons (pv 3) pa_nil)) (pe_tup (pa_cons (pv 3) (pa_cons (pe_lst pa_nil) pa_nil))) rfl)
        (pss_one (ps_ret (M_Book_address.call hr (by omega) (pv 0) (pa_cons (pv 3) pa_nil))))))
        pss_nil)
      (pss_cons (ps_set (i := 4) sc_Ltree.nd rfl (Or.inl rfl) pe_int)
      (pss_cons (ps_set (i := 5) sc_Ltree.nd rfl (Or.inl rfl) (D_Llevel.call hr (by omega) (pa_cons (pv 0) (pa_cons pe_int (pa_cons (pv 1) (pa_cons (pv 2) pa_nil))))))
      (pss_cons (ps_for PassesOwn.never rfl (pi_range1 (by rfl) B.range (pa_cons pe_int pa_nil)) (pg_name (i := 6) sc_Ltree.nd rfl (Or.inl rfl))
        (pss_one (ps_if (pt_cmpR op_gt (pe_callB call_len_seq (by rfl) B.len (by decide +kernel) (pa_cons (pv 5) pa_nil)) pe_int (nomark _))
          (pss_cons (ps_set (i := 4) sc_Ltree.nd rfl (Or.inl rfl) (pe_op op_add (pv 4) pe_int))
          (pss_one (ps_set (i := 5) sc_Ltree.nd rfl (Or.inl rfl) (D_Llevel.call hr (by omega) (pa_cons (pv 0) (pa_cons (pv 4) (pa_cons (pv 5) (pa_cons (pv 2) pa_nil))))))))
          pss_nil)))
      (pss_one (ps_ret (pe_ix ix_tup (pe_ix ix_list (pv 5) pe_int (fun _ _ => rfl)) pe_int (fun _ _ => rfl)))))))), ?_⟩
    have hxl := hx.length
    refine ⟨_, rfl, (by show 0 ≤ sizeLine; decide), fun e0 he0 => ?_⟩
    have s0 : Same H (upd H e0 (.lst [])) := same_new he0 _
    refine ⟨el, e0, xs, rfl, rfl, SqL.of (s0 _ _ hel), SqL.of upd_same, _, rfl, ?_⟩
    have S0 := (Stp.refl W).same s0
    have hel0 := s0 _ _ hel
    have hx0 := same_rpA s0 hx
    generalize upd H e0 (.lst []) = H1 at S0 hel0 hx0 ⊢
    cases xs with
    | nil =>
      refine if_t rfl ?_
      refine ⟨(by show 0 ≤ sizeLine; decide), fun p1 hp1 => ⟨(by show 2 ≤ sizeLine; decide), fun p2 hp2 => ?_⟩⟩
      have s1 : Same H1 (upd (upd H1 p1 (.tup [])) p2 (.tup [.str "rows", .ref p1])) := (same_new hp1 _).trans (same_new hp2 _)
      refine ⟨.ref p2, .tup [.str "rows", .tup []], rfl, .tup upd_same (.cons (.str _) (.cons (.tup (by rw [upd_ne (ne_of_none upd_same hp2), upd_same]) .nil) .nil)), emptyRows.good, (by have := emptyRows.dep; omega), (by have := emptyRows.len; omega), fun H2 s2 => ?_⟩
      have S2 := S0.same (s1.trans s2)
      dsimp only
      refine rd_put (nd := nd) (ts := ts) (kvs := kvs) (bk := bk) (d := .tup [.str "rows", .tup []]) (ks := []) (by rfl) (by rfl) (by rfl) S2.w (by omega) (by omega) emptyRows (fun c h => absurd h List.not_mem_nil) (fun Q' hQ => ?_)
      · refine ⟨_, rfl, (by show 0 ≤ sizeLine; decide), fun q1 hq1 => ⟨(by show 2 ≤ sizeLine; decide), fun pp hpp => ?_⟩⟩
        refine hQ pp q1 _ ((same_new hq1 _).trans (same_new hpp _)) ((same_new hq1 _).free hpp) upd_same (by rw [upd_ne (ne_of_none upd_same hpp), upd_same]; rfl) fun H' ts' kvs' W' G' k' b' m' i' => ?_
        have S3 := S2.put (S2.free hq1) W' G' k' b'
        have htl := S3.g.tl
        refine rd_adr (by rfl) (by rfl) W' (by omega) m' fun H4 B4 k4 => ?_
        exact q _ H4 ts' kvs' ((S3.rebook B4 k4).le (by decide)) i'
    | cons x xs =>
      refine if_f rfl ?_
      have hds : 1 ≤ ds.length := by
        rw [List.length_cons] at hxl
        omega
      refine ⟨_, rfl, _, rfl, _, rfl, bk, nd, td, el, ts, kvs, 0, _, ds, rfl, S0.w, hel0, hx0, hE, by omega, hds, by omega, by omega, by omega, fun p H2 ts2 kvs2 ys es S2 fp ep bp r2 E2 ne2 len2 _ => ?_⟩
      have ST := S0.trans S2
      refine ⟨60, rfl, by decide, by decide, ?_⟩
      refine for_range (lo := 0) (n := 60) (fun j σ H' => ∃ (lv : Nat) (ab : Addr) (ts' : List Str) (kvs' : List (Key × V)) (ya : List V) (da : List D) (g : Nat) (kv : Option V), σ = [some (.ref bk), some (.ref el), some (.ref td), none, some (.int (lv : Int)), some (.ref ab), kv] ∧ lv ≤ j ∧
          Stp C bk nd td g H ts kvs H' ts' kvs' ∧ H' ab = some (.lst ya) ∧ RpA H' ya da ∧ (∀ e ∈ da, EntD kvs' (lv + 1) e) ∧ da ≠ [] ∧ da.length ≤ 17 ∧ g + 2 * da.length ≤ 51)
        ⟨0, p, ts2, kvs2, ys, es, _, none, rfl, Nat.le_refl _, ST, ep, r2, E2, ne2, by omega, by omega⟩ ?_ ?_
      · rintro j σ H' hj ⟨lv, ab, ts', kvs', ya, da, g, kv, rfl, hlv, S, ea, ra, Ea, na, la, hg⟩
        have hya := ra.length
        have htl := S.g.tl
        have hkl := S.g.kl
        refine ⟨_, rfl, ab, ya, rfl, .inl (SqL.of ea), _, _, rfl, rfl, _, rfl, ?_⟩
        refine ite2 (fun c => ?_) (fun c => ?_)
        · have c' : 1 < (ya.length : Int) := of_decide_eq_true c
          refine ⟨_, rfl, _, _, rfl, rfl, ?_⟩
          refine ⟨_, rfl, _, rfl, _, rfl, _, rfl, bk, nd, td, ab, ts', kvs', lv + 1, ya, da, rfl, S.w, ea, ra, Ea, by omega, by omega, by omega, by omega, by omega, fun p3 H3 ts3 kvs3 y3 e3 S3 fp3 ep3 bp3 r3 E3 ne3 len3 half3 => ?_⟩
          have := half3 (by omega)
          exact ⟨lv + 1, p3, ts3, kvs3, y3, e3, _, _, rfl, by omega, S.trans S3, ep3, r3, E3, ne3, by omega, by omega⟩
        · exact ⟨lv, ab, ts', kvs', ya, da, g, _, rfl, by omega, S, ea, ra, Ea, na, la, hg⟩
      · rintro σ H' ⟨lv, ab, ts', kvs', ya, da, g, kv, rfl, hlv, S, ea, ra, Ea, na, la, hg⟩
        cases da with
        | nil => exact absurd rfl na
        | cons d da =>
          have Ed := Ea d List.mem_cons_self
          cases ra with
          | cons r1 rr =>
          cases Ed with
          | node l key a c kk ik h0 h1 =>
          cases r1 with
          | @tup cc zs _ hcc hz =>
          cases hz with
          | cons z1 hz =>
          cases hz with
          | cons z2 hz =>
          cases z2
          refine ⟨_, rfl, ab, _, _, _, rfl, rfl, SqL.of ea, at0, cc, _, _, _, rfl, rfl, SqT.of hcc, at1, ?_⟩
          exact q a H' ts' kvs' (S.le (by simp only [List.length_cons] at hg; omega)) ik
end
end My
set_option Elab.async false
set_option linter.all false
set_option maxRecDepth 100000
set_option maxHeartbeats 8000000
/-! The walks of _law_state, _law_commit. -/
namespace My
open PySem L2 TL
theorem idText : (("id" : String) : Str).length = 2 := by decide +kernel
theorem intText : (("int" : String) : Str).length = 3 := by decide +kernel
theorem emptyText : (("" : String) : Str).length = 0 := by decide +kernel
theorem vText : (("v" : String) : Str).length = 1 := by decide +kernel
theorem textText : (("text" : String) : Str).length = 4 := by decide +kernel
theorem stateText : (("state" : String) : Str).length = 5 := by decide +kernel
theorem commitText : (("commit" : String) : Str).length = 6 := by decide +kernel
/-- the form that the law writes -/
def formD : D := .tup [.tup [.tup [.str "id", .str "int", .int 0, .int 0, .str ""], .tup [.str "v", .str "text", .str "", .int 0, .str ""]], .tup [.str "id"]]
theorem formD_good : formD.Good := by
  simp only [formD, D.Good, D.GoodA, idText, intText, emptyText, vText, textText]
  decide
theorem formD_dep : formD.dep ≤ 3 := by
  simp only [formD, D.dep, D.depA]
  decide
theorem numL_le1 {n : Nat} (h : n < 10) : (numL n).length = 1 := by rw [numL_lt h]; rfl
theorem numI0 : (numI 0).length = 1 := by
  rw [numI_pos (by decide)]
  exact numL_le1 (by decide)
theorem formD_len : formD.enc.length ≤ 200 := by
  simp only [formD, D.enc, D.encA, List.length_cons, List.length_append, List.length_nil, ← len_tl, idText, intText, emptyText, vText, textText, numI0, numL_le1 (show 2 < 10 by decide), numL_le1 (show 3 < 10 by decide), numL_le1 (show 0 < 10 by decide), numL_le1 (show 1 < 10 by decide), numL_le1 (show 4 < 10 by decide)]
  omega
/-- a table as the law hands it on: a name and a list of entries -/
structure TabAt (H : Hp) (v : V) : Prop where
  ex : ∃ (t el : Addr) (z : Str) (xs : List V) (ds : List D), v = .ref t ∧ H t = some (.tup [.str z, .ref el]) ∧ z.length ≤ 12 ∧ H el = some (.lst xs) ∧ RpA H xs ds ∧ (∀ d ∈ ds, EntD [] 0 d) ∧ ds.length ≤ 17
theorem TabAt.keep {C bk nd td : Addr} {n : Nat} {H H' : Hp} {ts ts' : List Str} {kvs kvs' : List (Key × V)} {v : V} (T : TabAt H v) (S : Stp C bk nd td n H ts kvs H' ts' kvs') (W : TW C H bk nd td ts kvs) : TabAt H' v := by
  obtain ⟨t, el, z, xs, ds, e1, e2, e3, e4, e5, e6, e7⟩ := T
  refine ⟨t, el, z, xs, ds, e1, S.k.tup _ _ e2, e3, S.k.old _ _ e4 ?_, e5.mono S.k.tup _ _, e6, e7⟩
  rintro (q | q)
  · exact ne_of e4 W.book.dc (by intro z; cases z) q
  · exact ne_of e4 W.tex (by intro z; cases z) q
theorem TabAt.same {H H' : Hp} {v : V} (T : TabAt H v) (s : Same H H') : TabAt H' v := by
  obtain ⟨t, el, z, xs, ds, e1, e2, e3, e4, e5, e6, e7⟩ := T
  exact ⟨t, el, z, xs, ds, e1, s _ _ e2, e3, s _ _ e4, same_rpA s e5, e6, e7⟩
theorem EntD.row0 {kvs : List (Key × V)} {d : D} (h : EntD [] 0 d) : EntD kvs 0 d := by
  cases h with
  | row key rest a b => exact .row key rest a b
theorem kd_state {C : Addr} {H : Hp} {bk nd td : Addr} {ts : List Str} {kvs : List (Key × V)} (W : TW C H bk nd td ts kvs) (hl : ts.length ≤ 500000) {tz : List (D × D × Int)} (h : ∀ t ∈ tz, (∃ z : Str, t.1 = .str z ∧ z.length ≤ 12) ∧ t.2.1 = formD ∧ isKey kvs t.2.2) (h8 : tz.length ≤ 8) :
    Kd (.tup [.str "state", .tup (tz.map fun t => .tup [t.1, t.2.1, .int t.2.2])]) (tz.map fun t => t.2.2) := by
  have one : ∀ d ∈ tz.map (fun t => D.tup [t.1, t.2.1, .int t.2.2]), d.Good ∧ d.dep ≤ 4 ∧ d.enc.length ≤ 500 := by
    intro d hd
    obtain ⟨t, ht, rfl⟩ := List.mem_map.mp hd
    obtain ⟨⟨z, e1, e2⟩, e3, e4⟩ := h t ht
    have ok := W.adrOk e4
    have o1 := ok.1
    have o2 := ok.2
    have na : (numI t.2.2).length ≤ 9 := numI_le (by decide) (by omega) (by omega)
    have nz : (numL z.length).length ≤ 2 := numL_len (by decide) (by omega)
    rw [e1, e3]
    refine ⟨⟨(by show z.length < 10 ^ 6; omega), formD_good, (by show t.2.2.natAbs < 10 ^ 60; omega), trivial⟩, ?_, ?_⟩
    · have := formD_dep
      simp only [D.dep, D.depA]
      omega
    · have := formD_len
      simp only [D.enc, D.encA, List.length_cons, List.length_append, List.length_nil, ← len_tl]
      omega
  have e := encA_le (n := 500) fun d hd => (one d hd).2.2
  have dd := depA_le (n := 4) fun d hd => (one d hd).2.1
  rw [List.length_map] at e
  refine ⟨.state tz, ⟨(by show (("state" : String) : Str).length < 10 ^ 6; rw [stateText]; decide), goodA_of fun d hd => (one d hd).1, trivial⟩, ?_, ?_, by rw [List.length_map]; exact h8⟩
  · simp only [D.dep, D.depA]
    omega
  · simp only [D.enc, D.encA, List.length_cons, List.length_append, List.length_nil, ← len_tl, stateText, numL5]
    omega
theorem kd_commit {C : Addr} {H : Hp} {bk nd td : Addr} {ts : List Str} {kvs : List (Key × V)} (W : TW C H bk nd td ts kvs) (hl : ts.length ≤ 500000) {s : Int} {ps : List Int} {z : Str} (hs : isKey kvs s) (hp : ∀ p ∈ ps, isKey kvs p) (h7 : ps.length ≤ 7) (hz : z.length ≤ 1000) :
    Kd (.tup [.str "commit", .int s, .tup (ps.map D.int), .str z]) (s :: ps) := by
  have int1 : ∀ a, isKey kvs a → a.natAbs < 10 ^ 60 ∧ (numI a).length ≤ 9 := by
    intro a ha
    have ok := W.adrOk ha
    have o1 := ok.1
    have o2 := ok.2
    exact ⟨by omega, numI_le (by decide) (by omega) (by omega)⟩
  have one : ∀ d ∈ ps.map D.int, d.Good ∧ d.dep ≤ 0 ∧ d.enc.length ≤ 20 := by
    intro d hd
    obtain ⟨p, hp', rfl⟩ := List.mem_map.mp hd
    obtain ⟨h1, h2⟩ := int1 p (hp p hp')
    refine ⟨h1, by simp only [D.dep]; omega, ?_⟩
    simp only [D.enc, List.length_cons, List.length_append, List.length_nil]
    omega
  have e := encA_le (n := 20) fun d hd => (one d hd).2.2
  have dd := depA_le (n := 0) fun d hd => (one d hd).2.1
  rw [List.length_map] at e
  obtain ⟨s1, s2⟩ := int1 s hs
  have nz : (numL z.length).length ≤ 4 := numL_len (by decide) (by omega)
  refine ⟨.commit s ps (.str z), ⟨(by show (("commit" : String) : Str).length < 10 ^ 6; rw [commitText]; decide), s1, goodA_of fun d hd => (one d hd).1, (by show z.length < 10 ^ 6; omega), trivial⟩, ?_, ?_, by rw [List.length_cons]; omega⟩
  · simp only [D.dep, D.depA]
    omega
  · simp only [D.enc, D.encA, List.length_cons, List.length_append, List.length_nil, ← len_tl, commitText, numL6]
    omega
theorem int_reps : ∀ {H : Hp} (ps : List Int), RpA H (ps.map V.int) (ps.map D.int)
  | _, [] => .nil
  | _, p :: ps => .cons (.int p) (int_reps ps)
section
variable {P : Program} {w : World} {K : PySem.W.Frag} {mg : Str → Option Value} {base : Heap} {f C : Addr} {fd : FuncData}
/-! ### _law_state -/
def spLState (C : Addr) : Sp := fun vs H Q _ => ∃ (bk nd td tl : Addr) (ts : List Str) (kvs : List (Key × V)) (ys : List V), vs = [.ref bk, .ref tl, .ref td] ∧ TW C H bk nd td ts kvs ∧ H tl = some (.lst ys) ∧ (∀ y ∈ ys, TabAt H y) ∧ ys.length ≤ 3 ∧ ts.length ≤ 50000 ∧ kvs.length ≤ 50000 ∧
  ∀ a H' ts' kvs', Stp C bk nd td 148 H ts kvs H' ts' kvs' → isKey kvs' a → Q (.int a) H'
theorem ok_lstate (F : Fun K "_law_state" "_law_state" s_Lstate f fd) (B : Bl mg) (D_Lencode : Def P w K mg base 11 "_law_encode" [nItem] (spLEnc 10)) (M_Book_address : MDef P w K mg base 1 C "address" ["self", "text"] (spBookAddress C))
    (D_Ltree : Def P w K mg base 14 "_law_tree" ["_law_book", "_law_entries_here", "_law_texts"] (spLTree C)) : FnOk P w K mg base CX0 15 f fd ["_law_book", "_law_tables_here", "_law_texts"] (spLState C) := by
  refine F.ok sc_Lstate (fun vs H Q E h => ?_) (fun cdv A outer s H vs Q E hr h => ?_)
  · obtain ⟨bk, nd, td, tl', ts, kvs, ys, rfl, _⟩ := h
    rfl
  · obtain ⟨bk, nd, td, tl', ts, kvs, ys, rfl, W, htl, hT, hys, hts, hkv, q⟩ := h
    have hu := hu_of hr
    refine ⟨_, (pss_cons (ps_set (i := 3) sc_Lstate.nd rfl (Or.inl rfl) (pe_tup (pa_cons (pe_tup (pa_cons (pe_tup (pa_cons pe_str (pa_cons pe_str (pa_cons pe_int (pa_cons pe_int (pa_cons pe_str pa_nil)))))) (pa_cons (pe_tup (pa_cons pe_str (pa_cons pe_str (pa_cons pe_str (pa_cons pe_int (pa_cons pe_str pa_nil)))))) pa_nil))) (pa_cons (pe_tup (pa_cons pe_str pa_nil)) pa_nil))))
      (pss_cons (ps_set (i := 4) sc_Lstate.nd rfl (Or.inl rfl) (pe_lst pa_nil))
      (pss_cons (ps_set (i := 5) sc_Lstate.nd rfl (Or.inl rfl) (pe_lst pa_nil))
      (pss_cons (ps_for PassesOwn.never rfl (pi_list (pv 1)) (pg_tup (by rfl) (pgs_cons (pg_name (i := 6) sc_Lstate.nd rfl (Or.inl rfl)) (pgs_cons (pg_name (i := 7) sc_Lstate.nd rfl (Or.inl rfl)) pgs_nil)))
        (pss_cons (ps_expr (pe_bm PySem.F.plainAttrs_list PySem.F.slot_list_append PySem.F.type_list_append mt_append (pv 5) (pa_cons (D_Ltree.call hr (by omega) (pa_cons (pv 0) (pa_cons (pv 7) (pa_cons (pv 2) pa_nil)))) pa_nil)))
        (pss_one (ps_expr (pe_bm PySem.F.plainAttrs_list PySem.F.slot_list_append PySem.F.type_list_append mt_append (pv 4) (pa_cons (pe_tup (pa_cons (pv 6) (pa_cons (pv 3) (pa_cons (pe_ix ix_list (pv 5) (pe_un un_neg pe_int) (fun _ _ => rfl)) pa_nil)))) pa_nil))))))
      (pss_cons (ps_set (i := 8) sc_Lstate.nd rfl (Or.inl rfl) (D_Lencode.call hr (by omega) (pa_cons (pe_tup (pa_cons pe_str (pa_cons (pe_callTy call_tuple_of (by rfl) B.tuple (by decide +kernel) (pa_cons (pv 4) pa_nil)) pa_nil))) pa_nil)))
      (pss_cons (ps_dput hu (pv 2) (M_Book_address.call hr (by omega) (pv 0) (pa_cons (pv 8) pa_nil)) (pe_tup (pa_cons (pv 8) (pa_cons (pv 5) pa_nil))) rfl)
      (pss_one (ps_ret (M_Book_address.call hr (by omega) (pv 0) (pa_cons (pv 8) pa_nil)))))))))), ?_⟩
    -- the form
    refine ⟨(by show 5 ≤ sizeLine; decide), fun f1 hf1 => ⟨(by show 5 ≤ sizeLine; decide), fun f2 hf2 => ⟨(by show 2 ≤ sizeLine; decide), fun f3 hf3 => ⟨(by show 1 ≤ sizeLine; decide), fun f4 hf4 => ⟨(by show 2 ≤ sizeLine; decide), fun f5 hf5 => ?_⟩⟩⟩⟩⟩
    have k1 := same_new hf1 (.tup [.str "id", .str "int", .int 0, .int 0, .str ""])
    have k2 := same_new hf2 (.tup [.str "v", .str "text", .str "", .int 0, .str ""])
    have k3 := same_new hf3 (.tup [.ref f1, .ref f2])
    have k4 := same_new hf4 (.tup [.str "id"])
    have k5 := same_new hf5 (.tup [.ref f3, .ref f4])
    have s0 := k1.trans (k2.trans (k3.trans (k4.trans k5)))
    have rf : Rp (upd (upd (upd (upd (upd H f1 (.tup [.str "id", .str "int", .int 0, .int 0, .str ""])) f2 (.tup [.str "v", .str "text", .str "", .int 0, .str ""])) f3 (.tup [.ref f1, .ref f2])) f4 (.tup [.str "id"])) f5 (.tup [.ref f3, .ref f4])) (.ref f5) formD := by
      refine .tup upd_same (.cons (.tup (k5 _ _ (k4 _ _ upd_same)) (.cons (.tup (k5 _ _ (k4 _ _ (k3 _ _ (k2 _ _ upd_same)))) ?_) (.cons (.tup (k5 _ _ (k4 _ _ (k3 _ _ upd_same))) ?_) .nil))) (.cons (.tup (k5 _ _ upd_same) ?_) .nil))
      · exact .cons (.str _) (.cons (.str _) (.cons (.int _) (.cons (.int _) (.cons (.str _) .nil))))
      · exact .cons (.str _) (.cons (.str _) (.cons (.str _) (.cons (.int _) (.cons (.str _) .nil))))
      · exact .cons (.str _) .nil
    generalize upd (upd (upd (upd (upd H f1 (.tup [.str "id", .str "int", .int 0, .int 0, .str ""])) f2 (.tup [.str "v", .str "text", .str "", .int 0, .str ""])) f3 (.tup [.ref f1, .ref f2])) f4 (.tup [.str "id"])) f5 (.tup [.ref f3, .ref f4]) = H1 at s0 rf ⊢
    refine ⟨(by show 0 ≤ sizeLine; decide), fun la hla => ⟨(by show 0 ≤ sizeLine; decide), fun lr hlr => ?_⟩⟩
    have s1 := s0.trans ((same_new hla (.lst [])).trans (same_new hlr (.lst [])))
    have fla : H la = none := s0.free hla
    have flr : H lr = none := (s0.trans (same_new hla (.lst []))).free hlr
    have nlr : lr ≠ la := (ne_of_none upd_same hlr).symm
    have S1 := (Stp.refl W).same s1
    have nbt : ¬ BT nd td tl' := by
      rintro (z | z)
      · exact ne_of htl W.book.dc (by intro z; cases z) z
      · exact ne_of htl W.tex (by intro z; cases z) z
    refine ⟨_, rfl, tl', rfl, ⟨_, SqL.of (s1 _ _ htl)⟩, for_list (K := K) (a := tl') (xs := ys) (fun i σ H' => ∃ (ts' : List Str) (kvs' : List (Key × V)) (tz : List (D × D × Int)) (xz : List V) (nv ev : Option V), σ = [some (.ref bk), some (.ref tl'), some (.ref td), some (.ref f5), some (.ref la), some (.ref lr), nv, ev, none] ∧
        Stp C bk nd td (i * 49) H ts kvs H' ts' kvs' ∧ H' la = some (.lst xz) ∧ RpA H' xz (tz.map fun t => D.tup [t.1, t.2.1, .int t.2.2]) ∧ H' lr = some (.lst ((tz.map fun t => t.2.2).map V.int)) ∧ ¬ Below H' kvs' la ∧ ¬ Below H' kvs' lr ∧ tz.length = i ∧ Rp H' (.ref f5) formD ∧
        ∀ t ∈ tz, (∃ z : Str, t.1 = .str z ∧ z.length ≤ 12) ∧ t.2.1 = formD ∧ isKey kvs' t.2.2)
      ⟨ts, kvs, [], [], none, none, rfl, by rw [Nat.zero_mul]; exact S1, by rw [upd_ne nlr.symm, upd_same], .nil, upd_same, fun z => Below.no W fla (z.back W fun b xs e => s1 b _ e), fun z => Below.no W flr (z.back W fun b xs e => s1 b _ e), rfl, same_rp ((same_new hla _).trans (same_new hlr _)) rf, fun t h => absurd h List.not_mem_nil⟩
      (fun i σ H' _ ⟨_, _, _, _, _, _, _, S, _⟩ => SqL.of (S.k.old _ _ htl nbt)) ?_ ?_⟩
    · rintro i y σ H' hi ⟨ts', kvs', tz, xz, nv, ev, rfl, S, ea, ra, er, ba, br, hlen, rf', hz⟩
      have hi3 := (List.getElem?_eq_some_iff.mp hi).1
      have htl' := S.g.tl
      have hkl' := S.g.kl
      have hxz := ra.length
      rw [List.length_map] at hxz
      obtain ⟨t, el, z, xs, ds, e1, e2, e3, e4, e5, e6, e7⟩ := ((hT y (List.mem_of_getElem? hi)).keep S W)
      subst e1
      refine ⟨t, _, rfl, SqT.of e2, rfl, _, _, rfl, _, _, rfl, rfl, ?_⟩
      have e6' : ∀ d ∈ ds, EntD kvs' 0 d := fun d hd => (e6 d hd).row0
      refine ⟨_, rfl, .inl ⟨rfl, _, SqL.of er⟩, _, rfl, _, rfl, _, rfl, bk, nd, td, el, ts', kvs', xs, ds, rfl, S.w, e4, e5, e6', e7, by omega, by omega, fun a H2 ts2 kvs2 S2 ka => ?_⟩
      have ST := S.trans S2
      have nlBT : ∀ x zs, H' x = some (.lst zs) → ¬ BT nd td x := by
        intro x zs e
        rintro (z | z)
        · exact ne_of e S.w.book.dc (by intro z; cases z) z
        · exact ne_of e S.w.tex (by intro z; cases z) z
      have er2 := S2.k.old _ _ er (nlBT _ _ er)
      have ea2 := S2.k.old _ _ ea (nlBT _ _ ea)
      have br2 := S2.nb er br
      have ba2 := S2.nb ea ba
      have ra2 := ra.mono S2.k.tup _ _
      have rf2 := rf'.mono S2.k.tup _ _
      refine ⟨lr, _, _, rfl, rfl, er2, (by rw [List.length_map, List.length_map]; exact szlt (by omega)), ?_⟩
      have S3 := ST.lset (ys := (tz.map fun t => t.2.2).map V.int ++ [.int a]) flr er2 br2
      have t3 := tup_lset (ys := (tz.map fun t => t.2.2).map V.int ++ [.int a]) er2
      have er3 : (upd H2 lr (.lst ((tz.map fun t => t.2.2).map V.int ++ [.int a]))) lr = some (.lst ((tz.map fun t => t.2.2).map V.int ++ [.int a])) := upd_same
      have ea3 : (upd H2 lr (.lst ((tz.map fun t => t.2.2).map V.int ++ [.int a]))) la = some (.lst xz) := by rw [upd_ne nlr.symm]; exact ea2
      have br3 : ¬ Below (upd H2 lr (.lst ((tz.map fun t => t.2.2).map V.int ++ [.int a]))) kvs2 lr := fun z => br2 (z.back ST.w t3)
      have ba3 : ¬ Below (upd H2 lr (.lst ((tz.map fun t => t.2.2).map V.int ++ [.int a]))) kvs2 la := fun z => ba2 (z.back ST.w t3)
      have ra3 := ra2.mono t3 _ _
      have rf3 := rf2.mono t3 _ _
      generalize upd H2 lr (.lst ((tz.map fun t => t.2.2).map V.int ++ [.int a])) = H3 at S3 er3 ea3 br3 ba3 ra3 rf3 ⊢
      refine ⟨_, rfl, .inl ⟨rfl, _, SqL.of ea3⟩, _, rfl, _, rfl, _, rfl, _, rfl, lr, _, _, _, rfl, rfl, SqL.of er3, atI_last _ _, (by show 3 ≤ sizeLine; decide), fun p hp => ?_⟩
      have s4 : Same H3 (upd H3 p (.tup [.str z, .ref f5, .int a])) := same_new hp _
      refine ⟨la, xz, _, rfl, rfl, s4 _ _ ea3, (by rw [hxz]; exact szlt (by omega)), ?_⟩
      have S4 := S3.same s4
      have ba4 : ¬ Below (upd H3 p (.tup [.str z, .ref f5, .int a])) kvs2 la := fun z => ba3 (z.back S3.w fun b xs e => s4 b _ e)
      have br4 : ¬ Below (upd H3 p (.tup [.str z, .ref f5, .int a])) kvs2 lr := fun z => br3 (z.back S3.w fun b xs e => s4 b _ e)
      have S5 := S4.lset (ys := xz ++ [.ref p]) fla (s4 _ _ ea3) ba4
      have t5 := tup_lset (ys := xz ++ [.ref p]) (s4 _ _ ea3)
      refine ⟨ts2, kvs2, tz ++ [(.str z, formD, a)], xz ++ [.ref p], _, _, rfl, ?_, upd_same, ?_, ?_, fun z => ba4 (z.back S4.w t5), fun z => br4 (z.back S4.w t5), by simp [hlen], (same_rp s4 rf3).mono t5 _ _, fun t ht => ?_⟩
      · rw [Nat.add_mul, Nat.one_mul]
        exact S5
      · rw [List.map_append]
        exact RpA.snoc (.tup (t5 _ _ upd_same) (.cons (.str _) (.cons ((same_rp s4 rf3).mono t5 _ _) (.cons (.int _) .nil)))) ((same_rpA s4 ra3).mono t5 _ _)
      · rw [upd_ne nlr, List.map_append, List.map_append]
        exact s4 _ _ er3
      · rcases List.mem_append.mp ht with q1 | q1
        · obtain ⟨h1, h2, h3⟩ := hz t q1
          exact ⟨h1, h2, S2.g.key _ h3⟩
        · rw [List.mem_singleton.mp q1]
          exact ⟨⟨z, rfl, e3⟩, rfl, ka⟩
    · rintro σ H' ⟨ts', kvs', tz, xz, nv, ev, rfl, S, ea, ra, er, ba, br, hlen, rf', hz⟩
      have htl' := S.g.tl
      have hkl' := S.g.kl
      have kd := kd_state S.w (by omega) hz (by omega)
      refine ⟨_, rfl, la, _, rfl, .inl ⟨SqL.of ea, fun p1 hp1 => ⟨(by show 2 ≤ sizeLine; decide), fun p2 hp2 => ?_⟩⟩⟩
      have s2 : Same H' (upd (upd H' p1 (.tup xz)) p2 (.tup [.str "state", .ref p1])) := (same_new hp1 _).trans (same_new hp2 _)
      refine ⟨.ref p2, _, rfl, .tup upd_same (.cons (.str _) (.cons (.tup (by rw [upd_ne (ne_of_none upd_same hp2), upd_same]) (same_rpA s2 ra)) .nil)), kd.good, (by have := kd.dep; omega), (by have := kd.len; omega), fun H2 s3 => ?_⟩
      have S2 := S.same (s2.trans s3)
      have er2 := s3 _ _ (s2 _ _ er)
      dsimp only
      refine rd_put (nd := nd) (ts := ts') (kvs := kvs') (bk := bk) (d := .tup [.str "state", .tup (tz.map fun t => .tup [t.1, t.2.1, .int t.2.2])]) (ks := tz.map fun t => t.2.2) (by rfl) (by rfl) (by rfl) S2.w (by omega) (by omega) kd (fun c hc => ?_) (fun Q' hQ => ?_)
      · obtain ⟨t, ht, rfl⟩ := List.mem_map.mp hc
        exact (hz t ht).2.2
      · refine ⟨_, rfl, _, rfl, (by show 2 ≤ sizeLine; decide), fun pp hpp => ?_⟩
        refine hQ pp lr _ (same_new hpp _) hpp upd_same (by rw [upd_ne (ne_of_none er2 hpp)]; exact er2) fun H3 ts3 kvs3 W3 G3 k3 b3 m3 i3 => ?_
        have S3 := S2.put flr W3 G3 k3 b3
        have htl3 := S3.g.tl
        refine rd_adr (by rfl) (by rfl) W3 (by omega) m3 fun H4 B4 k4 => ?_
        exact q _ H4 ts3 kvs3 ((S3.rebook B4 k4).le (by omega)) i3
/-! ### _law_commit -/
def spLCommit (C : Addr) : Sp := fun vs H Q _ => ∃ (bk nd td pl : Addr) (ts : List Str) (kvs : List (Key × V)) (s : Int) (ps : List Int) (z : Str), vs = [.ref bk, .int s, .ref pl, .str z, .ref td] ∧ TW C H bk nd td ts kvs ∧ H pl = some (.lst (ps.map V.int)) ∧ isKey kvs s ∧ (∀ p ∈ ps, isKey kvs p) ∧ ps.length ≤ 7 ∧ z.length ≤ 1000 ∧ ts.length ≤ 100000 ∧ kvs.length ≤ 100000 ∧
  ∀ a H' ts' kvs', Stp C bk nd td 1 H ts kvs H' ts' kvs' → isKey kvs' a → Q (.int a) H'
theorem ok_lcommit (F : Fun K "_law_commit" "_law_commit" s_Lcommit f fd) (B : Bl mg) (D_Lencode : Def P w K mg base 11 "_law_encode" [nItem] (spLEnc 10)) (M_Book_address : MDef P w K mg base 1 C "address" ["self", "text"] (spBookAddress C)) :
    FnOk P w K mg base CX0 12 f fd ["_law_book", "_law_state_here", "_law_parents", "_law_message", "_law_texts"] (spLCommit C) := by
  refine F.ok sc_Lcommit (fun vs H Q E h => ?_) (fun cdv A outer s H vs Q E hr h => ?_)
  · obtain ⟨bk, nd, td, pl, ts, kvs, s, ps, z, rfl, _⟩ := h
    rfl
  · obtain ⟨bk, nd, td, pl, ts, kvs, s', ps, z, rfl, W, hpl, hs, hps, h7, hz, hts, hkv, q⟩ := h
    have hu := hu_of hr
    refine ⟨_, (pss_cons (ps_set (i := 5) sc_Lcommit.nd rfl (Or.inl rfl) (D_Lencode.call hr (by omega) (pa_cons (pe_tup (pa_cons pe_str (pa_cons (pv 1) (pa_cons (pe_callTy call_tuple_of (by rfl) B.tuple (by decide +kernel) (pa_cons (pv 2) pa_nil)) (pa_cons (pv 3) pa_nil))))) pa_nil)))
      (pss_cons (ps_dput hu (pv 4) (M_Book_address.call hr (by omega) (pv 0) (pa_cons (pv 5) pa_nil)) (pe_tup (pa_cons (pv 5) (pa_cons (pe_op op_cat (pe_lst (pa_cons (pv 1) pa_nil)) (pe_callTy call_list_of (by rfl) B.list (by decide +kernel) (pa_cons (pv 2) pa_nil))) pa_nil))) rfl)
      (pss_one (ps_ret (M_Book_address.call hr (by omega) (pv 0) (pa_cons (pv 5) pa_nil)))))), ?_⟩
    have kd := kd_commit W (by omega) hs hps h7 hz
    refine ⟨_, rfl, _, rfl, pl, _, rfl, .inl ⟨SqL.of hpl, fun p1 hp1 => ⟨_, rfl, (by show 4 ≤ sizeLine; decide), fun p2 hp2 => ?_⟩⟩⟩
    have s2 : Same H (upd (upd H p1 (.tup (ps.map V.int))) p2 (.tup [.str "commit", .int s', .ref p1, .str z])) := (same_new hp1 _).trans (same_new hp2 _)
    refine ⟨.ref p2, _, rfl, .tup upd_same (.cons (.str _) (.cons (.int _) (.cons (.tup (by rw [upd_ne (ne_of_none upd_same hp2), upd_same]) (int_reps ps)) (.cons (.str _) .nil)))), kd.good, (by have := kd.dep; omega), (by have := kd.len; omega), fun H2 s3 => ?_⟩
    have S2 := (Stp.refl W).same (s2.trans s3)
    have hpl2 := s3 _ _ (s2 _ _ hpl)
    dsimp only
    refine rd_put (nd := nd) (ts := ts) (kvs := kvs) (bk := bk) (d := .tup [.str "commit", .int s', .tup (ps.map D.int), .str z]) (ks := s' :: ps) (by rfl) (by rfl) (by rfl) S2.w (by omega) (by omega) kd (fun c hc => ?_) (fun Q' hQ => ?_)
    · rcases List.mem_cons.mp hc with e | e
      · rw [e]
        exact hs
      · exact hps c e
    · refine ⟨_, rfl, _, rfl, (by show 1 ≤ sizeLine; decide), fun l1 hl1 => ?_⟩
      have t1 : Same H2 (upd H2 l1 (.lst [.int s'])) := same_new hl1 _
      refine ⟨_, rfl, pl, _, rfl, .inl (SqL.of (t1 _ _ hpl2)), fun l2 hl2 => ?_⟩
      have t2 := t1.trans (same_new hl2 (.lst (ps.map V.int)))
      refine ⟨l1, l2, _, _, rfl, rfl, (by rw [upd_ne (ne_of_none upd_same hl2), upd_same]), upd_same, (by rw [List.length_map]; show 1 + ps.length ≤ sizeLine; exact sz (by omega)), fun l3 hl3 => ?_⟩
      have t3 := t2.trans (same_new hl3 (.lst ([V.int s'] ++ ps.map V.int)))
      refine ⟨(by show 2 ≤ sizeLine; decide), fun pp hpp => ?_⟩
      refine hQ pp l3 _ (t3.trans (same_new hpp _)) (t3.free hpp) upd_same (by rw [upd_ne (ne_of_none upd_same hpp), upd_same]; rfl) fun H3 ts3 kvs3 W3 G3 k3 b3 m3 i3 => ?_
      have S3 := S2.put (S2.free (t2.free hl3)) W3 G3 k3 b3
      have htl3 := S3.g.tl
      refine rd_adr (by rfl) (by rfl) W3 (by omega) m3 fun H4 B4 k4 => ?_
      exact q _ H4 ts3 kvs3 ((S3.rebook B4 k4).le (by omega)) i3
end
end My
set_option Elab.async false
set_option linter.all false
set_option maxRecDepth 100000
set_option maxHeartbeats 8000000
/-! The walks of _law_entries, _law_tables, _law_history. -/
namespace My
open PySem L2 TL
theorem atN {ns : List Int} {j : Nat} {i : Int} (e : i = (j : Int)) (h : j < ns.length) : ∃ x, atI (ns.map V.int) i = some (.int x) ∧ x ∈ ns := by
  subst e
  exact ⟨ns[j], atI_nat (by rw [List.getElem?_map, List.getElem?_eq_getElem h]; rfl), List.getElem_mem h⟩
section
variable {P : Program} {w : World} {K : PySem.W.Frag} {mg : Str → Option Value} {base : Heap} {f C : Addr} {fd : FuncData}
/-! ### _law_entries -/
def spLEntries : Sp := fun vs H Q _ => ∃ (c : Int) (m : Bool), vs = [.int c, .bl m] ∧ ∀ p H' xs ds, Same H H' → H p = none → H' p = some (.lst xs) → RpA H' xs ds → (∀ d ∈ ds, EntD [] 0 d) → ds.length ≤ 17 → Q (.ref p) H'
theorem keyD_int {i : Int} (h0 : 0 ≤ i) (h : i < 1000) : KeyD (.tup [.int i]) := by
  have := numI_small h0 h
  refine ⟨⟨(by show i.natAbs < 10 ^ 60; omega), trivial⟩, ?_, ?_⟩
  · simp only [D.dep, D.depA]
    omega
  · simp only [D.enc, D.encA, List.length_cons, List.length_append, List.length_nil]
    omega
theorem keyD_str {z : Str} (h : z.length ≤ 60) : KeyD (.tup [.str z]) := by
  have : (numL z.length).length ≤ 2 := numL_len (by decide) (by omega)
  refine ⟨⟨(by show z.length < 10 ^ 6; omega), trivial⟩, ?_, ?_⟩
  · simp only [D.dep, D.depA]
    omega
  · simp only [D.enc, D.encA, List.length_cons, List.length_append, List.length_nil, ← len_tl]
    omega
theorem ok_lentries (F : Fun K "_law_entries" "_law_entries" s_Lentries f fd) (B : Bl mg) (D_Lnumbers : Def P w K mg base 1 "_law_numbers" ["_law_cell_here", "_law_count"] spLNumbers) (D_Ltext : Def P w K mg base 1 "_law_text" ["_law_a", "_law_b"] spLText) :
    FnOk P w K mg base CX0 2 f fd ["_law_cell_here", "_law_many"] spLEntries := by
  refine F.ok sc_Lentries (fun vs H Q E h => ?_) (fun cdv A outer s H vs Q E hr h => ?_)
  · obtain ⟨c, m, rfl, _⟩ := h
    rfl
  · obtain ⟨c, m, rfl, q⟩ := h
    refine ⟨_, (pss_cons (ps_set (i := 2) sc_Lentries.nd rfl (Or.inl rfl) (D_Lnumbers.call hr (by omega) (pa_cons (pv 0) (pa_cons pe_int pa_nil))))
      (pss_cons (ps_set (i := 3) sc_Lentries.nd rfl (Or.inl rfl) (pe_op op_mod (pe_ix ix_list (pv 2) pe_int (fun _ _ => rfl)) pe_int))
      (C8.pss_cut (ps_if (pt_val (pv 1))
        (pss_one (ps_set (i := 3) sc_Lentries.nd rfl (Or.inl rfl) (pe_op op_mod (pe_ix ix_list (pv 2) pe_int (fun _ _ => rfl)) pe_int)))
        pss_nil)
      (pss_cons (ps_set (i := 4) sc_Lentries.nd rfl (Or.inl rfl) (pe_op op_add pe_int (pe_op op_mod (pe_ix ix_list (pv 2) pe_int (fun _ _ => rfl)) pe_int)))
      (pss_cons (ps_set (i := 5) sc_Lentries.nd rfl (Or.inl rfl) (pe_lst pa_nil))
      (pss_cons (ps_for PassesOwn.never rfl (pi_range1 (by rfl) B.range (pa_cons (pv 3) pa_nil)) (pg_name (i := 6) sc_Lentries.nd rfl (Or.inl rfl))
        (pss_one (ps_expr (pe_bm PySem.F.plainAttrs_list PySem.F.slot_list_append PySem.F.type_list_append mt_append (pv 5) (pa_cons (pe_tup (pa_cons (pe_tup (pa_cons (pe_op op_add (pe_op op_mul (pv 6) (pv 4)) (pe_op op_mod (pe_ix ix_list (pv 2) pe_int (fun _ _ => rfl)) pe_int)) pa_nil)) (pa_cons (pe_tup (pa_cons (D_Ltext.call hr (by omega) (pa_cons (pe_op op_add (pe_ix ix_list (pv 2) pe_int (fun _ _ => rfl)) (pe_op op_fdiv (pv 6) pe_int)) (pa_cons (pe_ix ix_list (pv 2) pe_int (fun _ _ => rfl)) pa_nil))) pa_nil)) pa_nil))) pa_nil)))))
      (pss_one (ps_ret (pv 5))))))))), ?_⟩
    refine ⟨_, rfl, c, 6, rfl, by omega, fun np ns H1 s1 fnp enp ln hns => ?_⟩
    have at_ : ∀ j : Nat, j < 6 → ∃ x, atI (ns.map V.int) (j : Int) = some (.int x) ∧ 0 ≤ x ∧ x < 1000 := fun j hj => by
      obtain ⟨x, h1, h2⟩ := atN (ns := ns) (j := j) rfl (by omega)
      exact ⟨x, h1, hns x h2⟩
    obtain ⟨x0, a0, b0⟩ := at_ 0 (by decide)
    obtain ⟨x1, a1, b1⟩ := at_ 1 (by decide)
    obtain ⟨x2, a2, b2⟩ := at_ 2 (by decide)
    obtain ⟨x3, a3, b3⟩ := at_ 3 (by decide)
    obtain ⟨x4, a4, b4⟩ := at_ 4 (by decide)
    refine ⟨_, rfl, np, _, _, _, rfl, rfl, SqL.of enp, a0, _, _, rfl, rfl, (by show (0 : Int) < 6; decide), ?_⟩
    refine ⟨fun σ' H' => H' = H1 ∧ ∃ n : Nat, n ≤ 17 ∧ σ' = [some (.int c), some (.bl m), some (.ref np), some (.int (n : Int)), none, none, none], ?_, ?_⟩
    · refine ⟨_, rfl, m, rfl, ?_⟩
      cases m with
      | true =>
        refine if_t rfl ?_
        refine ⟨_, rfl, np, _, _, _, rfl, rfl, SqL.of enp, a0, _, _, rfl, rfl, (by show (0 : Int) < 18; decide), rfl, (x0 % 18).toNat, by omega, ?_⟩
        rw [show (((x0 % 18).toNat : Nat) : Int) = x0 % 18 by omega]
        rfl
      | false =>
        refine if_f rfl ?_
        refine ⟨rfl, (x0 % 6).toNat, by omega, ?_⟩
        rw [show (((x0 % 6).toNat : Nat) : Int) = x0 % 6 by omega]
        rfl
    · rintro σ' H' ⟨rfl, n, hn, rfl⟩
      refine ⟨_, rfl, np, _, _, _, rfl, rfl, SqL.of enp, a1, _, _, rfl, rfl, (by show (0 : Int) < 3; decide), _, _, rfl, rfl, ?_⟩
      refine ⟨(by show 0 ≤ sizeLine; decide), fun el hel => ?_⟩
      have s2 := same_new hel (.lst [])
      refine ⟨_, rfl, _, rfl, by omega, by omega, ?_⟩
      rw [Int.toNat_natCast]
      refine for_range (lo := 0) (n := n) (fun i σ H2 => ∃ (xs : List V) (ds : List D) (kv : Option V), σ = [some (.int c), some (.bl m), some (.ref np), some (.int (n : Int)), some (.int (1 + x1 % 3)), some (.ref el), kv] ∧ Same H' H2 ∧ H2 el = some (.lst xs) ∧ RpA H2 xs ds ∧ (∀ d ∈ ds, EntD [] 0 d) ∧ ds.length = i)
        ⟨[], [], none, rfl, s2, upd_same, .nil, fun d h => absurd h List.not_mem_nil, rfl⟩ ?_ ?_
      · rintro i σ H2 hi ⟨xs, ds, kv, rfl, s3, ee, rr, hE, hlen⟩
        have hxl := rr.length
        have enp2 := s3 _ _ enp
        refine ⟨_, rfl, .inl ⟨rfl, _, SqL.of ee⟩, _, rfl, _, rfl, _, _, rfl, rfl, .inl ⟨by omega, by omega⟩, _, rfl, np, _, _, _, rfl, rfl, SqL.of enp2, a2, _, _, rfl, rfl, (by show (0 : Int) < 5; decide), _, _, rfl, rfl, (by show 1 ≤ sizeLine; decide), fun p1 hp1 => ?_⟩
        have t1 : Same H2 (upd H2 p1 (.tup [.int ((0 + (i : Int)) * (1 + x1 % 3) + x2 % 5)])) := same_new hp1 _
        refine ⟨_, rfl, np, _, _, _, rfl, rfl, SqL.of (t1 _ _ enp2), a3, _, rfl, _, _, rfl, rfl, ⟨by decide, by decide⟩, _, _, rfl, rfl, _, rfl, np, _, _, _, rfl, rfl, SqL.of (t1 _ _ enp2), a4, _, _, rfl, fun z H3 s4 hz => ?_⟩
        refine ⟨(by show 1 ≤ sizeLine; decide), fun p2 hp2 => ⟨(by show 2 ≤ sizeLine; decide), fun p3 hp3 => ?_⟩⟩
        have t2 : Same H3 (upd H3 p2 (.tup [.str z])) := same_new hp2 _
        have t3 := same_new hp3 (.tup [.ref p1, .ref p2])
        have t := (t1.trans s4).trans (t2.trans t3)
        refine ⟨el, xs, _, rfl, rfl, t _ _ ee, (by rw [hxl]; exact szlt (by omega)), ?_⟩
        have tt := tup_lset (ys := xs ++ [.ref p3]) (t _ _ ee)
        have hmul : 0 ≤ (0 + (i : Int)) * (1 + x1 % 3) ∧ (0 + (i : Int)) * (1 + x1 % 3) ≤ 17 * 3 := by
          refine ⟨Int.mul_nonneg (by omega) (by omega), ?_⟩
          exact Int.le_trans (Int.mul_le_mul_of_nonneg_right (show (0 + (i : Int)) ≤ 17 by omega) (by omega)) (Int.mul_le_mul_of_nonneg_left (by omega) (by decide))
        have hkey := keyD_int (i := (0 + (i : Int)) * (1 + x1 % 3) + x2 % 5) (by omega) (by omega)
        refine ⟨xs ++ [.ref p3], ds ++ [.tup [.tup [.int ((0 + (i : Int)) * (1 + x1 % 3) + x2 % 5)], .tup [.str z]]], _, rfl, ?_, upd_same, ?_, fun d hd => ?_, by simp [hlen]⟩
        · exact same_mut (s3.trans t) hel _
        · refine RpA.snoc (.tup (tt _ _ upd_same) (.cons (.tup (tt _ _ ((s4.trans (t2.trans t3)) _ _ upd_same)) (.cons (.int _) .nil)) (.cons (.tup (tt _ _ (t3 _ _ upd_same)) (.cons (.str _) .nil)) .nil))) ((same_rpA t rr).mono tt _ _)
        · rcases List.mem_append.mp hd with q1 | q1
          · exact hE d q1
          · rw [List.mem_singleton.mp q1]
            exact .row _ _ hkey (keyD_str hz)
      · rintro σ H2 ⟨xs, ds, kv, rfl, s3, ee, rr, hE, hlen⟩
        exact ⟨_, rfl, q el H2 xs ds (s1.trans s3) (s1.free hel) ee rr hE (by omega)⟩
/-! ### _law_tables -/
def NotL (H : Hp) (tl' : Addr) (y : V) : Prop := ∀ (t : Addr) (z : Str) (el : Addr), y = .ref t → H t = some (.tup [.str z, .ref el]) → el ≠ tl'
def spLTables : Sp := fun vs H Q _ => ∃ (c : Int), vs = [.int c] ∧ ∀ p H' ys, Same H H' → H p = none → H' p = some (.lst ys) → (∀ y ∈ ys, TabAt H' y) → ys.length ≤ 3 → Q (.ref p) H'
theorem ok_ltables (F : Fun K "_law_tables" "_law_tables" s_Ltables f fd) (B : Bl mg) (D_Lnumbers : Def P w K mg base 1 "_law_numbers" ["_law_cell_here", "_law_count"] spLNumbers) (D_Lentries : Def P w K mg base 2 "_law_entries" ["_law_cell_here", "_law_many"] spLEntries) :
    FnOk P w K mg base CX0 3 f fd ["_law_cell_here"] spLTables := by
  refine F.ok sc_Ltables (fun vs H Q E h => ?_) (fun cdv A outer s H vs Q E hr h => ?_)
  · obtain ⟨c, rfl, _⟩ := h
    rfl
  · obtain ⟨c, rfl, q⟩ := h
    refine ⟨_, (pss_cons (ps_set (i := 1) sc_Ltables.nd rfl (Or.inl rfl) (D_Lnumbers.call hr (by omega) (pa_cons (pv 0) (pa_cons pe_int pa_nil))))
      (pss_cons (ps_set (i := 2) sc_Ltables.nd rfl (Or.inl rfl) (pe_lst pa_nil))
      (pss_cons (ps_for PassesOwn.never rfl (pi_list (pe_slice sl_list (pe_lst (pa_cons pe_str (pa_cons pe_str (pa_cons pe_str pa_nil)))) po_none (po_some (pe_op op_mod (pe_ix ix_list (pv 1) pe_int (fun _ _ => rfl)) pe_int)))) (pg_name (i := 3) sc_Ltables.nd rfl (Or.inl rfl))
        (pss_one (ps_expr (pe_bm PySem.F.plainAttrs_list PySem.F.slot_list_append PySem.F.type_list_append mt_append (pv 2) (pa_cons (pe_tup (pa_cons (pv 3) (pa_cons (D_Lentries.call hr (by omega) (pa_cons (pe_op op_add (pv 0) (pe_callB call_len_seq (by rfl) B.len (by decide +kernel) (pa_cons (pv 2) pa_nil))) (pa_cons (pe_cmpR op_eq (pe_op op_mod (pe_ix ix_list (pv 1) pe_int (fun _ _ => rfl)) pe_int) (pe_callB call_len_seq (by rfl) B.len (by decide +kernel) (pa_cons (pv 2) pa_nil)) (nomark _)) pa_nil))) pa_nil))) pa_nil)))))
      (pss_one (ps_ret (pv 2)))))), ?_⟩
    refine ⟨_, rfl, c, 4, rfl, by omega, fun np ns H1 s1 fnp enp ln hns => ?_⟩
    have at_ : ∀ j : Nat, j < 4 → ∃ x, atI (ns.map V.int) (j : Int) = some (.int x) ∧ 0 ≤ x ∧ x < 1000 := fun j hj => by
      obtain ⟨x, h1, h2⟩ := atN (ns := ns) (j := j) rfl (by omega)
      exact ⟨x, h1, hns x h2⟩
    obtain ⟨x0, a0, b0⟩ := at_ 0 (by decide)
    obtain ⟨x1, a1, b1⟩ := at_ 1 (by decide)
    obtain ⟨x2, a2, b2⟩ := at_ 2 (by decide)
    refine ⟨(by show 0 ≤ sizeLine; decide), fun tl' htl => ?_⟩
    have s2 := same_new htl (.lst [])
    refine ⟨(by show 3 ≤ sizeLine; decide), fun nl hnl => ?_⟩
    have s3 := s2.trans (same_new hnl (.lst [.str "a", .str "ab", .str "b"]))
    refine ⟨_, rfl, np, _, _, _, rfl, rfl, SqL.of (s3 _ _ enp), a0, _, _, rfl, rfl, (by show (0 : Int) < 4; decide), _, rfl, nl, _, rfl, SqL.of upd_same, fun sl hsl => ?_⟩
    have s4 := s3.trans (same_new hsl (.lst (cutV [.str "a", .str "ab", .str "b"] none (some (x0 % 4)))))
    have hcl : (cutV [.str "a", .str "ab", .str "b"] none (some (x0 % 4))).length ≤ 3 ∧ ∀ y ∈ cutV [.str "a", .str "ab", .str "b"] none (some (x0 % 4)), ∃ z : Str, y = .str z ∧ z.length ≤ 12 := by
      unfold cutV
      constructor
      · rw [List.length_take, List.length_drop]
        show min _ (3 - _) ≤ 3
        omega
      · intro y hy
        have hy := List.drop_subset _ _ (List.take_subset _ _ hy)
        rcases List.mem_cons.mp hy with e | hy
        · exact ⟨_, e, by decide +kernel⟩
        · rcases List.mem_cons.mp hy with e | hy
          · exact ⟨_, e, by decide +kernel⟩
          · exact ⟨_, List.mem_singleton.mp hy, by decide +kernel⟩
    have nts : tl' ≠ sl := ne_of_none (same_new hnl _ _ _ upd_same) hsl
    have esl : (upd (upd (upd H1 tl' (.lst [])) nl (.lst [.str "a", .str "ab", .str "b"])) sl (.lst (cutV [.str "a", .str "ab", .str "b"] none (some (x0 % 4))))) sl = some (.lst (cutV [.str "a", .str "ab", .str "b"] none (some (x0 % 4)))) := upd_same
    have etl : (upd (upd (upd H1 tl' (.lst [])) nl (.lst [.str "a", .str "ab", .str "b"])) sl (.lst (cutV [.str "a", .str "ab", .str "b"] none (some (x0 % 4))))) tl' = some (.lst []) := by
      rw [upd_ne nts]
      exact same_new hnl _ _ _ upd_same
    have enp4 := s4 _ _ enp
    generalize upd (upd (upd H1 tl' (.lst [])) nl (.lst [.str "a", .str "ab", .str "b"])) sl (.lst (cutV [.str "a", .str "ab", .str "b"] none (some (x0 % 4)))) = H4 at s4 esl etl enp4 ⊢
    generalize cutV [.str "a", .str "ab", .str "b"] none (some (x0 % 4)) = cs at hcl esl ⊢
    refine ⟨sl, rfl, ⟨_, SqL.of esl⟩, for_list (K := K) (a := sl) (xs := cs) (fun i σ H' => ∃ (ys : List V) (nv : Option V), σ = [some (.int c), some (.ref np), some (.ref tl'), nv] ∧ (∀ b o, H4 b = some o → b ≠ tl' → H' b = some o) ∧ H' tl' = some (.lst ys) ∧ (∀ y ∈ ys, TabAt H' y ∧ NotL H' tl' y) ∧ ys.length = i)
      ⟨[], none, rfl, fun b o e _ => e, etl, fun y h => absurd h List.not_mem_nil, rfl⟩ (fun i σ H' _ ⟨_, _, _, k, _⟩ => SqL.of (k _ _ esl nts.symm)) ?_ ?_⟩
    · rintro i y σ H' hi ⟨ys, nv, rfl, k, et, hT, hlen⟩
      obtain ⟨z, rfl, hz⟩ := hcl.2 y (List.mem_of_getElem? hi)
      have hi3 := (List.getElem?_eq_some_iff.mp hi).1
      have hc1 := hcl.1
      have nnp : np ≠ tl' := ne_of_none enp htl
      have enp' := k _ _ enp4 nnp
      refine ⟨_, rfl, .inl ⟨rfl, _, SqL.of et⟩, _, rfl, _, rfl, _, rfl, tl', _, rfl, .inl (SqL.of et), _, _, rfl, rfl, _, rfl, np, _, _, _, rfl, rfl, SqL.of enp', a1, _, _, rfl, rfl, (by show (0 : Int) < 9; decide), _, rfl, tl', _, rfl, .inl (SqL.of et), rfl, ?_⟩
      refine ⟨_, _, rfl, fun p H2 xs ds s5 fp ep rp hE hd => ?_⟩
      refine ⟨(by show 2 ≤ sizeLine; decide), fun pt hpt => ?_⟩
      have t1 : Same H2 (upd H2 pt (.tup [.str z, .ref p])) := same_new hpt _
      have t2 := s5.trans t1
      refine ⟨tl', ys, _, rfl, rfl, t2 _ _ et, (by rw [hlen]; exact szlt (by omega)), ?_⟩
      have tt := tup_lset (ys := ys ++ [.ref pt]) (t2 _ _ et)
      have npt : p ≠ tl' := ne_of_none et fp |> Ne.symm
      refine ⟨ys ++ [.ref pt], _, rfl, fun b o e nb => ?_, upd_same, fun y hy => ?_, by simp [hlen]⟩
      · rw [upd_ne nb]
        exact t2 _ _ (k b o e nb)
      · rcases List.mem_append.mp hy with q1 | q1
        · have nl := (hT y q1).2
          obtain ⟨t, el, z', xs', ds', e1, e2, e3, e4, e5, e6, e7⟩ := (hT y q1).1
          have hel := nl t z' el e1 e2
          refine ⟨⟨t, el, z', xs', ds', e1, tt _ _ (t2 _ _ e2), e3, ?_, (same_rpA t2 e5).mono tt _ _, e6, e7⟩, fun t0 z0 el0 g1 g2 => ?_⟩
          · rw [upd_ne hel]
            exact t2 _ _ e4
          · rw [e1] at g1
            cases g1
            rw [tt _ _ (t2 _ _ e2)] at g2
            cases g2
            exact hel
        · rw [List.mem_singleton.mp q1]
          refine ⟨⟨pt, p, z, xs, ds, rfl, tt _ _ upd_same, hz, ?_, (same_rpA t1 rp).mono tt _ _, hE, hd⟩, fun t0 z0 el0 g1 g2 => ?_⟩
          · rw [upd_ne npt]
            exact t1 _ _ ep
          · cases g1
            rw [tt _ _ upd_same] at g2
            cases g2
            exact npt
    · rintro σ H' ⟨ys, nv, rfl, k, et, hT, hlen⟩
      refine ⟨_, rfl, q tl' H' ys ?_ (s1.free htl) et (fun y hy => (hT y hy).1) (by have := hcl.1; omega)⟩
      intro b o e
      exact k b o (s4 b o (s1 b o e)) (ne_of_none (s1 b o e) htl)
end
end My
set_option Elab.async false
set_option linter.all false
set_option maxRecDepth 100000
set_option maxHeartbeats 8000000
/-! The walk of _law_history. -/
namespace My
open PySem L2 TL
theorem atR {cs : List Int} {i : Int} (h0 : -(cs.length : Int) ≤ i) (h1 : i < cs.length) : ∃ x, atI (cs.map V.int) i = some (.int x) ∧ x ∈ cs := by
  by_cases h : 0 ≤ i
  · exact atN (j := i.toNat) (by omega) (by omega)
  · have e : ixN (cs.map V.int).length i = some (i + cs.length).toNat := by
      unfold ixN
      rw [List.length_map, if_neg h, if_pos h0]
    have hj : (i + cs.length).toNat < cs.length := by omega
    refine ⟨cs[(i + cs.length).toNat], ?_, List.getElem_mem hj⟩
    unfold atI
    rw [e]
    show (cs.map V.int)[(i + cs.length).toNat]? = _
    rw [List.getElem?_map, List.getElem?_eq_getElem hj]
    rfl
theorem SqL.kp {K : PySem.W.Frag} {H H' : Hp} {l nd td : Addr} {xs : List V} {n t : List (Key × V)} (h : SqL K H l xs) (k : Kp (BT nd td) H H') (hn : H nd = some (.dK n)) (ht : H td = some (.dK t)) : SqL K H' l xs := by
  rcases h with (h | ⟨o, h⟩) | h
  · refine .inl (.inl (k.old _ _ h ?_))
    rintro (z | z)
    · exact ne_of h hn (by intro z; cases z) z
    · exact ne_of h ht (by intro z; cases z) z
  · refine .inl (.inr ⟨o, k.old _ _ h ?_⟩)
    rintro (z | z)
    · exact ne_of h hn (by intro z; cases z) z
    · exact ne_of h ht (by intro z; cases z) z
  · exact .inr h
section
variable {P : Program} {w : World} {K : PySem.W.Frag} {mg : Str → Option Value} {base : Heap} {f C : Addr} {fd : FuncData}
def spLHistory (K : PySem.W.Frag) (C : Addr) : Sp := fun vs H Q _ => ∃ (bk nd td l : Addr) (ts : List Str) (kvs : List (Key × V)) (ns : List Int) (fs n : Nat), vs = [.ref bk, .ref l, .int (fs : Int), .int (n : Int), .ref td] ∧ TW C H bk nd td ts kvs ∧ SqL K H l (ns.map V.int) ∧ n ≤ 100 ∧ ts.length ≤ 10000 ∧ kvs.length ≤ 10000 ∧
  ∀ (p : Addr) (H' : Hp) (ts' : List Str) (kvs' : List (Key × V)) (cs : List Int), Stp C bk nd td ((n + 1) * 149) H ts kvs H' ts' kvs' → H p = none → H' p = some (.lst (cs.map V.int)) → ¬ Below H' kvs' p → cs.length = n + 1 → (∀ c ∈ cs, isKey kvs' c) → Q (.ref p) H'
theorem ok_lhistory (F : Fun K "_law_history" "_law_history" s_Lhistory f fd) (B : Bl mg) (D_Lcell : Def P w K mg base 1 "_law_cell" ["_law_script", "_law_k"] (spLCell K)) (D_Lnumbers : Def P w K mg base 1 "_law_numbers" ["_law_cell_here", "_law_count"] spLNumbers)
    (D_Lstate : Def P w K mg base 15 "_law_state" ["_law_book", "_law_tables_here", "_law_texts"] (spLState C)) (D_Ltables : Def P w K mg base 3 "_law_tables" ["_law_cell_here"] spLTables)
    (D_Lcommit : Def P w K mg base 12 "_law_commit" ["_law_book", "_law_state_here", "_law_parents", "_law_message", "_law_texts"] (spLCommit C)) :
    FnOk P w K mg base CX0 16 f fd ["_law_book", "_law_script", "_law_first", "_law_count", "_law_texts"] (spLHistory K C) := by
  refine F.ok sc_Lhistory (fun vs H Q E h => ?_) (fun cdv A outer s H vs Q E hr h => ?_)
  · obtain ⟨bk, nd, td, l, ts, kvs, ns, fs, n, rfl, _⟩ := h
    rfl
  · obtain ⟨bk, nd, td, l, ts, kvs, ns, fs, n, rfl, W, hl, hn, hts, hkv, q⟩ := h
    have hu := hu_of hr
    refine ⟨_, (pss_cons (ps_set (i := 5) sc_Lhistory.nd rfl (Or.inl rfl) (pe_lst (pa_cons (D_Lcommit.call hr (by omega) (pa_cons (pv 0) (pa_cons (D_Lstate.call hr (by omega) (pa_cons (pv 0) (pa_cons (pe_lst pa_nil) (pa_cons (pv 4) pa_nil)))) (pa_cons (pe_lst pa_nil) (pa_cons pe_str (pa_cons (pv 4) pa_nil)))))) pa_nil)))
      (pss_cons (ps_for PassesOwn.never rfl (pi_range1 (by rfl) B.range (pa_cons (pv 3) pa_nil)) (pg_name (i := 6) sc_Lhistory.nd rfl (Or.inl rfl))
        (pss_cons (ps_set (i := 7) sc_Lhistory.nd rfl (Or.inl rfl) (D_Lcell.call hr (by omega) (pa_cons (pv 1) (pa_cons (pe_op op_add (pv 2) (pv 6)) pa_nil))))
        (pss_cons (ps_set (i := 8) sc_Lhistory.nd rfl (Or.inl rfl) (D_Lnumbers.call hr (by omega) (pa_cons (pe_op op_fdiv (pv 7) pe_int) (pa_cons pe_int pa_nil))))
        (pss_cons (ps_set (i := 9) sc_Lhistory.nd rfl (Or.inl rfl) (pe_lst (pa_cons (pe_ix ix_list (pv 5) (pe_op op_sub (pe_un un_neg pe_int) (pe_op op_mod (pe_ix ix_list (pv 8) pe_int (fun _ _ => rfl)) (pe_callB (call_min2 rfl) (by rfl) B.min (by decide +kernel) (pa_cons (pe_callB call_len_seq (by rfl) B.len (by decide +kernel) (pa_cons (pv 5) pa_nil)) (pa_cons pe_int pa_nil))))) (fun _ _ => rfl)) pa_nil)))
        (pss_cons (ps_set (i := 10) sc_Lhistory.nd rfl (Or.inl rfl) (pe_ix ix_list (pv 5) (pe_op op_mod (pe_ix ix_list (pv 8) pe_int (fun _ _ => rfl)) (pe_callB call_len_seq (by rfl) B.len (by decide +kernel) (pa_cons (pv 5) pa_nil))) (fun _ _ => rfl)))
        (C8.pss_cut (ps_if (PW.pt (pw_and (pt_cmpR op_eq (pe_op op_mod (pe_ix ix_list (pv 8) pe_int (fun _ _ => rfl)) pe_int) pe_int (nomark _)) (pw_and1 (pt_cmpR op_ne (pv 10) (pe_ix ix_list (pv 9) pe_int (fun _ _ => rfl)) (nomark _)))))
          (pss_one (ps_expr (pe_bm PySem.F.plainAttrs_list PySem.F.slot_list_append PySem.F.type_list_append mt_append (pv 9) (pa_cons (pv 10) pa_nil))))
          pss_nil)
        (pss_cons (ps_set (i := 11) sc_Lhistory.nd rfl (Or.inl rfl) (D_Lstate.call hr (by omega) (pa_cons (pv 0) (pa_cons (D_Ltables.call hr (by omega) (pa_cons (pv 7) pa_nil)) (pa_cons (pv 4) pa_nil)))))
        (pss_one (ps_expr (pe_bm PySem.F.plainAttrs_list PySem.F.slot_list_append PySem.F.type_list_append mt_append (pv 5) (pa_cons (D_Lcommit.call hr (by omega) (pa_cons (pv 0) (pa_cons (pv 11) (pa_cons (pv 9) (pa_cons (pe_op op_add_str pe_str (pe_callTy call_str_int (by rfl) B.str (by decide +kernel) (pa_cons (pv 6) pa_nil))) (pa_cons (pv 4) pa_nil)))))) pa_nil)))))))))))
      (pss_one (ps_ret (pv 5))))), ?_⟩
    refine ⟨_, rfl, _, rfl, (by show 0 ≤ sizeLine; decide), fun e1 he1 => ⟨_, rfl, ?_⟩⟩
    have S1 := (Stp.refl W).same (same_new he1 (.lst []))
    refine ⟨bk, nd, td, e1, ts, kvs, [], rfl, S1.w, upd_same, fun y h => absurd h List.not_mem_nil, Nat.zero_le _, by omega, by omega, fun a H1 ts1 kvs1 Sa ka => ?_⟩
    have S2 := S1.trans Sa
    have g2t := S2.g.tl
    have g2k := S2.g.kl
    refine ⟨(by show 0 ≤ sizeLine; decide), fun e2 he2 => ⟨_, rfl, ?_⟩⟩
    have S3 := S2.same (same_new he2 (.lst []))
    refine ⟨bk, nd, td, e2, ts1, kvs1, a, [], "", rfl, S3.w, upd_same, ka, fun y h => absurd h List.not_mem_nil, Nat.zero_le _, (by rw [emptyText]; decide), by omega, by omega, fun b H2 ts2 kvs2 Sb kb => ?_⟩
    have S4 := S3.trans Sb
    refine ⟨(by show 1 ≤ sizeLine; decide), fun cl hcl => ?_⟩
    have S5 := S4.same (same_new hcl (.lst [.int b]))
    have fcl := S4.free hcl
    refine ⟨_, rfl, _, rfl, by omega, by omega, ?_⟩
    rw [Int.toNat_natCast]
    refine for_range (lo := 0) (n := n) (fun i σ H' => ∃ (ts' : List Str) (kvs' : List (Key × V)) (cs : List Int) (v6 v7 v8 v9 v10 v11 : Option V), σ = [some (.ref bk), some (.ref l), some (.int (fs : Int)), some (.int (n : Int)), some (.ref td), some (.ref cl), v6, v7, v8, v9, v10, v11] ∧
        Stp C bk nd td ((i + 1) * 149) H ts kvs H' ts' kvs' ∧ H' cl = some (.lst (cs.map V.int)) ∧ ¬ Below H' kvs' cl ∧ cs.length = i + 1 ∧ ∀ c ∈ cs, isKey kvs' c)
      ⟨ts2, kvs2, [b], none, none, none, none, none, none, rfl, S5.le (by omega), upd_same, fun z => Below.no S4.w hcl (z.back S4.w fun b xs e => same_new hcl _ b _ e), rfl, fun c hc => by rw [List.mem_singleton.mp hc]; exact kb⟩ ?_ ?_
    · rintro i σ H3 hi ⟨ts3, kvs3, cs, v6, v7, v8, v9, v10, v11, rfl, S, ecl, bcl, hlen, hks⟩
      have st := S.g.tl
      have sk := S.g.kl
      have ncl : ¬ BT nd td cl := by
        rintro (z | z)
        · exact ne_of ecl S.w.book.dc (by intro z; cases z) z
        · exact ne_of ecl S.w.tex (by intro z; cases z) z
      have el := SqL.kp hl S.k W.book.dc W.tex
      refine ⟨_, rfl, _, rfl, _, rfl, _, _, rfl, rfl, ?_⟩
      refine ⟨l, ns, fs + i, (by show [V.ref l, V.int ((fs : Int) + (0 + (i : Int)))] = _; rw [show ((fs : Int)) + (0 + (i : Int)) = ((fs + i : Nat) : Int) by omega]), el, fun z => ?_⟩
      refine ⟨_, rfl, _, _, rfl, rfl, ⟨by decide, by decide⟩, _, 4, rfl, by omega, fun np ns' H4 s4 fnp enp ln hns => ?_⟩
      have at_ : ∀ j : Nat, j < 4 → ∃ x, atI (ns'.map V.int) (j : Int) = some (.int x) ∧ 0 ≤ x ∧ x < 1000 := fun j hj => by
        obtain ⟨x, h1, h2⟩ := atN (ns := ns') (j := j) rfl (by omega)
        exact ⟨x, h1, hns x h2⟩
      obtain ⟨x0, a0, b0⟩ := at_ 0 (by decide)
      obtain ⟨x1, a1, b1⟩ := at_ 1 (by decide)
      obtain ⟨x2, a2, b2⟩ := at_ 2 (by decide)
      have T4 := S.same s4
      have ecl4 := s4 _ _ ecl
      have hlcs : (cs.map V.int).length = i + 1 := by rw [List.length_map, hlen]
      refine ⟨_, rfl, _, rfl, _, rfl, np, _, _, _, rfl, rfl, SqL.of enp, a0, _, rfl, cl, _, rfl, .inl (SqL.of ecl4), _, _, rfl, ?_⟩
      generalize hm : (if (3 : Int) < ((cs.map V.int).length : Int) then (3 : Int) else ((cs.map V.int).length : Int)) = m
      have hm1 : 1 ≤ m ∧ m ≤ cs.length := by
        rw [hlcs] at hm
        rw [hlen]
        split at hm <;> omega
      have r0 := Int.emod_nonneg x0 (show m ≠ 0 by omega)
      have r1 := Int.emod_lt_of_pos x0 (show 0 < m by omega)
      obtain ⟨pa, ap, mp⟩ := atR (cs := cs) (i := -1 - x0 % m) (by omega) (by omega)
      refine ⟨_, _, rfl, rfl, (by omega), _, _, rfl, rfl, cl, _, _, _, rfl, rfl, SqL.of ecl4, ap, (by show 1 ≤ sizeLine; decide), fun pl hpl => ?_⟩
      have T5 := T4.same (same_new hpl (.lst [.int pa]))
      have ecl5 := same_new hpl (.lst [.int pa]) _ _ ecl4
      have enp5 := same_new hpl (.lst [.int pa]) _ _ enp
      have epl : (upd H4 pl (.lst [.int pa])) pl = some (.lst [.int pa]) := upd_same
      have s45 : Same H4 (upd H4 pl (.lst [.int pa])) := same_new hpl _
      have s35 : Same H3 (upd H4 pl (.lst [.int pa])) := s4.trans (same_new hpl _)
      generalize upd H4 pl (.lst [.int pa]) = H5 at T5 ecl5 enp5 epl s45 s35 ⊢
      have w0 := Int.emod_nonneg x1 (show (((cs.map V.int).length : Nat) : Int) ≠ 0 by omega)
      have w1 := Int.emod_lt_of_pos x1 (show (0 : Int) < (((cs.map V.int).length : Nat) : Int) by omega)
      obtain ⟨ot, ao, mo⟩ := atR (cs := cs) (i := x1 % (((cs.map V.int).length : Nat) : Int)) (by omega) (by omega)
      refine ⟨_, rfl, _, rfl, np, _, _, _, rfl, rfl, SqL.of enp5, a1, _, rfl, cl, _, rfl, .inl (SqL.of ecl5), _, _, rfl, rfl, (by omega), cl, _, _, _, rfl, rfl, SqL.of ecl5, ao, ?_⟩
      refine ⟨fun σ' H' => ∃ (ps : List Int) (H6 : Hp), H' = H6 ∧ σ' = [some (.ref bk), some (.ref l), some (.int (fs : Int)), some (.int (n : Int)), some (.ref td), some (.ref cl), some (.int (0 + (i : Int))), some (.int z), some (.ref np), some (.ref pl), some (.int ot), v11] ∧ Stp C bk nd td ((i + 1) * 149) H ts kvs H6 ts3 kvs3 ∧ H6 cl = some (.lst (cs.map V.int)) ∧ ¬ Below H6 kvs3 cl ∧
          H6 pl = some (.lst (ps.map V.int)) ∧ ps.length ≤ 7 ∧ ∀ p ∈ ps, isKey kvs3 p, ?_, ?_⟩
      · have bcl5 : ¬ Below H5 kvs3 cl := fun y => bcl (y.back S.w fun b xs e => s35 b _ e)
        have npc : pl ≠ cl := (ne_of_none (s4 _ _ ecl) hpl).symm
        have fpl : H pl = none := T4.free hpl
        have npb : ¬ Below H5 kvs3 pl := fun y => Below.no T4.w hpl (y.back T4.w fun b xs e => s45 b _ e)
        refine ⟨_, rfl, np, _, _, _, rfl, rfl, SqL.of enp5, a2, _, _, rfl, rfl, (by show (0 : Int) < 3; decide), rfl, _, rfl, ?_⟩
        have keep : ∀ v, v = [some (.ref bk), some (.ref l), some (.int (fs : Int)), some (.int (n : Int)), some (.ref td), some (.ref cl), some (.int (0 + (i : Int))), some (.int z), some (.ref np), some (.ref pl), some (.int ot), v11] → ∃ (ps : List Int) (H6 : Hp), H5 = H6 ∧ v = [some (.ref bk), some (.ref l), some (.int (fs : Int)), some (.int (n : Int)), some (.ref td), some (.ref cl), some (.int (0 + (i : Int))), some (.int z), some (.ref np), some (.ref pl), some (.int ot), v11] ∧ Stp C bk nd td ((i + 1) * 149) H ts kvs H6 ts3 kvs3 ∧ H6 cl = some (.lst (cs.map V.int)) ∧ ¬ Below H6 kvs3 cl ∧
          H6 pl = some (.lst (ps.map V.int)) ∧ ps.length ≤ 7 ∧ ∀ p ∈ ps, isKey kvs3 p := fun v hv => ⟨[pa], H5, rfl, hv, T5, ecl5, bcl5, epl, (by show 1 ≤ 7; decide), fun p hp => by rw [List.mem_singleton.mp hp]; exact hks pa mp⟩
        refine ite2 (fun _ => ?_) (fun _ => keep _ rfl)
        refine ⟨_, rfl, _, rfl, pl, _, _, _, rfl, rfl, SqL.of epl, (rfl : atI [V.int pa] 0 = some (V.int pa)), rfl, _, rfl, ?_⟩
        refine ite2 (fun _ => ?_) (fun _ => keep _ rfl)
        refine ⟨_, rfl, .inl ⟨rfl, _, SqL.of epl⟩, _, rfl, pl, _, _, rfl, rfl, epl, (by show 1 < sizeLine; exact szlt (by decide)), ?_⟩
        refine ⟨[pa, ot], _, rfl, rfl, T5.lset fpl epl npb, ?_, fun y => bcl5 (y.back T5.w (tup_lset epl)), upd_same, (by show 2 ≤ 7; decide), fun p hp => ?_⟩
        · rw [upd_ne npc.symm]
          exact ecl5
        · rcases List.mem_cons.mp hp with e | e
          · rw [e]
            exact hks pa mp
          · rw [List.mem_singleton.mp e]
            exact hks ot mo
      · rintro σ' H' ⟨ps, H6, rfl, rfl, T6, ecl6, bcl6, epl6, hps, kps⟩
        have t6 := T6.g.tl
        have k6 := T6.g.kl
        refine ⟨_, rfl, _, rfl, _, rfl, fun tbl H7 ys s7 ftbl etbl hT hys => ⟨_, rfl, ?_⟩⟩
        have T7 := T6.same s7
        refine ⟨bk, nd, td, tbl, ts3, kvs3, ys, rfl, T7.w, etbl, hT, hys, by omega, by omega, fun a8 H8 ts8 kvs8 U8 ka8 => ?_⟩
        have T8 := T7.trans U8
        have t8 := T8.g.tl
        have k8 := T8.g.kl
        have epl7 := s7 _ _ epl6
        have npl : ¬ BT nd td pl := by
          rintro (z | z)
          · exact ne_of epl6 T6.w.book.dc (by intro z; cases z) z
          · exact ne_of epl6 T6.w.tex (by intro z; cases z) z
        have epl8 := U8.k.old _ _ epl7 npl
        have ecl7 := s7 _ _ ecl6
        have ecl8 := U8.k.old _ _ ecl7 ncl
        have bcl7 : ¬ Below H7 kvs3 cl := fun z => bcl6 (z.back T6.w fun b xs e => s7 b _ e)
        have bcl8 := U8.nb ecl7 bcl7
        refine ⟨_, rfl, .inl ⟨rfl, _, SqL.of ecl8⟩, _, rfl, _, rfl, _, rfl, _, rfl, _, rfl, ?_, ?_⟩
        · exact Nat.lt_of_le_of_lt (Nat.log2_le_self _) (by omega)
        have hst : (Str.ofString (toString (0 + (i : Int)))).length ≤ 3 := by
          rw [len_tl, tl_int]
          exact numI_le (by decide) (by omega) (by omega)
        have hml : (("m" : String) : Str).length = 1 := by decide +kernel
        refine ⟨_, _, rfl, rfl, sz (by omega), _, rfl, ?_⟩
        refine ⟨bk, nd, td, pl, ts8, kvs8, a8, ps, _, rfl, T8.w, epl8, ka8, fun p hp => U8.g.key p (kps p hp), hps, (by rw [Str.length_append]; omega), by omega, by omega, fun a9 H9 ts9 kvs9 U9 ka9 => ?_⟩
        have T9 := T8.trans U9
        have ecl9 := U9.k.old _ _ ecl8 ncl
        have bcl9 := U9.nb ecl8 bcl8
        refine ⟨cl, cs.map V.int, _, rfl, rfl, ecl9, (by rw [hlcs]; exact szlt (by omega)), ?_⟩
        refine ⟨ts9, kvs9, cs ++ [a9], _, _, _, _, _, _, rfl, (T9.lset fcl ecl9 bcl9).le (by omega), ?_, fun y => bcl9 (y.back T9.w (tup_lset ecl9)), by simp [hlen], fun c hc => ?_⟩
        · rw [upd_same, List.map_append]
          rfl
        · rcases List.mem_append.mp hc with y | y
          · exact U9.g.key c (U8.g.key c (hks c y))
          · rw [List.mem_singleton.mp y]
            exact ka9
    · rintro σ H3 ⟨ts3, kvs3, cs, v6, v7, v8, v9, v10, v11, rfl, S, ecl, bcl, hlen, hks⟩
      exact ⟨_, rfl, q cl H3 ts3 kvs3 cs S fcl ecl bcl hlen hks⟩
end
end My
set_option Elab.async false
set_option linter.all false
set_option maxRecDepth 100000
set_option maxHeartbeats 4000000
/-! Plain law: single steps of the search; the law's texts as a library of chunks. -/
namespace My
open PySem L2 TL
def mem (l : List Int) : Int → Bool := fun a => decide (a ∈ l)
section
variable {held kept : Int → Bool} {ch : Int → List Int} {wd sn w U tips : List Int} {a : Int}
theorem dstep_skip (h : a ∈ sn ∨ held a = true) : dstep held kept ch ⟨wd, sn, w ++ [a]⟩ = ⟨wd, sn, w⟩ := by
  unfold dstep
  simp only [List.getLast?_append, List.getLast?_singleton, Option.some_or, List.dropLast_concat]
  rw [if_pos (by rcases h with h | h <;> simp [h])]
theorem dstep_kept (h1 : a ∉ sn) (h2 : held a = false) (h3 : kept a = true) : dstep held kept ch ⟨wd, sn, w ++ [a]⟩ = ⟨wd, sn ++ [a], w ++ ch a⟩ := by
  unfold dstep
  simp only [List.getLast?_append, List.getLast?_singleton, Option.some_or, List.dropLast_concat]
  rw [if_neg (by simp [h1, h2]), if_pos h3]
theorem dstep_want (h1 : a ∉ sn) (h2 : held a = false) (h3 : kept a = false) : dstep held kept ch ⟨wd, sn, w ++ [a]⟩ = ⟨wd ++ [a], sn ++ [a], w⟩ := by
  unfold dstep
  simp only [List.getLast?_append, List.getLast?_singleton, Option.some_or, List.dropLast_concat]
  rw [if_neg (by simp [h1, h2]), if_neg (by simp [h3])]
theorem dstep_sn (s : Dfs) : (dstep held kept ch s).sn.length ≤ s.sn.length + 1 := by
  unfold dstep
  split
  · omega
  · split
    · show s.sn.length ≤ _
      omega
    · split
      · show (s.sn ++ _).length ≤ _
        rw [List.length_append]
        exact Nat.le_refl _
      · show (s.sn ++ _).length ≤ _
        rw [List.length_append]
        exact Nat.le_refl _
/-- what holds behind n steps -/
structure Run (held kept : Int → Bool) (ch : Int → List Int) (U tips : List Int) (s : Dfs) : Prop where
  it : ∃ n, s = dfs held kept ch n (start tips)
  ok : In kept ch U s
  bd : s.sn.length + pot ch U s ≤ pot ch U (start tips)
theorem run_start (h : In kept ch U (start tips)) : Run held kept ch U tips (start tips) := ⟨⟨0, rfl⟩, h, by show 0 + _ ≤ _; omega⟩
theorem run_step {s : Dfs} (R : Run held kept ch U tips s) (hn : s.wt ≠ []) : Run held kept ch U tips (dstep held kept ch s) := by
  obtain ⟨⟨n, e⟩, ok, bd⟩ := R
  refine ⟨⟨n + 1, by rw [dfs_succ, ← e]⟩, dstep_in ok, ?_⟩
  have := dstep_pot (held := held) ok hn
  have := dstep_sn (held := held) (kept := kept) (ch := ch) s
  omega
theorem Run.sound {s : Dfs} (R : Run held kept ch U tips s) : Sound held kept ch tips s := by
  obtain ⟨⟨n, e⟩, _⟩ := R
  rw [e]
  exact sound_dfs n (sound_start tips)
theorem Run.sizes {s : Dfs} (R : Run held kept ch U tips s) : s.wt.length + s.sn.length ≤ pot ch U (start tips) ∧ s.wd.length ≤ s.sn.length := by
  have := R.bd
  have S := R.sound
  unfold pot at this
  exact ⟨by unfold pot; omega, nodup_sub_len S.wd S.sub⟩
theorem Run.fin {s : Dfs} (R : Run held kept ch U tips s) (h : s.wt = []) (hi : In kept ch U (start tips)) : s = My.fin held kept ch U tips := by
  obtain ⟨⟨n, e⟩, _⟩ := R
  have e1 : dfs held kept ch (n + pot ch U (start tips)) (start tips) = s := by
    rw [dfs_add, ← e]
    exact dfs_nil h _
  rw [← e1]
  exact dfs_same hi (Nat.le_add_left _ _) (Nat.le_refl _)
end
end My
set_option Elab.async false
set_option linter.all false
set_option maxRecDepth 100000
set_option maxHeartbeats 8000000
/-! The walk of the class Fetch. -/
namespace My
open PySem L2 TL
def fF (cc tl kd : Addr) : List (Str × V) := [("chunks", .ref cc), ("tips", .ref tl), ("kept", .ref kd)]
section
variable {cc tl kd : Addr}
theorem fF_chunks : (fF cc tl kd).lookup ("chunks" : Str) = some (.ref cc) := lk_here
theorem fF_tips : (fF cc tl kd).lookup ("tips" : Str) = some (.ref tl) := (lk_past (by decide +kernel)).trans lk_here
theorem fF_kept : (fF cc tl kd).lookup ("kept" : Str) = some (.ref kd) := (lk_past (by decide +kernel)).trans ((lk_past (by decide +kernel)).trans lk_here)
theorem fF_no {m : Str} (h1 : (m == ("chunks" : Str)) = false) (h2 : (m == ("tips" : Str)) = false) (h3 : (m == ("kept" : Str)) = false) : (fF cc tl kd).lookup m = none :=
  (lk_past h1).trans ((lk_past h2).trans ((lk_past h3).trans rfl))
theorem fF_new : putF "kept" (.ref kd) (putF "tips" (.ref tl) (putF "chunks" (.ref cc) [])) = fF cc tl kd := by
  show putF "kept" (.ref kd) (putF "tips" (.ref tl) [("chunks", .ref cc)]) = _
  rw [put_past (by decide +kernel)]
  show putF "kept" (.ref kd) [("chunks", .ref cc), ("tips", .ref tl)] = _
  rw [put_past (by decide +kernel), put_past (by decide +kernel)]
  rfl
end
structure TFetch (K : PySem.W.Frag) (C : Addr) : Prop where
  cl : Cls K C
  nC : NoAttr K C "chunks"
  nT : NoAttr K C "tips"
  nK : NoAttr K C "kept"
structure FeAt (C : Addr) (H : Hp) (fe cc tl kd : Addr) (ts : List Str) (tips ks : List Int) : Prop where
  ob : ∃ dx, H fe = some (.ins C dx (fF cc tl kd))
  tp : H tl = some (.lst (tips.map V.int))
  dc : H kd = some (.dK (mapd (fun a => .str (tOf ts a)) ks))
  nodup : ks.Nodup
theorem FeAt.same {C : Addr} {H H' : Hp} {fe cc tl kd : Addr} {ts : List Str} {tips ks : List Int} (F : FeAt C H fe cc tl kd ts tips ks) (s : Same H H') : FeAt C H' fe cc tl kd ts tips ks := by
  obtain ⟨⟨dx, h⟩, a, b, n⟩ := F
  exact ⟨⟨dx, s _ _ h⟩, s _ _ a, s _ _ b, n⟩
theorem ChAt.same {C : Addr} {H H' : Hp} {cc bk cd : Addr} {ts : List Str} {as : List Int} (F : ChAt C H cc bk cd ts as) (s : Same H H') : ChAt C H' cc bk cd ts as := by
  obtain ⟨⟨dx, r, h⟩, a, b, n⟩ := F
  exact ⟨⟨dx, r, s _ _ h⟩, s _ _ a, b, n⟩
theorem BookAt.same {C : Addr} {H H' : Hp} {bk nd : Addr} {ts : List Str} (F : BookAt C H bk nd ts) (s : Same H H') : BookAt C H' bk nd ts := by
  obtain ⟨⟨dx, h⟩, a, n⟩ := F
  exact ⟨⟨dx, s _ _ h⟩, s _ _ a, n⟩
def spFeInit (C : Addr) : Sp := fun vs H Q _ => ∃ (p dx cc tl : Addr) (tips : List Int), vs = [.ref p, .ref cc, .ref tl] ∧ H p = some (.ins C dx []) ∧ H tl = some (.lst (tips.map V.int)) ∧
  ∀ tl' kd H', H tl' = none → H kd = none → tl' ≠ p → kd ≠ p → tl' ≠ kd → (∀ ts, FeAt C H' p cc tl' kd ts tips []) → (∀ b o, H b = some o → b ≠ p → H' b = some o) → Q .non H'
/-- the kept texts are chunks -/
def KeptOk (ts : List Str) (ch : Int → List Int) (ks : List Int) : Prop := ∀ a ∈ ks, ∃ d, tOf ts a = tx d.enc ∧ Kd d (ch a)
def spFeWants (CF CC : Addr) : Sp := fun vs H Q _ => ∃ (fe cc tl kd bk cd : Addr) (ts : List Str) (tips ks as U : List Int) (ch : Int → List Int), vs = [.ref fe] ∧ FeAt CF H fe cc tl kd ts tips ks ∧ ChAt CC H cc bk cd ts as ∧
  In (mem ks) ch U (start tips) ∧ KeptOk ts ch ks ∧ pot ch U (start tips) ≤ 100000 ∧
  ∀ p H', Same H H' → H p = none → H' p = some (.lst ((srt (fin (mem as) (mem ks) ch U tips).wd).map V.int)) → Q (.ref p) H'
section
variable {P : Program} {w : World} {K : PySem.W.Frag} {mg : Str → Option Value} {base : Heap} {f CF CC CB C : Addr} {fd : FuncData}
theorem ok_fe_init (F : Fun K "__init__" "Fetch.__init__" s_Fetch_init f fd) (B : Bl mg) (T : TFetch K C) : FnOk P w K mg base CX0 1 f fd ["self", "chunks", "tips"] (spFeInit C) := by
  refine F.ok sc_Fetch_init (fun vs H Q E h => ?_) (fun cdv A outer s H vs Q E hr h => ?_)
  · obtain ⟨p, dx, cc, tl', tips, rfl, _⟩ := h
    rfl
  · obtain ⟨p, dx, cc, tl', tips, rfl, hp, ht, k⟩ := h
    refine ⟨_, (pss_cons (ps_fld (pv 0) (pv 1) rfl)
      (pss_cons (ps_fld (pv 0) (pe_callTy call_list_of (by rfl) B.list (by decide +kernel) (pa_cons (pv 2) pa_nil)) rfl)
      (pss_one (ps_fld (pv 0) pe_dnewK rfl)))), ?_⟩
    have npt : tl' ≠ p := ne_of ht hp (by intro z; cases z)
    refine ⟨_, rfl, _, rfl, p, C, dx, [], rfl, hp, T.cl, T.nC, (by show 0 < 1000; decide), ?_⟩
    refine ⟨_, rfl, tl', _, rfl, .inl (SqL.of (by rw [upd_ne npt]; exact ht)), fun l hl => ?_⟩
    have npl : p ≠ l := ne_of_none upd_same hl
    have hl0 : H l = none := by rw [upd_ne npl.symm] at hl; exact hl
    refine ⟨_, rfl, p, C, dx, _, rfl, (by rw [upd_ne npl, upd_same]), T.cl, T.nT, (by show 1 < 1000; decide), ?_⟩
    intro d hd
    have npd : p ≠ d := ne_of_none upd_same hd
    have nld : l ≠ d := ne_of_none (show _ = some (HO.lst (tips.map V.int)) by rw [upd_ne npl.symm, upd_same]) hd
    have hd0 : H d = none := by
      rw [upd_ne npd.symm, upd_ne nld.symm, upd_ne npd.symm] at hd
      exact hd
    refine ⟨_, rfl, p, C, dx, _, rfl, (by rw [upd_ne npd, upd_same]), T.cl, T.nK, ?_, ?_⟩
    · show (putF "tips" (V.ref l) [("chunks", V.ref cc)]).length < 1000
      rw [put_past (by decide +kernel)]
      show 2 < 1000
      decide
    rw [fF_new]
    refine k l d _ hl0 hd0 npl.symm npd.symm nld (fun ts => ⟨⟨dx, upd_same⟩, ?_, by rw [upd_ne npd.symm, upd_same]; rfl, List.nodup_nil⟩) fun b o e hb => ?_
    · rw [upd_ne npl.symm, upd_ne nld, upd_ne npl.symm, upd_same]
    · rw [upd_ne hb, upd_ne (ne_of_none e hd0), upd_ne hb, upd_ne (ne_of_none e hl0), upd_ne hb]
      exact e
theorem ok_fe_wants (F : Fun K "wants" "Fetch.wants" s_Fetch_wants f fd) (B : Bl mg) (T : TFetch K CF) (M_Chunks_has : MDef P w K mg base 1 CC "has" ["self", "address"] (spHas CC)) (D_children : Def P w K mg base 20 "children" ["text"] spChildren) :
    FnOk P w K mg base CX0 21 f fd ["self"] (spFeWants CF CC) := by
  refine F.ok sc_Fetch_wants (fun vs H Q E h => ?_) (fun cdv A outer s H vs Q E hr h => ?_)
  · obtain ⟨fe, cc, tl', kd, bk, cd, ts, tips, ks, as, U, ch, rfl, _⟩ := h
    rfl
  · obtain ⟨fe, cc, tl', kd, bk, cd, ts, tips, ks, as, U, ch, rfl, SF, SC, hI, hK, hpot, q⟩ := h
    have hu := hu_of hr
    refine ⟨_, (pss_cons (ps_set (i := 1) sc_Fetch_wants.nd rfl (Or.inl rfl) (pe_lst pa_nil))
      (pss_cons (ps_set (i := 2) sc_Fetch_wants.nd rfl (Or.inl rfl) pe_dnewK)
      (pss_cons (ps_set (i := 3) sc_Fetch_wants.nd rfl (Or.inl rfl) (pe_callTy call_list_of (by rfl) B.list (by decide +kernel) (pa_cons (pe_fld (pv 0) rfl) pa_nil)))
      (pss_cons (ps_while PassesOwn.never (pt_truth (pv 3) (by intro _; rfl))
        (pss_cons (ps_set (i := 4) sc_Fetch_wants.nd rfl (Or.inl rfl) (pe_bm0 PySem.F.plainAttrs_list PySem.F.slot_list_pop PySem.F.type_list_pop mt_pop (pv 3)))
        (pss_cons (ps_if (PW.pt (pw_or (pt_cmp (pc_din hu (pv 4) (pv 2))) (pw_or1 (pt_val (M_Chunks_has.call hr (by omega) (pe_fld (pv 0) rfl) (pa_cons (pv 4) pa_nil))))))
          (pss_one ps_continue)
          pss_nil)
        (pss_cons (ps_dput hu (pv 2) (pv 4) pe_bl rfl)
        (pss_one (ps_if (pt_cmp (pc_din hu (pv 4) (pe_fld (pv 0) rfl)))
          (pss_one (ps_expr (pe_bm PySem.F.plainAttrs_list PySem.F.slot_list_extend PySem.F.type_list_extend mt_extend (pv 3) (pa_cons (D_children.call hr (by omega) (pa_cons (pe_dget hu (pe_fld (pv 0) rfl) (pv 4) (fun _ _ => rfl)) pa_nil)) pa_nil))))
          (pss_one (ps_expr (pe_bm PySem.F.plainAttrs_list PySem.F.slot_list_append PySem.F.type_list_append mt_append (pv 1) (pa_cons (pv 4) pa_nil))))))))))
      (pss_one (ps_ret (pe_callB cr_sortedI (by rfl) B.sorted (by decide +kernel) (pa_cons (pv 1) pa_nil)))))))), ?_⟩
    obtain ⟨⟨dx, h1⟩, htp, hkd, hnd⟩ := id SF
    refine ⟨(by show 0 ≤ sizeLine; decide), fun wl hwl => ?_⟩
    intro sd hsd
    have s1 : Same H (upd (upd H wl (.lst [])) sd (.dK [])) := (same_new hwl _).trans (same_new hsd _)
    refine ⟨_, rfl, fe, CF, dx, _, _, rfl, s1 _ _ h1, T.cl, T.nT, fF_tips, tl', _, rfl, .inl (SqL.of (s1 _ _ htp)), fun wt hwt => ?_⟩
    have s2 := s1.trans (same_new hwt (.lst (tips.map V.int)))
    have nws : wl ≠ sd := ne_of_none upd_same hsd
    have ewl : (upd (upd (upd H wl (.lst [])) sd (.dK [])) wt (.lst (tips.map V.int))) wl = some (.lst []) := same_new hwt _ _ _ (same_new hsd _ _ _ upd_same)
    have esd : (upd (upd (upd H wl (.lst [])) sd (.dK [])) wt (.lst (tips.map V.int))) sd = some (.dK []) := same_new hwt _ _ _ upd_same
    have ewt : (upd (upd (upd H wl (.lst [])) sd (.dK [])) wt (.lst (tips.map V.int))) wt = some (.lst (tips.map V.int)) := upd_same
    have nwt : wl ≠ wt := ne_of_none (same_new hsd _ _ _ upd_same) hwt
    have fsd : H sd = none := by
      rw [upd_ne nws.symm] at hsd
      exact hsd
    have fwt : H wt = none := s1.free hwt
    have fwl0 : H wl = none := hwl
    generalize upd (upd (upd H wl (.lst [])) sd (.dK [])) wt (.lst (tips.map V.int)) = H2 at s2 ewl esd ewt ⊢
    refine ⟨fun m σ H' => ∃ (d : Dfs) (v : Option V), m = pot ch U d ∧ Run (mem as) (mem ks) ch U tips d ∧ σ = [some (.ref fe), some (.ref wl), some (.ref sd), some (.ref wt), v] ∧ Same H H' ∧ H' wl = some (.lst (d.wd.map V.int)) ∧ H' sd = some (.dK (mapd (fun _ => .bl true) d.sn)) ∧ H' wt = some (.lst (d.wt.map V.int)),
      ⟨_, start tips, none, rfl, run_start hI, rfl, s2, ewl, esd, ewt⟩, ?_⟩
    rintro m σ H' ⟨⟨wd, sn, ws⟩, v, rfl, R, rfl, s3, fwl, fse, fwt'⟩
    dsimp only at fwl fse fwt'
    have hz := R.sizes
    dsimp only at hz
    have nsw : sd ≠ wl := nws.symm
    have nst : sd ≠ wt := ne_of fse fwt' (by intro z; cases z)
    refine ⟨_, rfl, _, .inl ⟨_, SqL.of fwt', rfl⟩, ?_⟩
    rcases List.eq_nil_or_concat ws with rfl | ⟨w0, a, rfl⟩
    · -- the end
      refine if_f rfl ?_
      refine ⟨_, rfl, wl, wd, rfl, SqL.of fwl, fun ns' p2 hpm hs hp2 => ?_⟩
      rw [srt_of hpm hs]
      have e := R.fin rfl hI
      have e1 : wd = (fin (mem as) (mem ks) ch U tips).wd := congrArg Dfs.wd e
      rw [e1]
      refine q p2 _ (s3.trans (same_new hp2 _)) (s3.free hp2) upd_same
    · rw [List.concat_eq_append] at *
      have R' := run_step R (by show w0 ++ [a] ≠ []; simp)
      have hp' := dstep_pot (held := mem as) R.ok (by show w0 ++ [a] ≠ []; simp)
      have hwz : (w0 ++ [a]).length = w0.length + 1 := by simp
      refine if_t (by simp) ?_
      refine ⟨fun σ' H'' => ∃ m', m' < pot ch U ⟨wd, sn, w0 ++ [a]⟩ ∧ ∃ (d : Dfs) (v : Option V), m' = pot ch U d ∧ Run (mem as) (mem ks) ch U tips d ∧ σ' = [some (.ref fe), some (.ref wl), some (.ref sd), some (.ref wt), v] ∧ Same H H'' ∧ H'' wl = some (.lst (d.wd.map V.int)) ∧ H'' sd = some (.dK (mapd (fun _ => .bl true) d.sn)) ∧ H'' wt = some (.lst (d.wt.map V.int)), fun _ _ h => h, ?_⟩
      refine ⟨_, rfl, .inl ⟨rfl, _, SqL.of fwt'⟩, wt, _, .int a, rfl, rfl, fwt', (by simp), ?_⟩
      have g3 : Same H (upd H' wt (.lst ((w0 ++ [a]).map V.int).dropLast)) := same_mut s3 fwt _
      have gwt : (upd H' wt (.lst ((w0 ++ [a]).map V.int).dropLast)) wt = some (.lst (w0.map V.int)) := by
        rw [upd_same, List.map_append]
        simp
      have gwl : (upd H' wt (.lst ((w0 ++ [a]).map V.int).dropLast)) wl = some (.lst (wd.map V.int)) := by
        rw [upd_ne nwt]
        exact fwl
      have gsd : (upd H' wt (.lst ((w0 ++ [a]).map V.int).dropLast)) sd = some (.dK (mapd (fun _ => .bl true) sn)) := by
        rw [upd_ne nst]
        exact fse
      generalize upd H' wt (.lst ((w0 ++ [a]).map V.int).dropLast) = H3 at g3 gwt gwl gsd ⊢
      have SF3 := SF.same g3
      have SC3 := SC.same g3
      obtain ⟨⟨dx3, i1⟩, i2, i3, i4⟩ := id SF3
      refine ⟨_, rfl, _, rfl, sd, _, rfl, DGet.k (k := Sum.inl a) gsd, _, rfl, ?_⟩
      rw [mapd_get]
      by_cases hsn : a ∈ sn
      · rw [if_pos hsn]
        refine if_t rfl ?_
        rw [dstep_skip (.inl hsn)] at R' hp'
        exact ⟨_, hp', _, _, rfl, R', rfl, g3, gwl, gsd, gwt⟩
      rw [if_neg hsn]
      refine if_f rfl ?_
      obtain ⟨⟨cx, cr, j1⟩, _⟩ := id SC3
      refine ⟨_, rfl, fe, CF, dx3, _, _, rfl, i1, T.cl, T.nC, fF_chunks, cc, cx, _, rfl, j1, cF_no (by decide +kernel) (by decide +kernel) (by decide +kernel), _, rfl, cc, bk, cd, ts, as, a, rfl, SC3, _, rfl, ?_⟩
      by_cases has : a ∈ as
      · rw [decide_eq_true has]
        refine if_t rfl ?_
        rw [dstep_skip (.inr (decide_eq_true has))] at R' hp'
        exact ⟨_, hp', _, _, rfl, R', rfl, g3, gwl, gsd, gwt⟩
      rw [decide_eq_false has]
      refine if_f rfl ?_
      refine ⟨_, rfl, _, rfl, sd, _, rfl, DPut.k (k := Sum.inl a) gsd (by rw [mapd_len]; exact szlt (by omega)), ?_⟩
      have eput : putK (mapd (fun _ => V.bl true) sn) (Sum.inl a : Key) (V.bl true) = mapd (fun _ => V.bl true) (sn ++ [a]) := by
        have := mapd_put (f := fun _ => V.bl true) (as := sn) a
        rw [this]
        unfold asAdd
        rw [if_neg hsn]
      rw [eput]
      have k3 : Same H (upd H3 sd (.dK (mapd (fun _ => V.bl true) (sn ++ [a])))) := same_mut g3 fsd _
      have kwt : (upd H3 sd (.dK (mapd (fun _ => V.bl true) (sn ++ [a])))) wt = some (.lst (w0.map V.int)) := by
        rw [upd_ne nst.symm]
        exact gwt
      have kwl : (upd H3 sd (.dK (mapd (fun _ => V.bl true) (sn ++ [a])))) wl = some (.lst (wd.map V.int)) := by
        rw [upd_ne nsw.symm]
        exact gwl
      have ksd : (upd H3 sd (.dK (mapd (fun _ => V.bl true) (sn ++ [a])))) sd = some (.dK (mapd (fun _ => V.bl true) (sn ++ [a]))) := upd_same
      generalize upd H3 sd (.dK (mapd (fun _ => V.bl true) (sn ++ [a]))) = H4 at k3 kwt kwl ksd ⊢
      have SF4 := SF.same k3
      obtain ⟨⟨dx4, l1⟩, l2, l3, l4⟩ := id SF4
      refine ⟨_, rfl, _, rfl, fe, CF, dx4, _, _, rfl, l1, T.cl, T.nK, fF_kept, kd, _, rfl, DGet.k (k := Sum.inl a) l3, _, rfl, ?_⟩
      rw [mapd_get]
      by_cases hks : a ∈ ks
      · rw [if_pos hks]
        refine if_t rfl ?_
        have g := DGet.k (k := Sum.inl a) l3
        rw [mapd_get, if_pos hks] at g
        refine ⟨_, rfl, .inl ⟨rfl, _, SqL.of kwt⟩, _, rfl, fe, CF, dx4, _, _, rfl, l1, T.cl, T.nK, fF_kept, _, rfl, kd, _, rfl, g, ?_⟩
        obtain ⟨d, e1, kdd⟩ := hK a hks
        refine ⟨d, ch a, (by rw [e1]; rfl), kdd.ch, (by have := kdd.len; omega), kdd.good, (by have := kdd.dep; omega), fun p H5 s5 fp ep => ?_⟩
        refine ⟨wt, p, _, _, rfl, rfl, s5 _ _ kwt, ep, (by rw [List.length_map, List.length_map]; have := kdd.few; exact sz (by omega)), ?_⟩
        rw [dstep_kept hsn (decide_eq_false has) (decide_eq_true hks)] at R' hp'
        refine ⟨_, hp', _, _, rfl, R', rfl, same_mut (k3.trans s5) fwt _, ?_, ?_, ?_⟩
        · rw [upd_ne nwt]
          exact s5 _ _ kwl
        · rw [upd_ne nst]
          exact s5 _ _ ksd
        · rw [upd_same]
          show _ = some (HO.lst ((w0 ++ ch a).map V.int))
          rw [List.map_append]
      · rw [if_neg hks]
        refine if_f rfl ?_
        refine ⟨_, rfl, .inl ⟨rfl, _, SqL.of kwl⟩, _, rfl, wl, _, _, rfl, rfl, kwl, (by rw [List.length_map]; exact szlt (by omega)), ?_⟩
        rw [dstep_want hsn (decide_eq_false has) (decide_eq_false hks)] at R' hp'
        refine ⟨_, hp', _, _, rfl, R', rfl, same_mut k3 fwl0 _, ?_, ?_, ?_⟩
        · rw [upd_same]
          show _ = some (HO.lst ((wd ++ [a]).map V.int))
          rw [List.map_append]
          rfl
        · rw [upd_ne nsw]
          exact ksd
        · rw [upd_ne nwt.symm]
          exact kwt
end
end My
set_option Elab.async false
set_option linter.all false
set_option maxRecDepth 100000
set_option maxHeartbeats 8000000
/-! The walk of Fetch.receive, Fetch.finish. -/
namespace My
open PySem L2 TL
theorem inV_int {a : Int} : ∀ {l : List Int}, inV (.int a) (l.map V.int) = decide (a ∈ l)
  | [] => by simp [inV]
  | b :: l => by
    have := inV_int (a := a) (l := l)
    unfold inV at this ⊢
    rw [List.map_cons, List.any_cons, this]
    show ((b == a) || _) = _
    by_cases h : b = a
    · subst h
      simp
    · have h' : ¬ a = b := fun z => h z.symm
      simp [h, h']
theorem flat_ints (l : List Int) : (l.map V.int).all flatV = true := by
  rw [List.all_eq_true]
  intro x hx
  obtain ⟨i, _, rfl⟩ := List.mem_map.mp hx
  rfl
def fnd (ts : List Str) (t : Str) : Int := if t ∈ ts then (adr ts t : Int) else 0
theorem fnd_eq {ts : List Str} {t : Str} {a : Int} (nd : ts.Nodup) (h : Adr ts a) : fnd ts t = a ↔ t = tOf ts a := by
  unfold fnd
  constructor
  · intro e
    by_cases hm : t ∈ ts
    · rw [if_pos hm] at e
      rw [← e, tOf_adr hm]
    · rw [if_neg hm] at e
      have := h.1
      omega
  · intro e
    rw [e, if_pos (tOf_mem h), adr_tOf nd h]
theorem bF_no {nd : Addr} {m : Str} (h : (m == ("numbers" : Str)) = false) : (bF nd).lookup m = none := (lk_past h).trans rfl
def spFeReceive (CF CC CB : Addr) : Sp := fun vs H Q _ => ∃ (fe cc tl kd bk nd cd : Addr) (ts : List Str) (tips ks as U : List Int) (ch : Int → List Int) (a : Int) (t : Str), vs = [.ref fe, .int a, .str t] ∧ FeAt CF H fe cc tl kd ts tips ks ∧ ChAt CC H cc bk cd ts as ∧ BookAt CB H bk nd ts ∧
  In (mem ks) ch U (start tips) ∧ KeptOk ts ch ks ∧ pot ch U (start tips) ≤ 100000 ∧ Adr ts a ∧ ks.length ≤ 100000 ∧
  (¬ (a ∈ (fin (mem as) (mem ks) ch U tips).wd ∧ t = tOf ts a) → ∀ H', Same H H' → Q (.bl false) H') ∧
  ((a ∈ (fin (mem as) (mem ks) ch U tips).wd ∧ t = tOf ts a) → ∀ H', FeAt CF H' fe cc tl kd ts tips (asAdd ks a) → Kp (· = kd) H H' → Q (.bl true) H')
def spFeFinish (CF CC CB : Addr) : Sp := fun vs H Q _ => ∃ (fe cc tl kd bk nd cd : Addr) (ts : List Str) (tips ks as U : List Int) (ch : Int → List Int), vs = [.ref fe] ∧ FeAt CF H fe cc tl kd ts tips ks ∧ ChAt CC H cc bk cd ts as ∧ BookAt CB H bk nd ts ∧
  In (mem ks) ch U (start tips) ∧ KeptOk ts ch ks ∧ pot ch U (start tips) ≤ 100000 ∧ (∀ a ∈ ks, Adr ts a) ∧ nd ≠ cd ∧ kd ≠ nd ∧ kd ≠ cd ∧ ts.length ≤ 500000 ∧ as.length + ks.length ≤ 400000 ∧
  ((fin (mem as) (mem ks) ch U tips).wd ≠ [] → ∀ H', Same H H' → Q (.bl false) H') ∧
  ((fin (mem as) (mem ks) ch U tips).wd = [] → ∀ H' as', BookAt CB H' bk nd ts → ChAt CC H' cc bk cd ts as' → (∀ x, x ∈ as' ↔ x ∈ as ∨ x ∈ ks) → Kp (fun b => b = nd ∨ b = cd) H H' → Q (.bl true) H')
section
variable {P : Program} {w : World} {K : PySem.W.Frag} {mg : Str → Option Value} {base : Heap} {f CF CC CB C : Addr} {fd : FuncData}
theorem ok_fe_receive (F : Fun K "receive" "Fetch.receive" s_Fetch_receive f fd) (B : Bl mg) (T : TFetch K CF) (TC : TChunks K CC) (M_Fetch_wants : MDef P w K mg base 21 CF "wants" ["self"] (spFeWants CF CC)) (M_Book_find : MDef P w K mg base 1 CB "find" ["self", "text"] (spBookFind CB)) :
    FnOk P w K mg base CX0 22 f fd ["self", "address", "text"] (spFeReceive CF CC CB) := by
  refine F.ok sc_Fetch_receive (fun vs H Q E h => ?_) (fun cdv A outer s H vs Q E hr h => ?_)
  · obtain ⟨fe, cc, tl', kd, bk, nd, cd, ts, tips, ks, as, U, ch, a, t, rfl, _⟩ := h
    rfl
  · obtain ⟨fe, cc, tl', kd, bk, nd, cd, ts, tips, ks, as, U, ch, a, t, rfl, SF, SC, SB, hI, hK, hpot, hA, hks, q0, q1⟩ := h
    have hu := hu_of hr
    refine ⟨_, (pss_cons (ps_if (PW.pt (pw_or (pt_cmpR op_notIn_seq (pv 1) (M_Fetch_wants.call0 hr (by omega) (pv 0)) (by with_unfolding_all rfl)) (pw_or1 (pt_cmpR op_ne (M_Book_find.call hr (by omega) (pe_fld (pe_fld (pv 0) rfl) rfl) (pa_cons (pv 2) pa_nil)) (pv 1) (nomark _)))))
        (pss_one (ps_ret pe_bl))
        pss_nil)
      (pss_cons (ps_dput hu (pe_fld (pv 0) rfl) (pv 1) (pv 2) rfl)
      (pss_one (ps_ret pe_bl)))), ?_⟩
    obtain ⟨⟨dx, h1⟩, htp, hkd, hnd⟩ := id SF
    refine ⟨_, rfl, _, rfl, fe, dx, _, rfl, h1, fF_no (by decide +kernel) (by decide +kernel) (by decide +kernel), ?_⟩
    refine ⟨fe, cc, tl', kd, bk, cd, ts, tips, ks, as, U, ch, rfl, SF, SC, hI, hK, hpot, fun p H1 s1 fp ep => ?_⟩
    refine ⟨p, _, rfl, .inl (SqL.of ep), rfl, flat_ints _, _, rfl, ?_⟩
    rw [inV_int]
    by_cases hm : a ∈ srt (fin (mem as) (mem ks) ch U tips).wd
    · rw [decide_eq_true hm]
      refine if_f rfl ?_
      have SF1 := SF.same s1
      have SC1 := SC.same s1
      have SB1 := SB.same s1
      obtain ⟨⟨dx1, i1⟩, i2, i3, i4⟩ := id SF1
      obtain ⟨⟨cx, cr, j1⟩, _⟩ := id SC1
      obtain ⟨⟨bx, b1⟩, b2, b3⟩ := id SB1
      refine ⟨_, rfl, fe, CF, dx1, _, _, rfl, i1, T.cl, T.nC, fF_chunks, cc, CC, cx, _, _, rfl, j1, TC.cl, TC.nB, cF_book, bk, bx, _, rfl, b1, bF_no (by decide +kernel), _, rfl, bk, nd, ts, t, rfl, SB1, _, rfl, rfl, _, rfl, ?_⟩
      have hx : (if t ∈ ts then ((adr ts t : Nat) : Int) else 0) = a ↔ t = tOf ts a := fnd_eq b3 hA
      by_cases ht : t = tOf ts a
      · refine if_f (by rw [hx.mpr ht]; simp) ?_
        subst ht
        refine ⟨_, rfl, _, rfl, fe, CF, dx1, _, _, rfl, i1, T.cl, T.nK, fF_kept, _, rfl, kd, _, rfl, DPut.k (k := Sum.inl a) i3 (by rw [mapd_len]; exact szlt (by omega)), ?_⟩
        have e1 := mapd_put (f := fun a => V.str (tOf ts a)) (as := ks) a
        rw [e1]
        have nfk : fe ≠ kd := ne_of i1 i3 (by intro z; cases z)
        have ntk : tl' ≠ kd := ne_of i2 i3 (by intro z; cases z)
        exact q1 ⟨mem_srt.mp hm, rfl⟩ _ ⟨⟨dx1, by rw [upd_ne nfk]; exact i1⟩, by rw [upd_ne ntk]; exact i2, upd_same, asAdd_nodup i4⟩ ((Kp.same s1).set rfl fun xs z => by rw [hkd] at z; cases z)
      · refine if_t (by
          have : ¬ (if t ∈ ts then ((adr ts t : Nat) : Int) else 0) = a := fun z => ht (hx.mp z)
          simp [this]) ?_
        exact q0 (fun z => ht z.2) _ s1
    · rw [decide_eq_false hm]
      refine if_t rfl ?_
      exact q0 (fun z => hm (mem_srt.mpr z.1)) _ s1
theorem ok_fe_finish (F : Fun K "finish" "Fetch.finish" s_Fetch_finish f fd) (B : Bl mg) (T : TFetch K CF) (TC : TChunks K CC) (M_Fetch_wants : MDef P w K mg base 21 CF "wants" ["self"] (spFeWants CF CC)) (M_Chunks_put : MDef P w K mg base 2 CC "put" ["self", "text"] (spPut CB CC)) :
    FnOk P w K mg base CX0 22 f fd ["self"] (spFeFinish CF CC CB) := by
  refine F.ok sc_Fetch_finish (fun vs H Q E h => ?_) (fun cdv A outer s H vs Q E hr h => ?_)
  · obtain ⟨fe, cc, tl', kd, bk, nd, cd, ts, tips, ks, as, U, ch, rfl, _⟩ := h
    rfl
  · obtain ⟨fe, cc, tl', kd, bk, nd, cd, ts, tips, ks, as, U, ch, rfl, SF, SC, SB, hI, hK, hpot, hA, hnc, hkn, hkc, hts, hsz, q0, q1⟩ := h
    have hu := hu_of hr
    refine ⟨_, (pss_cons (ps_if (pt_truth (M_Fetch_wants.call0 hr (by omega) (pv 0)) (by intro _; rfl))
        (pss_one (ps_ret pe_bl))
        pss_nil)
      (pss_cons (ps_lock (ps_for PassesOwn.never rfl (pi_keys (pe_fld (pv 0) rfl)) (pg_name (i := 1) sc_Fetch_finish.nd rfl (Or.inl rfl))
        (pss_one (ps_expr (M_Chunks_put.call hr (by omega) (pe_fld (pv 0) rfl) (pa_cons (pe_dget hu (pe_fld (pv 0) rfl) (pv 1) (fun _ _ => rfl)) pa_nil))))))
      (pss_one (ps_ret pe_bl)))), ?_⟩
    obtain ⟨⟨dx, h1⟩, htp, hkd, hnd⟩ := id SF
    refine ⟨_, rfl, fe, dx, _, rfl, h1, fF_no (by decide +kernel) (by decide +kernel) (by decide +kernel), ?_⟩
    refine ⟨fe, cc, tl', kd, bk, cd, ts, tips, ks, as, U, ch, rfl, SF, SC, hI, hK, hpot, fun p H1 s1 fp ep => ?_⟩
    refine ⟨_, .inl ⟨_, SqL.of ep, rfl⟩, ?_⟩
    by_cases hw : (fin (mem as) (mem ks) ch U tips).wd = []
    · have e0 : srt (fin (mem as) (mem ks) ch U tips).wd = [] := srt_nil.mpr hw
      refine if_f (by rw [e0]; rfl) ?_
      have SF1 := SF.same s1
      have SC1 := SC.same s1
      have SB1 := SB.same s1
      obtain ⟨⟨dx1, i1⟩, i2, i3, i4⟩ := id SF1
      refine ⟨kd, _, i3, trivial, fun od => ?_⟩
      have nfk : fe ≠ kd := ne_of i1 i3 (by intro z; cases z)
      have fre : ∀ b o, H1 b = some o → b ≠ kd → (upd H1 kd (.frz od (.dK (mapd (fun a => V.str (tOf ts a)) ks)))) b = some o := fun b o e nb => by
        rw [upd_ne nb]
        exact e
      obtain ⟨⟨cx, cr, j1⟩, j2, j3, j4⟩ := id SC1
      obtain ⟨⟨bx, b1⟩, b2, b3⟩ := id SB1
      have nck : cc ≠ kd := ne_of j1 i3 (by intro z; cases z)
      have nbk : bk ≠ kd := ne_of b1 i3 (by intro z; cases z)
      refine ⟨_, rfl, fe, CF, dx1, _, _, rfl, fre _ _ i1 nfk, T.cl, T.nK, fF_kept, kd, od, rfl, .inl ⟨_, upd_same, ?_⟩⟩
      refine for_it walk_keys (fun i σ H' => ∃ (as' : List Int) (v : Option V), σ = [some (.ref fe), v] ∧ H' kd = some (.frz od (.dK (mapd (fun a => V.str (tOf ts a)) ks))) ∧ BookAt CB H' bk nd ts ∧ ChAt CC H' cc bk cd ts as' ∧ (∀ x, x ∈ as' ↔ x ∈ as ∨ x ∈ ks.take i) ∧ as'.length ≤ as.length + i ∧
          (∀ b o, H1 b = some o → b ≠ kd → ¬ (b = nd ∨ b = cd) → H' b = some o) ∧ ∀ b xs, H1 b = some (.tup xs) → H' b = some (.tup xs))
        ⟨as, none, rfl, upd_same, ⟨⟨bx, fre _ _ b1 nbk⟩, fre _ _ b2 hkn.symm, b3⟩, ⟨⟨cx, cr, fre _ _ j1 nck⟩, fre _ _ j2 hkc.symm, j3, j4⟩, fun x => by simp, by omega, fun b o e nb _ => fre b o e nb, fun b xs e => fre b _ e (ne_of e i3 (by intro z; cases z))⟩ (fun i σ H' _ ⟨_, _, _, e, _⟩ => e) ?_ ?_
      · rintro i x σ H2 H2' hi ⟨as', v, rfl, ek, B2, C2, hmem, hlen, kp, kt⟩ ⟨rfl, k, v', hkv, rfl⟩
        rw [mapd_len] at hi
        have hki : (mapd (fun a => V.str (tOf ts a)) ks)[i]? = some (Sum.inl ks[i], V.str (tOf ts ks[i])) := by
          unfold mapd
          rw [List.getElem?_map, List.getElem?_eq_getElem hi]
          rfl
        rw [hki] at hkv
        cases hkv
        obtain ⟨⟨cx2, cr2, c1⟩, _⟩ := id C2
        have f2 := kp _ _ i1 nfk (by
          rintro (z | z)
          · exact ne_of i1 b2 (by intro z; cases z) z
          · exact ne_of i1 j2 (by intro z; cases z) z)
        have hin : ks[i] ∈ ks := List.getElem_mem hi
        have g : DGet H2' kd (.int ks[i]) (some (V.str (tOf ts ks[i]))) := by
          refine .inl ⟨_, Sum.inl ks[i], .inr ⟨od, ek⟩, rfl, ?_⟩
          rw [mapd_get, if_pos hin]
        refine ⟨_, rfl, fe, CF, dx1, _, _, rfl, f2, T.cl, T.nC, fF_chunks, cc, cx2, _, rfl, c1, cF_no (by decide +kernel) (by decide +kernel) (by decide +kernel), _, rfl, fe, CF, dx1, _, _, rfl, f2, T.cl, T.nK, fF_kept, _, rfl, kd, _, rfl, g, ?_⟩
        have hbt : bookAdd ts (tOf ts ks[i]) = ts := bookAdd_in (tOf_mem (hA _ hin))
        refine ⟨cc, bk, nd, cd, ts, as', _, rfl, B2, C2, hnc, hts, by omega, fun H3 B3 C3 k3 => ?_⟩
        rw [hbt] at B3 C3
        rw [adr_tOf b3 (hA _ hin)] at C3
        refine ⟨_, _, rfl, k3.old _ _ ek (by rintro (z | z); exact hkn z; exact hkc z), B3, C3, fun x => ?_, by have := asAdd_len as' ks[i]; omega, fun b o e n1 n2 => k3.old _ _ (kp b o e n1 n2) n2, fun b xs e => k3.tup _ _ (kt b xs e)⟩
        rw [mem_asAdd, hmem, show ks.take (i + 1) = ks.take i ++ [ks[i]] by rw [List.take_append_getElem], List.mem_append, List.mem_singleton, or_assoc]
      · rintro σ H2 ⟨as', v, rfl, ek, B2, C2, hmem, hlen, kp, kt⟩
        refine ⟨ek, ?_⟩
        rw [mapd_len, List.take_length] at hmem
        obtain ⟨⟨cx2, cr2, c1⟩, c2, c3, c4⟩ := id C2
        obtain ⟨⟨bx2, d1⟩, d2, d3⟩ := id B2
        refine q1 hw _ as' ⟨⟨bx2, by rw [upd_ne nbk]; exact d1⟩, by rw [upd_ne hkn.symm]; exact d2, d3⟩ ⟨⟨cx2, cr2, by rw [upd_ne nck]; exact c1⟩, by rw [upd_ne hkc.symm]; exact c2, c3, c4⟩ hmem ⟨fun b o e nb => ?_, fun b xs e => ?_⟩
        · by_cases hb : b = kd
          · rw [hb] at e ⊢
            rw [hkd] at e
            rw [upd_same, e]
          · rw [upd_ne hb]
            exact kp b o (s1 b o e) hb nb
        · rw [upd_ne (ne_of e hkd (by intro z; cases z))]
          exact kt b xs (s1 b _ e)
    · have e0 : srt (fin (mem as) (mem ks) ch U tips).wd ≠ [] := fun z => hw (srt_nil.mp z)
      refine if_t (by
        cases h : srt (fin (mem as) (mem ks) ch U tips).wd with
        | nil => exact absurd h e0
        | cons a l => rfl) ?_
      exact q0 hw _ s1
end
end My
set_option Elab.async false
set_option linter.all false
set_option maxRecDepth 100000
set_option maxHeartbeats 8000000
/-! The law's texts as a library; the walk of _law_wants, _law_closure. -/
namespace My
open PySem L2 TL
/-- an address of the law's dict: its text, its children -/
structure LibAt (H : Hp) (ts : List Str) (kvs : List (Key × V)) (ks : List Int) (a : Int) : Prop where
  ex : ∃ (p q : Addr) (d : D), valV kvs (Sum.inl a : Key) = some (.ref p) ∧ H p = some (.tup [.str (tx d.enc), .ref q]) ∧ H q = some (.lst (ks.map V.int)) ∧ Kd d ks ∧ tOf ts a = tx d.enc
  kids : ∀ c ∈ ks, isKey kvs c
structure Lib (C : Addr) (H : Hp) (bk nd td : Addr) (ts : List Str) (kvs : List (Key × V)) (ch : Int → List Int) (U : List Int) : Prop where
  w : TW C H bk nd td ts kvs
  lib : ∀ a, isKey kvs a → LibAt H ts kvs (ch a) a
  u : ∀ a, a ∈ U ↔ isKey kvs a
  len : U.length ≤ kvs.length
theorem lib_of {C : Addr} {H : Hp} {bk nd td : Addr} {ts : List Str} {kvs : List (Key × V)} (W : TW C H bk nd td ts kvs) : ∃ ch U, Lib C H bk nd td ts kvs ch U := by
  have h : ∀ a : Int, ∃ ks : List Int, isKey kvs a → LibAt H ts kvs ks a := fun a => by
    by_cases hk : isKey kvs a
    · obtain ⟨v, hv⟩ := Option.isSome_iff_exists.mp hk
      obtain ⟨a', e, E⟩ := W.ent _ _ hv
      cases e
      obtain ⟨p, q, d, ks, e1, e2, e3, e4, e5, e6⟩ := E.ex
      exact ⟨ks, fun _ => ⟨⟨p, q, d, by rw [hv, e1], e2, e3, e4, e5⟩, e6⟩⟩
    · exact ⟨[], fun z => absurd z hk⟩
  refine ⟨fun a => (h a).choose, kvs.filterMap fun p => match p.1 with | .inl a => some a | .inr _ => none, W, fun a => (h a).choose_spec, fun a => ?_, List.length_filterMap_le _ _⟩
  unfold isKey
  rw [List.mem_filterMap]
  constructor
  · rintro ⟨⟨k, v⟩, h1, h2⟩
    cases k with
    | inr s => cases h2
    | inl b =>
      cases h2
      rw [← valV_any, List.any_eq_true]
      exact ⟨_, h1, decide_eq_true rfl⟩
  · intro hs
    rw [← valV_any, List.any_eq_true] at hs
    obtain ⟨x, hx, e⟩ := hs
    have e := of_decide_eq_true e
    exact ⟨x, hx, by rw [e]⟩
theorem Lib.keep {C : Addr} {H H' : Hp} {bk nd td : Addr} {ts : List Str} {kvs : List (Key × V)} {ch : Int → List Int} {U : List Int} {ex : Addr → Prop} (L : Lib C H bk nd td ts kvs ch U) (k : Kp ex H H') (hb : ¬ ex bk) (hn : ¬ ex nd) (ht : ¬ ex td) (hl : ∀ b xs, H b = some (.lst xs) → ¬ ex b) : Lib C H' bk nd td ts kvs ch U := by
  refine ⟨L.w.keep k hb hn ht hl, fun a h => ?_, L.u, L.len⟩
  obtain ⟨⟨p, q, d, e1, e2, e3, r⟩, e6⟩ := L.lib a h
  exact ⟨⟨p, q, d, e1, k.tup _ _ e2, k.old _ _ e3 (hl _ _ e3), r⟩, e6⟩
theorem Lib.same {C : Addr} {H H' : Hp} {bk nd td : Addr} {ts : List Str} {kvs : List (Key × V)} {ch : Int → List Int} {U : List Int} (L : Lib C H bk nd td ts kvs ch U) (s : Same H H') : Lib C H' bk nd td ts kvs ch U := L.keep (Kp.same s (ex := fun _ => False)) id id id fun _ _ _ => id
theorem dfs_end' {held kept : Int → Bool} {ch : Int → List Int} {U tips : List Int} {n : Nat} (h : In kept ch U (start tips)) (hn : pot ch U (start tips) ≤ n) : (dfs held kept ch n (start tips)).wt = [] := dfs_end n _ h hn
abbrev yesV : Int → V := fun _ => .bl true
theorem put_yes {sn : List Int} {a : Int} (h : a ∉ sn) : putK (mapd yesV sn) (Sum.inl a : Key) (V.bl true) = mapd yesV (sn ++ [a]) := by
  have := mapd_put (f := yesV) (as := sn) a
  rw [this]
  unfold asAdd
  rw [if_neg h]
theorem DGet.mapd {H : Hp} {p : Addr} {f : Int → V} {as : List Int} (h : H p = some (.dK (mapd f as))) (a : Int) : DGet H p (.int a) (if a ∈ as then some (f a) else none) := by
  have := DGet.k (k := Sum.inl a) h
  rw [mapd_get] at this
  exact this
def spLWants (C : Addr) : Sp := fun vs H Q _ => ∃ (bk nd td tp hd ld : Addr) (ts : List Str) (kvs : List (Key × V)) (ch : Int → List Int) (U tips as ks : List Int), vs = [.ref td, .ref tp, .ref hd, .ref ld] ∧ Lib C H bk nd td ts kvs ch U ∧ H tp = some (.lst (tips.map V.int)) ∧ H hd = some (.dK (mapd yesV as)) ∧ H ld = some (.dK (mapd yesV ks)) ∧
  In (mem ks) ch U (start tips) ∧ pot ch U (start tips) ≤ 100000 ∧
  ∀ p H', Same H H' → H p = none → H' p = some (.lst ((srt (fin (mem as) (mem ks) ch U tips).wd).map V.int)) → Q (.ref p) H'
section
variable {P : Program} {w : World} {K : PySem.W.Frag} {mg : Str → Option Value} {base : Heap} {f CF CC CB C : Addr} {fd : FuncData}
theorem ok_lwants (F : Fun K "_law_wants" "_law_wants" s_Lwants f fd) (B : Bl mg) : FnOk P w K mg base CX0 1 f fd ["_law_texts", "_law_tips", "_law_held", "_law_kept"] (spLWants C) := by
  refine F.ok sc_Lwants (fun vs H Q E h => ?_) (fun cdv A outer s H vs Q E hr h => ?_)
  · obtain ⟨bk, nd, td, tp, hd, ld, ts, kvs, ch, U, tips, as, ks, rfl, _⟩ := h
    rfl
  · obtain ⟨bk, nd, td, tp, hd, ld, ts, kvs, ch, U, tips, as, ks, rfl, L, htp, hhd, hld, hI, hpot, q⟩ := h
    have hu := hu_of hr
    refine ⟨_, (pss_cons (ps_set (i := 4) sc_Lwants.nd rfl (Or.inl rfl) pe_dnewK)
      (pss_cons (ps_set (i := 5) sc_Lwants.nd rfl (Or.inl rfl) pe_dnewK)
      (pss_cons (ps_set (i := 6) sc_Lwants.nd rfl (Or.inl rfl) (pe_callTy call_list_of (by rfl) B.list (by decide +kernel) (pa_cons (pv 1) pa_nil)))
      (C8.pss_cut (ps_for PassesOwn.never rfl (pi_range1 (by rfl) B.range (pa_cons pe_int pa_nil)) (pg_name (i := 7) sc_Lwants.nd rfl (Or.inl rfl))
        (pss_cons (ps_if (pt_cmpR (op_eqNil hr.units0) (pv 6) (pe_lst pa_nil) (nomark _))
          (pss_one ps_break)
          pss_nil)
        (pss_cons (ps_set (i := 8) sc_Lwants.nd rfl (Or.inl rfl) (pe_bm0 PySem.F.plainAttrs_list PySem.F.slot_list_pop PySem.F.type_list_pop mt_pop (pv 6)))
        (pss_one (ps_if (PW.pt (pw_and (pt_cmp (pc_dnotin hu (pv 8) (pv 5))) (pw_and1 (pt_cmp (pc_dnotin hu (pv 8) (pv 2))))))
          (pss_cons (ps_dput hu (pv 5) (pv 8) pe_bl rfl)
          (pss_one (ps_if (pt_cmp (pc_din hu (pv 8) (pv 3)))
            (pss_one (ps_set (i := 6) sc_Lwants.nd rfl (Or.inl rfl) (pe_op op_cat (pv 6) (pe_ix ix_tup (pe_dget hu (pv 0) (pv 8) (fun _ _ => rfl)) pe_int (fun _ _ => rfl)))))
            (pss_one (ps_dput hu (pv 4) (pv 8) pe_bl rfl)))))
          pss_nil)))))
      (pss_one (ps_ret (pe_callB cr_sortedI (by rfl) B.sorted (by decide +kernel) (pa_cons (pe_callTy (call_listD rfl) (by rfl) B.list (by decide +kernel) (pa_cons (pv 4) pa_nil)) pa_nil)))))))), ?_⟩
    intro wd0 hw0 sd hsd
    have s1 : Same H (upd (upd H wd0 (.dK [])) sd (.dK [])) := (same_new hw0 _).trans (same_new hsd _)
    have nws : wd0 ≠ sd := ne_of_none upd_same hsd
    have fsd : H sd = none := by
      rw [upd_ne nws.symm] at hsd
      exact hsd
    have fw : H wd0 = none := hw0
    refine ⟨_, rfl, tp, _, rfl, .inl (SqL.of (s1 _ _ htp)), fun wt hwt => ?_⟩
    have s2 := s1.trans (same_new hwt (.lst (tips.map V.int)))
    have fwt : H wt = none := s1.free hwt
    have ewl : (upd (upd (upd H wd0 (.dK [])) sd (.dK [])) wt (.lst (tips.map V.int))) wd0 = some (.dK []) := same_new hwt _ _ _ (same_new hsd _ _ _ upd_same)
    have esd : (upd (upd (upd H wd0 (.dK [])) sd (.dK [])) wt (.lst (tips.map V.int))) sd = some (.dK []) := same_new hwt _ _ _ upd_same
    have ewt : (upd (upd (upd H wd0 (.dK [])) sd (.dK [])) wt (.lst (tips.map V.int))) wt = some (.lst (tips.map V.int)) := upd_same
    generalize upd (upd (upd H wd0 (.dK [])) sd (.dK [])) wt (.lst (tips.map V.int)) = H2 at s2 ewl esd ewt ⊢
    refine ⟨fun σ' H' => ∃ (d : Dfs) (wt : Addr) (v7 v8 : Option V), d.wt = [] ∧ Run (mem as) (mem ks) ch U tips d ∧ σ' = [some (.ref td), some (.ref tp), some (.ref hd), some (.ref ld), some (.ref wd0), some (.ref sd), some (.ref wt), v7, v8] ∧ Same H H' ∧ H' wd0 = some (.dK (mapd yesV d.wd)), ?_, ?_⟩
    · refine ⟨_, rfl, (by decide), (by decide), ?_⟩
      refine for_range (lo := 0) (n := 100000) (fun i σ H' => ∃ (d : Dfs) (wt : Addr) (v7 v8 : Option V), d = dfs (mem as) (mem ks) ch i (start tips) ∧ Run (mem as) (mem ks) ch U tips d ∧ σ = [some (.ref td), some (.ref tp), some (.ref hd), some (.ref ld), some (.ref wd0), some (.ref sd), some (.ref wt), v7, v8] ∧ Same H H' ∧ H' wd0 = some (.dK (mapd yesV d.wd)) ∧ H' sd = some (.dK (mapd yesV d.sn)) ∧ H' wt = some (.lst (d.wt.map V.int)) ∧ H wt = none)
        ⟨start tips, wt, none, none, rfl, run_start hI, rfl, s2, ewl, esd, ewt, fwt⟩ ?_ ?_
      · rintro i σ H3 hi ⟨⟨wd, sn, ws⟩, wt', v7, v8, ed, R, rfl, s3, ew, es, et, fw'⟩
        dsimp only at ew es et
        have hz := R.sizes
        dsimp only at hz
        refine ⟨_, rfl, (by show 0 ≤ sizeLine; decide), fun e0 he0 => ?_⟩
        have t0 : Same H3 (upd H3 e0 (.lst [])) := same_new he0 _
        refine ⟨wt', e0, _, rfl, rfl, SqL.of (t0 _ _ et), SqL.of upd_same, _, rfl, ?_⟩
        have u3 := s3.trans t0
        have uw := t0 _ _ ew
        have us := t0 _ _ es
        have ut := t0 _ _ et
        generalize upd H3 e0 (.lst []) = H4 at t0 u3 uw us ut ⊢
        rcases List.eq_nil_or_concat ws with rfl | ⟨w0, a, rfl⟩
        · refine if_t rfl ?_
          exact ⟨⟨wd, sn, []⟩, wt', _, _, rfl, R, rfl, u3, uw⟩
        rw [List.concat_eq_append] at *
        have hwz : (w0 ++ [a]).length = w0.length + 1 := by simp
        have R' := run_step R (by show w0 ++ [a] ≠ []; simp)
        have ed' : dstep (mem as) (mem ks) ch ⟨wd, sn, w0 ++ [a]⟩ = dfs (mem as) (mem ks) ch (i + 1) (start tips) := by rw [dfs_succ, ← ed]
        have haU : a ∈ U := R.ok.1 a (by show a ∈ w0 ++ [a]; simp)
        refine if_f (by simp) ?_
        refine ⟨_, rfl, .inl ⟨rfl, _, SqL.of ut⟩, wt', _, .int a, rfl, rfl, ut, (by simp), ?_⟩
        have nst : sd ≠ wt' := ne_of us ut (by intro z; cases z)
        have nwt : wd0 ≠ wt' := ne_of uw ut (by intro z; cases z)
        have g3 : Same H (upd H4 wt' (.lst ((w0 ++ [a]).map V.int).dropLast)) := same_mut u3 fw' _
        have gt : (upd H4 wt' (.lst ((w0 ++ [a]).map V.int).dropLast)) wt' = some (.lst (w0.map V.int)) := by
          rw [upd_same, List.map_append]
          simp
        have gw : (upd H4 wt' (.lst ((w0 ++ [a]).map V.int).dropLast)) wd0 = some (.dK (mapd yesV wd)) := by
          rw [upd_ne nwt]
          exact uw
        have gs : (upd H4 wt' (.lst ((w0 ++ [a]).map V.int).dropLast)) sd = some (.dK (mapd yesV sn)) := by
          rw [upd_ne nst]
          exact us
        generalize upd H4 wt' (.lst ((w0 ++ [a]).map V.int).dropLast) = H5 at g3 gt gw gs ⊢
        refine ⟨_, rfl, _, rfl, sd, _, rfl, DGet.mapd gs a, _, rfl, ?_⟩
        by_cases hsn : a ∈ sn
        · rw [if_pos hsn]
          refine if_f rfl ?_
          rw [dstep_skip (.inl hsn)] at R' ed'
          exact ⟨_, wt', _, _, ed', R', rfl, g3, gw, gs, gt, fw'⟩
        rw [if_neg hsn]
        refine if_t rfl ?_
        refine ⟨_, rfl, _, rfl, hd, _, rfl, DGet.mapd (g3 _ _ hhd) a, _, rfl, ?_⟩
        by_cases has : a ∈ as
        · rw [if_pos has]
          refine if_f rfl ?_
          rw [dstep_skip (.inr (decide_eq_true has))] at R' ed'
          exact ⟨_, wt', _, _, ed', R', rfl, g3, gw, gs, gt, fw'⟩
        rw [if_neg has]
        refine if_t rfl ?_
        refine ⟨_, rfl, _, rfl, sd, _, rfl, DPut.k (k := Sum.inl a) gs (by rw [mapd_len]; exact szlt (by omega)), ?_⟩
        rw [put_yes hsn]
        have nsw : sd ≠ wd0 := nws.symm
        have k3 : Same H (upd H5 sd (.dK (mapd yesV (sn ++ [a])))) := same_mut g3 fsd _
        have kt : (upd H5 sd (.dK (mapd yesV (sn ++ [a])))) wt' = some (.lst (w0.map V.int)) := by
          rw [upd_ne nst.symm]
          exact gt
        have kw : (upd H5 sd (.dK (mapd yesV (sn ++ [a])))) wd0 = some (.dK (mapd yesV wd)) := by
          rw [upd_ne nsw.symm]
          exact gw
        have ks' : (upd H5 sd (.dK (mapd yesV (sn ++ [a])))) sd = some (.dK (mapd yesV (sn ++ [a]))) := upd_same
        generalize upd H5 sd (.dK (mapd yesV (sn ++ [a]))) = H6 at k3 kt kw ks' ⊢
        refine ⟨_, rfl, _, rfl, ld, _, rfl, DGet.mapd (k3 _ _ hld) a, _, rfl, ?_⟩
        by_cases hks : a ∈ ks
        · rw [if_pos hks]
          refine if_t rfl ?_
          have LA := (L.same k3).lib a ((L.u a).mp haU)
          obtain ⟨pa, qa, da, a1, a2, a3, a4, a5⟩ := LA.ex
          have hch := a4.few
          refine ⟨_, rfl, _, rfl, _, rfl, td, .ref pa, rfl, ?_, pa, _, _, _, rfl, rfl, SqT.of a2, at1, ?_⟩
          · have := DGet.k (k := Sum.inl a) (L.same k3).w.tex
            rw [a1] at this
            exact this
          refine ⟨wt', qa, _, _, rfl, rfl, kt, a3, (by rw [List.length_map, List.length_map]; exact sz (by omega)), fun p hp => ?_⟩
          rw [dstep_kept hsn (decide_eq_false has) (decide_eq_true hks)] at R' ed'
          have u1 : Same H6 (upd H6 p (.lst (w0.map V.int ++ (ch a).map V.int))) := same_new hp _
          exact ⟨_, p, _, _, ed', R', rfl, k3.trans u1, u1 _ _ kw, u1 _ _ ks', by rw [upd_same, List.map_append], k3.free hp⟩
        · rw [if_neg hks]
          refine if_f rfl ?_
          rw [dstep_want hsn (decide_eq_false has) (decide_eq_false hks)] at R' ed'
          have hnw : a ∉ wd := fun z => hsn (R.sound.sub a z)
          refine ⟨_, rfl, _, rfl, wd0, _, rfl, DPut.k (k := Sum.inl a) kw (by rw [mapd_len]; exact szlt (by omega)), ?_⟩
          rw [put_yes hnw]
          refine ⟨_, wt', _, _, ed', R', rfl, same_mut k3 fw _, upd_same, ?_, ?_, fw'⟩
          · rw [upd_ne nsw]
            exact ks'
          · rw [upd_ne (ne_of kt kw (by intro z; cases z))]
            exact kt
      · rintro σ H3 ⟨⟨wd, sn, ws⟩, wt', v7, v8, ed, R, rfl, s3, ew, es, et, fw'⟩
        refine ⟨⟨wd, sn, ws⟩, wt', v7, v8, ?_, R, rfl, s3, ew⟩
        rw [ed]
        exact dfs_end' hI hpot
    · rintro σ' H' ⟨⟨wd, sn, ws⟩, wt', v7, v8, he, R, rfl, s3, ew⟩
      dsimp only at he ew
      subst he
      refine ⟨_, rfl, wd0, _, rfl, .inl ew, fun p1 hp1 => ?_⟩
      rw [mapd_keys]
      refine ⟨p1, wd, rfl, SqL.of upd_same, fun ns' p2 hpm hs hp2 => ?_⟩
      rw [srt_of hpm hs]
      have e1 : wd = (fin (mem as) (mem ks) ch U tips).wd := congrArg Dfs.wd (R.fin rfl hI)
      rw [e1]
      have s4 : Same H' (upd H' p1 (.lst (wd.map V.int))) := same_new hp1 _
      rw [e1] at s4 hp2
      exact q p2 _ ((s3.trans s4).trans (same_new hp2 _)) ((s3.trans s4).free hp2) upd_same
abbrev all1 : Int → Bool := fun _ => true
def spLClosure (C : Addr) : Sp := fun vs H Q _ => ∃ (bk nd td tp : Addr) (ts : List Str) (kvs : List (Key × V)) (ch : Int → List Int) (U tips : List Int), vs = [.ref td, .ref tp] ∧ Lib C H bk nd td ts kvs ch U ∧ H tp = some (.lst (tips.map V.int)) ∧
  In all1 ch U (start tips) ∧ pot ch U (start tips) ≤ 100000 ∧
  ∀ p H', Same H H' → H p = none → H' p = some (.lst ((srt (fin (mem []) all1 ch U tips).sn).map V.int)) → Q (.ref p) H'
theorem ok_lclosure (F : Fun K "_law_closure" "_law_closure" s_Lclosure f fd) (B : Bl mg) : FnOk P w K mg base CX0 1 f fd ["_law_texts", "_law_addresses"] (spLClosure C) := by
  refine F.ok sc_Lclosure (fun vs H Q E h => ?_) (fun cdv A outer s H vs Q E hr h => ?_)
  · obtain ⟨bk, nd, td, tp, ts, kvs, ch, U, tips, rfl, _⟩ := h
    rfl
  · obtain ⟨bk, nd, td, tp, ts, kvs, ch, U, tips, rfl, L, htp, hI, hpot, q⟩ := h
    have hu := hu_of hr
    refine ⟨_, (pss_cons (ps_set (i := 2) sc_Lclosure.nd rfl (Or.inl rfl) pe_dnewK)
      (pss_cons (ps_set (i := 3) sc_Lclosure.nd rfl (Or.inl rfl) (pe_callTy call_list_of (by rfl) B.list (by decide +kernel) (pa_cons (pv 1) pa_nil)))
      (C8.pss_cut (ps_for PassesOwn.never rfl (pi_range1 (by rfl) B.range (pa_cons pe_int pa_nil)) (pg_name (i := 4) sc_Lclosure.nd rfl (Or.inl rfl))
        (pss_cons (ps_if (pt_cmpR (op_eqNil hr.units0) (pv 3) (pe_lst pa_nil) (nomark _))
          (pss_one ps_break)
          pss_nil)
        (pss_cons (ps_set (i := 5) sc_Lclosure.nd rfl (Or.inl rfl) (pe_bm0 PySem.F.plainAttrs_list PySem.F.slot_list_pop PySem.F.type_list_pop mt_pop (pv 3)))
        (pss_one (ps_if (pt_cmp (pc_dnotin hu (pv 5) (pv 2)))
          (pss_cons (ps_dput hu (pv 2) (pv 5) pe_bl rfl)
          (pss_one (ps_set (i := 3) sc_Lclosure.nd rfl (Or.inl rfl) (pe_op op_cat (pv 3) (pe_ix ix_tup (pe_dget hu (pv 0) (pv 5) (fun _ _ => rfl)) pe_int (fun _ _ => rfl))))))
          pss_nil)))))
      (pss_one (ps_ret (pe_callB cr_sortedI (by rfl) B.sorted (by decide +kernel) (pa_cons (pe_callTy (call_listD rfl) (by rfl) B.list (by decide +kernel) (pa_cons (pv 2) pa_nil)) pa_nil))))))), ?_⟩
    intro sd hsd
    have s1 : Same H (upd H sd (.dK [])) := same_new hsd _
    refine ⟨_, rfl, tp, _, rfl, .inl (SqL.of (s1 _ _ htp)), fun wt hwt => ?_⟩
    have s2 := s1.trans (same_new hwt (.lst (tips.map V.int)))
    have fwt : H wt = none := s1.free hwt
    have esd : (upd (upd H sd (.dK [])) wt (.lst (tips.map V.int))) sd = some (.dK []) := same_new hwt _ _ _ upd_same
    have ewt : (upd (upd H sd (.dK [])) wt (.lst (tips.map V.int))) wt = some (.lst (tips.map V.int)) := upd_same
    generalize upd (upd H sd (.dK [])) wt (.lst (tips.map V.int)) = H2 at s2 esd ewt ⊢
    refine ⟨fun σ' H' => ∃ (d : Dfs) (wt : Addr) (v7 v8 : Option V), d.wt = [] ∧ Run (mem []) all1 ch U tips d ∧ σ' = [some (.ref td), some (.ref tp), some (.ref sd), some (.ref wt), v7, v8] ∧ Same H H' ∧ H' sd = some (.dK (mapd yesV d.sn)), ?_, ?_⟩
    · refine ⟨_, rfl, (by decide), (by decide), ?_⟩
      refine for_range (lo := 0) (n := 100000) (fun i σ H' => ∃ (d : Dfs) (wt : Addr) (v7 v8 : Option V), d = dfs (mem []) all1 ch i (start tips) ∧ Run (mem []) all1 ch U tips d ∧ σ = [some (.ref td), some (.ref tp), some (.ref sd), some (.ref wt), v7, v8] ∧ Same H H' ∧ H' sd = some (.dK (mapd yesV d.sn)) ∧ H' wt = some (.lst (d.wt.map V.int)) ∧ H wt = none)
        ⟨start tips, wt, none, none, rfl, run_start hI, rfl, s2, esd, ewt, fwt⟩ ?_ ?_
      · rintro i σ H3 hi ⟨⟨wd, sn, ws⟩, wt', v7, v8, ed, R, rfl, s3, es, et, fw'⟩
        dsimp only at es et
        have hz := R.sizes
        dsimp only at hz
        refine ⟨_, rfl, (by show 0 ≤ sizeLine; decide), fun e0 he0 => ?_⟩
        have t0 : Same H3 (upd H3 e0 (.lst [])) := same_new he0 _
        refine ⟨wt', e0, _, rfl, rfl, SqL.of (t0 _ _ et), SqL.of upd_same, _, rfl, ?_⟩
        have u3 := s3.trans t0
        have us := t0 _ _ es
        have ut := t0 _ _ et
        generalize upd H3 e0 (.lst []) = H4 at t0 u3 us ut ⊢
        rcases List.eq_nil_or_concat ws with rfl | ⟨w0, a, rfl⟩
        · refine if_t rfl ?_
          exact ⟨⟨wd, sn, []⟩, wt', _, _, rfl, R, rfl, u3, us⟩
        rw [List.concat_eq_append] at *
        have hwz : (w0 ++ [a]).length = w0.length + 1 := by simp
        have R' := run_step R (by show w0 ++ [a] ≠ []; simp)
        have ed' : dstep (mem []) all1 ch ⟨wd, sn, w0 ++ [a]⟩ = dfs (mem []) all1 ch (i + 1) (start tips) := by rw [dfs_succ, ← ed]
        have haU : a ∈ U := R.ok.1 a (by show a ∈ w0 ++ [a]; simp)
        refine if_f (by simp) ?_
        refine ⟨_, rfl, .inl ⟨rfl, _, SqL.of ut⟩, wt', _, .int a, rfl, rfl, ut, (by simp), ?_⟩
        have nst : sd ≠ wt' := ne_of us ut (by intro z; cases z)
        have g3 : Same H (upd H4 wt' (.lst ((w0 ++ [a]).map V.int).dropLast)) := same_mut u3 fw' _
        have gt : (upd H4 wt' (.lst ((w0 ++ [a]).map V.int).dropLast)) wt' = some (.lst (w0.map V.int)) := by
          rw [upd_same, List.map_append]
          simp
        have gs : (upd H4 wt' (.lst ((w0 ++ [a]).map V.int).dropLast)) sd = some (.dK (mapd yesV sn)) := by
          rw [upd_ne nst]
          exact us
        generalize upd H4 wt' (.lst ((w0 ++ [a]).map V.int).dropLast) = H5 at g3 gt gs ⊢
        refine ⟨_, rfl, _, rfl, sd, _, rfl, DGet.mapd gs a, _, rfl, ?_⟩
        by_cases hsn : a ∈ sn
        · rw [if_pos hsn]
          refine if_f rfl ?_
          rw [dstep_skip (.inl hsn)] at R' ed'
          exact ⟨_, wt', _, _, ed', R', rfl, g3, gs, gt, fw'⟩
        rw [if_neg hsn]
        refine if_t rfl ?_
        refine ⟨_, rfl, _, rfl, sd, _, rfl, DPut.k (k := Sum.inl a) gs (by rw [mapd_len]; exact szlt (by omega)), ?_⟩
        rw [put_yes hsn]
        have k3 : Same H (upd H5 sd (.dK (mapd yesV (sn ++ [a])))) := same_mut g3 hsd _
        have kt : (upd H5 sd (.dK (mapd yesV (sn ++ [a])))) wt' = some (.lst (w0.map V.int)) := by
          rw [upd_ne nst.symm]
          exact gt
        have ks' : (upd H5 sd (.dK (mapd yesV (sn ++ [a])))) sd = some (.dK (mapd yesV (sn ++ [a]))) := upd_same
        generalize upd H5 sd (.dK (mapd yesV (sn ++ [a]))) = H6 at k3 kt ks' ⊢
        have LA := (L.same k3).lib a ((L.u a).mp haU)
        obtain ⟨pa, qa, da, a1, a2, a3, a4, a5⟩ := LA.ex
        have hch := a4.few
        refine ⟨_, rfl, _, rfl, _, rfl, td, .ref pa, rfl, ?_, pa, _, _, _, rfl, rfl, SqT.of a2, at1, ?_⟩
        · have := DGet.k (k := Sum.inl a) (L.same k3).w.tex
          rw [a1] at this
          exact this
        refine ⟨wt', qa, _, _, rfl, rfl, kt, a3, (by rw [List.length_map, List.length_map]; exact sz (by omega)), fun p hp => ?_⟩
        rw [dstep_kept hsn rfl rfl] at R' ed'
        have u1 : Same H6 (upd H6 p (.lst (w0.map V.int ++ (ch a).map V.int))) := same_new hp _
        exact ⟨_, p, _, _, ed', R', rfl, k3.trans u1, u1 _ _ ks', by rw [upd_same, List.map_append], k3.free hp⟩
      · rintro σ H3 ⟨⟨wd, sn, ws⟩, wt', v7, v8, ed, R, rfl, s3, es, et, fw'⟩
        refine ⟨⟨wd, sn, ws⟩, wt', v7, v8, ?_, R, rfl, s3, es⟩
        rw [ed]
        exact dfs_end' hI hpot
    · rintro σ' H' ⟨⟨wd, sn, ws⟩, wt', v7, v8, he, R, rfl, s3, ew⟩
      dsimp only at he ew
      subst he
      refine ⟨_, rfl, sd, _, rfl, .inl ew, fun p1 hp1 => ?_⟩
      rw [mapd_keys]
      refine ⟨p1, sn, rfl, SqL.of upd_same, fun ns' p2 hpm hs hp2 => ?_⟩
      rw [srt_of hpm hs]
      have e1 : sn = (fin (mem []) all1 ch U tips).sn := congrArg Dfs.sn (R.fin rfl hI)
      rw [e1]
      have s4 : Same H' (upd H' p1 (.lst (sn.map V.int))) := same_new hp1 _
      rw [e1] at s4 hp2
      exact q p2 _ ((s3.trans s4).trans (same_new hp2 _)) ((s3.trans s4).free hp2) upd_same
end
end My
set_option Elab.async false
set_option linter.all false
set_option maxRecDepth 100000
set_option maxHeartbeats 8000000
/-! sorted(set(xs)), xs a list of ints: any number of members (the hand layer's own rule takes fewer than 64, and a tuple). -/
namespace My
open PySem PySem.Spec PyProof.Rows L2
/-- the set as it is made, a list's iterator -/
abbrev eS (w : World) : Obj := { cls := .type "set", dict := none, data := .set #[] 0 (.fresh 0 0 (!w.params.followText "set-order")) }
abbrev iL (l : Addr) : Obj := { cls := .type "list_iterator", data := .fields #[.ref l, .int 0 0] }
section
variable {P : Program} {w : World} {A : Around} {E : Value → Shared → Prop} {s : Shared}
theorem put_old {h : Heap} {b : Addr} {o u : Obj} (e : h.get? b = some u) : (h.push o).get? b = some u := Heap.get?_push_of_some _ e
set_option maxHeartbeats 16000000 in
theorem set_of_list {l : Addr} {items : Array Value} (ns : List Int) {Q : Value → Shared → Prop} (hh : A.handled = none) (hl : s.heap.IsList l items) (hit : IntsAre items.toList ns) (hb : ns.length + 1 < scanBound)
    (q : ∀ (g : Heap) (tk c : Nat), SetR w g s.heap.objs.size (fun j => decide (j ∈ ns)) c → c ≤ ns.length → (∀ b o, s.heap.get? b = some o → g.get? b = some o) → Q (.ref s.heap.objs.size) { s with heap := g, toks := tk }) : wpAny (model P w) A (call (.type "set") [.ref l]) Q E s := by
  have len : items.size = ns.length := (Array.length_toList (xs := items)).symm.trans hit.length
  obtain ⟨mc, mt, mro⟩ := F.called_set.mro
  have made := F.called_set.made
  have sub := F.called_set.sub
  refine wpAny_call (codeAny_of_tree (show wpAny _ _ (callAny (.type "set") _) _ _ _ from wpAny_pure ⟨Code.quiet_builtin _ (by decide +kernel), codeAny_builtin F.entry_type_call ?_⟩))
  have wt := weight_type_call_type "set" [.ref l] []
  rw [Around.under_plain wt rfl]
  have nt := F.called_set.notType
  have cc := F.called_set.canCreate
  have tc := F.typeCall_set_1 (.ref l)
  repeat (any_goals (first | assumption | wp_step))
  refine codeAny_mono (code_set_led1 (.ref l) (E := E) (Q₁ := fun o t => o = .ref s.heap.objs.size ∧ t = { s with heap := s.heap.push (eS w) }) ⟨rfl, rfl⟩) fun r t hr => ?_
  rcases r with e | fl
  · exact hr
  cases fl with
  | ret o =>
    obtain ⟨rfl, rfl⟩ := hr
    have at0 : (s.heap.push (eS w)).get? s.heap.objs.size = some (eS w) := Heap.get?_push_size _ rfl
    have ty : Shared.TypeIs { s with heap := s.heap.push (eS w) } (.ref s.heap.objs.size) "set" := ⟨_, at0, rfl⟩
    have il := F.called_set.init.lookup
    have ib := F.called_set.init.bind (.ref s.heap.objs.size)
    repeat (any_goals (first | assumption | wp_step))
    refine codeAny_mono (codeAny_call_builtin (R := wants (fun r u => r = .none ∧ ∃ h' tk c, u = { s with heap := h', toks := tk } ∧ SetR w h' s.heap.objs.size (fun j => decide (j ∈ ns)) c ∧ c ≤ ns.length ∧ (∀ b o, s.heap.get? b = some o → h'.get? b = some o)) E) F.called_set.init.plain F.entry_set_init (check_set_init_1 ty ?_)) fun r u hr => ?_
    · obtain ⟨⟨lc, ld, lda, ls⟩, ho, hc, n, hd⟩ := hl
      dsimp only at hc hd
      subst hc hd
      have lo : (s.heap.push (eS w)).get? l = some { cls := .type "list", dict := ld, data := .seq items n, slots := ls } := put_old ho
      have hsls := F.sub_list_set
      have hslf := F.sub_list_frozenset
      have nd : (Value.type "list" == Value.type "dict") = false := by decide
      have isl : (s.heap.push (eS w)).IsList l items := ⟨_, lo, rfl, n, rfl⟩
      unfold Builtin.«set.__init__» noKeywords Builtin.Frozenset.updateFrom
      generalize hPI : pyIter = PI
      wp_walk
      subst hPI
      refine wpAny_pyIter_list isl (wpAny_bind (wpAny_runValue ?_))
      have lt := Heap.lt_size ho
      have zz : (s.heap.push (eS w)).objs.size = s.heap.objs.size + 1 := Heap.size_push ..
      have h3 : A.in1.in1.in1.handled = none := by simp [hh]
      have ne1 : l ≠ (s.heap.push (eS w)).objs.size := fun z => (Nat.ne_of_lt (Nat.lt_succ_of_lt lt)) (z.trans zz)
      have out : s.heap.objs.size ∉ [(s.heap.push (eS w)).objs.size, l] := by
        intro z
        rcases List.mem_cons.mp z with z | z
        · exact (Nat.ne_of_lt (Nat.lt_succ_self _)) (z.trans zz)
        · exact (Nat.ne_of_lt lt) (List.mem_singleton.mp z).symm
      have val : ∀ (i : Nat) (v : Value), items[i]? = some v → ∃ k t, ns[i]? = some k ∧ v = .int k t := fun i v hv => by
        have hi : i < ns.length := len ▸ (Array.getElem?_eq_some_iff.mp hv).1
        obtain ⟨t, e⟩ := IntsAre.int_at hit i v (Array.getElem?_toList ▸ hv)
        have g : ns.getD i 0 = ns[i] := by simp [hi]
        exact ⟨_, t, List.getElem?_eq_getElem hi, e.trans (by rw [g])⟩
      refine set_update_ints ((Walks.list h3 _ l ne1 items).toS) s.heap.objs.size out ns len hb val (items.size - 0) 0 _ (by omega) (Nat.zero_le _) ⟨⟨_, Heap.get?_push_size _ rfl, rfl, rfl⟩, isl.push _⟩ ⟨0, Nat.le_refl 0, setR_new_at (put_old at0)⟩ ?_
      rintro ⟨h', g2, d2, tk, os2⟩ c mv hc R
      have e1 : g2 = s.gens := mv.gens
      have e2 : d2 = s.drawn := mv.drawn
      have e3 : os2 = s.os := mv.os
      subst e1 e2 e3
      change wpAny _ _ _ _ _ _
      refine wpAny_pure ?_
      change wpAny _ _ (ret Value.none) _ _ _
      refine wpAny_pure ⟨rfl, h', tk, c, rfl, R, len ▸ hc, fun b o e => ?_⟩
      have hb0 := Heap.lt_size e
      refine mv.heap b o (fun z => ?_) (put_old (put_old e))
      rcases List.mem_cons.mp z with z | z
      · exact (Nat.ne_of_lt hb0) z
      · exact (Nat.ne_of_lt (Nat.lt_succ_of_lt hb0)) ((List.mem_singleton.mp z).trans zz)
    · rcases r with e | fl
      · exact hr
      cases fl with
      | ret r =>
        obtain ⟨rfl, h', tk, c, rfl, R, hc, k⟩ := hr
        repeat (any_goals (first | assumption | wp_step))
        exact q _ _ _ R hc k
      | _ => exact hr.elim
  | _ => exact hr.elim
end
end My
set_option Elab.async false
set_option linter.all false
set_option maxRecDepth 100000
set_option maxHeartbeats 8000000
/-! sorted of a set of ints of any size; sorted(set(xs)) as an expression. -/
namespace My
open PySem PySem.Spec PyProof.Rows L2
section
variable {P : Program} {w : World} {A : Around} {E : Value → Shared → Prop} {s : Shared} {a : Addr}
theorem sorted_big {S : Int → Bool} {n : Nat} {Q : Value → Shared → Prop} (R : SetR w s.heap a S n) (hh : A.handled = none) (hz : n ≤ 100000)
    (q : ∀ s' p (out : Array Value) (c : Nat) (ns : List Int), (∀ b o, s.heap.get? b = some o → s'.heap.get? b = some o) → s'.gens = s.gens → s'.os = s.os → s.heap.objs.size ≤ p → s'.heap.get? p = some (seqObj "list" out c) → IntsAre out.toList ns → ns.Pairwise (· ≤ ·) → ns.Nodup → (∀ k, k ∈ ns ↔ S k = true) → ns.length = n → Q (.ref p) s') : wpAny (model P w) A (call (.builtin "sorted") [.ref a]) Q E s := by
  obtain ⟨o, es, ep, t, ho, hex, hd, good, nd, hm, hb, hf, hn, hr, hl⟩ := R
  apply Calls.call_function_entry kind_sorted plain_sorted entry_sorted (args_sorted1 (.ref a))
  unfold Builtin.«sorted»
  refine wpAny_bind (m := checkCount "sorted" 1 1 _) (wpAny_pure (wpAny_bind (collect_set (A := A.in1) hh ⟨o, ho, hex.1, hd⟩ hf hb hr hl fun s1 vs keep size gens os perm => ?_)))
  have lv : vs.length = n := by
    have := perm.length_eq
    simp at this
    omega
  have isn : IntsAre vs (vs.map SrtO.iv) := SrtO.ints_iv fun v hv => by
    obtain ⟨e, he, ev⟩ := List.mem_map.mp (perm.mem_iff.mp hv)
    obtain ⟨k, tk, e1, _⟩ := good e he
    exact ⟨k, tk, ev ▸ e1⟩
  have keys : (vs.map SrtO.iv).Perm (es.toList.map keyOf) := by
    have := perm.map SrtO.iv
    rw [List.map_map] at this
    exact this
  have small : vs.length ≤ sizeLine := lv ▸ Nat.le_trans hz (by decide)
  refine wpAny_bind (wpAny_newList ?_ small)
  have new : (s1.heap.push (seqObj "list" vs.toArray 0)).get? s1.heap.objs.size = some (seqObj "list" vs.toArray 0) := Heap.get?_push_size _ rfl
  refine wpAny_bind (wpAny_holding (wpAny_call_entry slot_list_sort ⟨_, new, rfl⟩ entry_list_sort (SrtO.list_sort_ord SrtO.swo_int new small (fun two => SrtO.ints_sortable isn two) fun out o1 o2 => ⟨_, rfl, ?_⟩) (args_list_sort _)))
  obtain ⟨k1, k2, k3⟩ := SrtO.ints_out isn o1 o2
  obtain ⟨c, at1⟩ := sortedHeap_at (vs := vs) (out := out.toArray) new
  have all := k2.trans keys
  refine wpAny_pure ⟨_, rfl, q _ s1.heap.objs.size out.toArray c (out.map SrtO.iv) (fun b u e => ?_) gens os size at1 k1 k3 (all.nodup_iff.mpr nd) (fun k => by rw [all.mem_iff, ← hm k]) ?_⟩
  · have e1 := keep b u e
    have lt := Heap.lt_size e1
    change (sortedHeap (s1.heap.push (seqObj "list" vs.toArray 0)) s1.heap.objs.size vs out.toArray).get? b = some u
    rw [sortedHeap_old (Nat.ne_of_lt lt) (by rw [Heap.size_push]; exact Nat.lt_succ_of_lt lt)]
    exact put_old e1
  · rw [all.length_eq, List.length_map, Array.length_toList, hn]
end
def tSortSet (K : PySem.W.Frag) (ta : TE) : TE := fun σ H Q => ta σ H fun x H1 => ∃ (l : Addr) (ns : List Int), x = .ref l ∧ SqL K H1 l (ns.map V.int) ∧ ns.length ≤ 4000 ∧
  ∀ (ns' : List Int) (p : Addr), ns'.Pairwise (· ≤ ·) → ns'.Nodup → (∀ k, k ∈ ns' ↔ k ∈ ns) → H1 p = none → Q (.ref p) (upd H1 p (.lst (ns'.map V.int)))
theorem pe_sortSet {X : Cx} {a : Expr} {ta : TE} {p p2 q pos : Pos} (hg : Gl X "sorted") (hm : X.mg "sorted" = none) (hg2 : Gl X "set") (hm2 : X.mg "set" = none) (ha : PE X a ta) (hc : X.calm = true := by rfl)
    (na : starEach [a] X.env = (false, eval a X.env) :: starEach [] X.env := by rfl) : PE X (.Call (.Name "sorted" p) [.Call (.Name "set" p2) [a] [] q] [] pos) (tSortSet X.K ta) := by
  refine ⟨fun pins s σ H Q I h => Call_ (ld_blt I hg hm (u := .builtin "sorted") (by decide +kernel) (callWith_builtin1 (args_cons ?_ rfl) rfl rfl))⟩
  refine Call_ (ld_blt I hg2 hm2 (u := .type "set") (by decide +kernel) (callWith_type1 (args_cons (thn (ha.run pins s σ H _ I h) fun v s1 ⟨x, H1, I1, r1, q1⟩ => args_nil ?_) na) na rfl))
  obtain ⟨l, ns, rfl, hq, hl, q1⟩ := q1
  cases r1
  obtain ⟨us, r, pl, -⟩ := I1.list hq
  refine set_of_list ns (I1.ok.hd hc) pl.isList (by simpa using r.ints) (by unfold scanBound; omega) fun h' tk c R hcn keep => ?_
  refine args_nil ?_
  have I2 : Inv X pins σ H1 { s1 with heap := h', toks := tk } := I1.kept fun b o e => keep b o e
  refine sorted_big R (I2.ok.hd hc) (by omega) fun s' p out c2 ns2 k g o hp hg3 hi hs hn hm3 hl3 => ?_
  have hlen : (ns2.map V.int).length ≤ sizeLine := by
    rw [List.length_map, hl3]
    exact Nat.le_trans hcn (Nat.le_trans hl (by decide))
  have fresh : H1 p = none := I2.hok.fresh hp
  have J : Inv X pins σ (upd H1 p (.lst (ns2.map V.int))) { s1 with heap := s'.heap, gens := s'.gens, drawn := s'.drawn, toks := s'.toks } :=
    Inv.call (s := { s1 with heap := h', toks := tk }) I2 (ch := []) (Un.laid k hp fresh) (I2.hok.laid k hp ⟨hlen, out.toList, c2, vals_of_ints hi, hg3⟩) (by rw [g]; exact I2.bare) (fun _ z => nomatch z)
  have e : s' = { s1 with heap := s'.heap, gens := s'.gens, drawn := s'.drawn, toks := s'.toks } := by
    rcases s'
    rcases s1
    cases o
    rfl
  rw [e]
  exact ⟨.ref p, _, J, rfl, q1 ns2 p hs hn (fun k => by rw [hm3]; simp) fresh⟩
end My
set_option Elab.async false
set_option linter.all false
set_option maxRecDepth 100000
set_option maxHeartbeats 8000000
/-! The walk of _law_is_list, _law_damaged. -/
namespace My
open PySem L2 TL
def spLIsList : Sp := fun vs H Q _ => ∃ (a b : Addr) (ns : List Int), vs = [.ref a, .ref b] ∧ H a = some (.lst (ns.map V.int)) ∧ H b = some (.lst (ns.map V.int)) ∧ ns.length ≤ 1000000 ∧ Q (.bl true) H
def spLDamaged : Sp := fun vs H Q _ => ∃ (z : Str) (a b : Int), vs = [.str z, .int a, .int b] ∧ 1 ≤ z.length ∧ z.length ≤ 1000000 ∧ ∀ y, Q (.str y) H
section
variable {P : Program} {w : World} {K : PySem.W.Frag} {mg : Str → Option Value} {base : Heap} {f CF CC CB C : Addr} {fd : FuncData}
theorem ok_lis_list (F : Fun K "_law_is_list" "_law_is_list" s_Lis_list f fd) (B : Bl mg) : FnOk P w K mg base CX0 1 f fd ["_law_actual", "_law_due"] spLIsList := by
  refine F.ok sc_Lis_list (fun vs H Q E h => ?_) (fun cdv A outer s H vs Q E hr h => ?_)
  · obtain ⟨a, b, ns, rfl, _⟩ := h
    rfl
  · obtain ⟨a, b, ns, rfl, ha, hb, hl, q⟩ := h
    refine ⟨_, (pss_cons (ps_if (PW.pt (pw_or (pt_not (pt_val (pe_callB call_isi (by rfl) B.isinstance (by decide +kernel) (pa_cons (pv 0) (pa_cons (pe_bltn (v := .ty "list") (by rfl) B.list (by decide +kernel) rfl) pa_nil))))) (pw_or1 (pt_cmpR op_ne (pe_callB call_len_seq (by rfl) B.len (by decide +kernel) (pa_cons (pv 0) pa_nil)) (pe_callB call_len_seq (by rfl) B.len (by decide +kernel) (pa_cons (pv 1) pa_nil)) (nomark _)))))
        (pss_one (ps_ret pe_bl))
        pss_nil)
      (pss_cons (ps_for PassesOwn.never rfl (pi_range1 (by rfl) B.range (pa_cons (pe_callB call_len_seq (by rfl) B.len (by decide +kernel) (pa_cons (pv 1) pa_nil)) pa_nil)) (pg_name (i := 2) sc_Lis_list.nd rfl (Or.inl rfl))
        (pss_one (ps_if (PW.pt (pw_or (pt_not (pt_val (pe_callB call_isi (by rfl) B.isinstance (by decide +kernel) (pa_cons (pe_ix ix_list (pv 0) (pv 2) (fun _ _ => rfl)) (pa_cons (pe_bltn (v := .ty "int") (by rfl) B.int (by decide +kernel) rfl) pa_nil))))) (pw_or (pt_val (pe_callB call_isi (by rfl) B.isinstance (by decide +kernel) (pa_cons (pe_ix ix_list (pv 0) (pv 2) (fun _ _ => rfl)) (pa_cons (pe_bltn (v := .ty "bool") (by rfl) B.bool (by decide +kernel) rfl) pa_nil)))) (pw_or1 (pt_cmpR op_ne (pe_ix ix_list (pv 0) (pv 2) (fun _ _ => rfl)) (pe_ix ix_list (pv 1) (pv 2) (fun _ _ => rfl)) (nomark _))))))
          (pss_one (ps_ret pe_bl))
          pss_nil)))
      (pss_one (ps_ret pe_bl)))), ?_⟩
    have hz : (ns.map V.int).length = ns.length := List.length_map _
    refine ⟨_, rfl, _, _, _, _, true, rfl, .ty "list", .base (.lst ha), kit_ty (by decide +kernel), _, rfl, if_f rfl ?_⟩
    refine ⟨_, rfl, a, _, rfl, .inl (SqL.of ha), _, rfl, b, _, rfl, .inl (SqL.of hb), rfl, _, rfl, ?_⟩
    refine if_f (by simp) ?_
    refine ⟨_, rfl, b, _, rfl, .inl (SqL.of hb), _, rfl, by omega, by omega, ?_⟩
    rw [hz, Int.toNat_natCast]
    refine for_range (lo := 0) (n := ns.length) (fun i σ H' => ∃ v, H' = H ∧ σ = [some (.ref a), some (.ref b), v]) ⟨none, rfl, rfl⟩ ?_ ?_
    · rintro i σ H' hi ⟨v, rfl, rfl⟩
      have hat : atI (ns.map V.int) (0 + (i : Int)) = some (.int ns[i]) := by
        rw [Int.zero_add]
        exact atI_nat (by rw [List.getElem?_map, List.getElem?_eq_getElem hi]; rfl)
      refine ⟨_, rfl, _, rfl, a, _, _, _, rfl, rfl, SqL.of ha, hat, _, _, _, _, true, rfl, .ty "int", .base (.int _), kit_ty (by decide +kernel), _, rfl, if_f rfl ?_⟩
      refine ⟨_, rfl, _, rfl, a, _, _, _, rfl, rfl, SqL.of ha, hat, _, _, _, _, false, rfl, .ty "bool", .base (.int _), kit_ty (by decide +kernel), _, rfl, if_f rfl ?_⟩
      refine ⟨_, rfl, _, rfl, a, _, _, _, rfl, rfl, SqL.of ha, hat, _, rfl, _, rfl, b, _, _, _, rfl, rfl, SqL.of hb, hat, rfl, _, rfl, ?_⟩
      refine if_f (by simp) ?_
      exact ⟨_, rfl, rfl⟩
    · rintro σ H' ⟨v, rfl, rfl⟩
      exact q
end
end My
set_option Elab.async false
set_option linter.all false
set_option maxRecDepth 100000
set_option maxHeartbeats 8000000
/-! Plain law of a fetch; its objects together; Fetch(..) as a call. -/
namespace My
open PySem L2 TL
section
variable {held kept : Int → Bool} {ch : Int → List Int} {tips U : List Int} {s : Dfs}
theorem reach_sn (S : Sound held kept ch tips s) (hw : s.wt = []) (hh : ∀ x, held x = false) (hk : ∀ a ∈ s.sn, kept a = true) : ∀ x, Reach ch tips x → x ∈ s.sn := by
  intro x r
  induction r with
  | tip h =>
    rcases S.all _ h with q | q | q
    · exact q
    · rw [hh] at q; cases q
    · rw [hw] at q; cases q
  | step r c ih =>
    rcases S.kids _ ih (hk _ ih) _ c with q | q | q
    · exact q
    · rw [hh] at q; cases q
    · rw [hw] at q; cases q
theorem reach_in (ht : ∀ t ∈ tips, t ∈ U) (hc : ∀ a ∈ U, ∀ c ∈ ch a, c ∈ U) : ∀ x, Reach ch tips x → x ∈ U := by
  intro x r
  induction r with
  | tip h => exact ht _ h
  | step r c ih => exact hc _ ih _ c
/-- what is wanted is new and reached -/
theorem wanted_new {ks : List Int} {a : Int} (h : a ∈ (fin held (mem ks) ch U tips).wd) : a ∉ ks ∧ Reach ch tips a := by
  have S := sound_fin (held := held) (kept := mem ks) (ch := ch) U tips
  refine ⟨fun z => ?_, S.rs a (S.sub a h)⟩
  have := S.wdk a h
  unfold mem at this
  rw [decide_eq_true z] at this
  cases this
/-- at the end the kept ones are the closure -/
theorem kept_all {ks : List Int} (hI : In (mem ks) ch U (start tips)) (hA : In all1 ch U (start tips)) (hr : ∀ a ∈ ks, Reach ch tips a) (hw : (fin (mem []) (mem ks) ch U tips).wd = []) :
    ∀ x, x ∈ ks ↔ x ∈ (fin (mem []) all1 ch U tips).sn := by
  have S := sound_fin (held := mem []) (kept := mem ks) (ch := ch) U tips
  have S1 := sound_fin (held := mem []) (kept := all1) (ch := ch) U tips
  have k1 : ∀ a ∈ (fin (mem []) (mem ks) ch U tips).sn, mem ks a = true := fun a ha => by
    cases h : mem ks a with
    | true => rfl
    | false =>
      have := S.rest a ha h
      rw [hw] at this
      cases this
  intro x
  constructor
  · intro hx
    exact reach_sn S1 (fin_end hA) (fun _ => rfl) (fun _ _ => rfl) x (hr x hx)
  · intro hx
    exact of_decide_eq_true (k1 x (reach_sn S (fin_end hI) (fun _ => rfl) k1 x (S1.rs x hx)))
end
section
variable {C CB CC CF : Addr}
theorem mk_fetch {σ : L2.St} {H : Hp} {Q : VK} {t : TA} {cc : Addr} {tips : List Int} (ht : ∀ Q' : List V → Hp → Prop, (∀ tl H1, Same H H1 → H tl = none → H1 tl = some (.lst (tips.map V.int)) → Q' [V.ref cc, V.ref tl] H1) → t σ H Q')
    (h : ∀ fe tl kd H1, Same H H1 → H fe = none → H tl = none → H kd = none → kd ≠ tl → kd ≠ fe → (∀ ts, FeAt C H1 fe cc tl kd ts tips []) → Q (.ref fe) H1) : tMake C (spFeInit C) [] E0 t σ H Q := by
  refine ht _ fun tl0 H0 s0 f0 e0 => ?_
  intro x dx nx ndx nex
  have ntx : tl0 ≠ x := ne_of_none e0 nx
  have ntd : tl0 ≠ dx := ne_of_none e0 ndx
  refine ⟨x, dx, cc, tl0, tips, rfl, upd_same, (by rw [upd_ne ntx, upd_ne ntd]; exact e0), fun tl' kd H1 htl hkd n1 n2 n3 S kp => ⟨rfl, ?_⟩⟩
  have s1 : Same H0 (upd (upd H0 dx (.own x)) x (.ins C dx [])) := (same_new ndx _).trans (same_new (by rw [upd_ne (Ne.symm nex)]; exact nx) _)
  exact h x tl' kd H1 (s0.trans (Same.made nx ndx kp)) (s0.free nx) (s0.free (s1.free htl)) (s0.free (s1.free hkd)) n3.symm n2 S
end
/-- all that stands while the law runs -/
structure Ob (CB CC CF : Addr) (H : Hp) (bk nd td cc cd fe tl kd ld np cl : Addr) (ts : List Str) (kvs : List (Key × V)) (ch : Int → List Int) (U : List Int) (tip : Int) (ks as cs ns : List Int) : Prop where
  L : Lib CB H bk nd td ts kvs ch U
  S : ChAt CC H cc bk cd ts as
  F : FeAt CF H fe cc tl kd ts [tip] ks
  eld : H ld = some (.dK (mapd yesV ks))
  enp : H np = some (.lst (ns.map V.int))
  ecl : H cl = some (.lst (cs.map V.int))
  n1 : kd ≠ nd
  n2 : kd ≠ td
  n3 : kd ≠ cd
  n4 : nd ≠ cd
  n5 : ld ≠ kd
  n6 : ld ≠ nd
  n7 : ld ≠ td
  n8 : ld ≠ cd
  n9 : td ≠ cd
  mtip : tip ∈ U
  kU : ∀ a ∈ ks, Reach ch [tip] a
section
variable {CB CC CF : Addr} {H H' : Hp} {bk nd td cc cd fe tl kd ld np cl : Addr} {ts : List Str} {kvs : List (Key × V)} {ch : Int → List Int} {U : List Int} {tip a : Int} {ks as cs ns : List Int}
theorem Ob.same (O : Ob CB CC CF H bk nd td cc cd fe tl kd ld np cl ts kvs ch U tip ks as cs ns) (s : Same H H') : Ob CB CC CF H' bk nd td cc cd fe tl kd ld np cl ts kvs ch U tip ks as cs ns :=
  { O with L := O.L.same s, S := O.S.same s, F := O.F.same s, eld := s _ _ O.eld, enp := s _ _ O.enp, ecl := s _ _ O.ecl }
theorem Lib.closed (L : Lib CB H bk nd td ts kvs ch U) : ∀ a ∈ U, ∀ c ∈ ch a, c ∈ U := fun a ha c hc => (L.u c).mpr ((L.lib a ((L.u a).mp ha)).kids c hc)
theorem Ob.inU (O : Ob CB CC CF H bk nd td cc cd fe tl kd ld np cl ts kvs ch U tip ks as cs ns) (kept : Int → Bool) : In kept ch U (start [tip]) := in_start (fun t ht => by rw [List.mem_singleton.mp ht]; exact O.mtip) fun a ha _ => O.L.closed a ha
theorem Ob.reach (O : Ob CB CC CF H bk nd td cc cd fe tl kd ld np cl ts kvs ch U tip ks as cs ns) {a : Int} (h : Reach ch [tip] a) : a ∈ U := reach_in (fun t ht => by rw [List.mem_singleton.mp ht]; exact O.mtip) O.L.closed a h
theorem Ob.pot (O : Ob CB CC CF H bk nd td cc cd fe tl kd ld np cl ts kvs ch U tip ks as cs ns) (h : kvs.length ≤ 10000) : My.pot ch U (start [tip]) ≤ 100000 := by
  have := pot_start (ch := ch) (U := U) (tips := [tip]) (c := 8) fun a ha => by
    obtain ⟨p, q, d, _, _, _, k, _⟩ := (O.L.lib a ((O.L.u a).mp ha)).ex
    exact k.few
  have := O.L.len
  rw [List.length_singleton] at *
  omega
theorem Ob.kept (O : Ob CB CC CF H bk nd td cc cd fe tl kd ld np cl ts kvs ch U tip ks as cs ns) : KeptOk ts ch ks := fun a ha => by
  obtain ⟨p, q, d, _, _, _, k, e⟩ := (O.L.lib a ((O.L.u a).mp (O.reach (O.kU a ha)))).ex
  exact ⟨d, e, k⟩
theorem Ob.adr (O : Ob CB CC CF H bk nd td cc cd fe tl kd ld np cl ts kvs ch U tip ks as cs ns) {a : Int} (h : a ∈ U) : Adr ts a := O.L.w.adrOk ((O.L.u a).mp h)
theorem Lib.fin (L : Lib CB H bk nd td ts kvs ch U) (B : BookAt CB H' bk nd ts) (k : Kp (fun b => b = nd ∨ b = cd) H H') (h : td ≠ cd) (hc : ∃ n, H cd = some (.dK n)) : Lib CB H' bk nd td ts kvs ch U := by
  obtain ⟨nn, hc⟩ := hc
  have hl : ∀ b xs, H b = some (.lst xs) → ¬ (b = nd ∨ b = cd) := fun b xs e => by
    rintro (z | z)
    · exact ne_of e L.w.book.dc (by intro z; cases z) z
    · exact ne_of e hc (by intro z; cases z) z
  have ht : ¬ (td = nd ∨ td = cd) := by
    rintro (z | z)
    · exact L.w.ne z.symm
    · exact h z
  refine ⟨⟨B, k.old _ _ L.w.tex ht, L.w.ne, L.w.keys, fun x v hv => ?_⟩, fun a h => ?_, L.u, L.len⟩
  · obtain ⟨a, e, ⟨p, q, d, ks, e1, e2, e3, r⟩, ok⟩ := L.w.ent x v hv
    exact ⟨a, e, ⟨p, q, d, ks, e1, k.tup _ _ e2, k.old _ _ e3 (hl _ _ e3), r⟩, ok⟩
  · obtain ⟨⟨p, q, d, e1, e2, e3, r⟩, e6⟩ := L.lib a h
    exact ⟨⟨p, q, d, e1, k.tup _ _ e2, k.old _ _ e3 (hl _ _ e3), r⟩, e6⟩
theorem Ob.mid (O : Ob CB CC CF H bk nd td cc cd fe tl kd ld np cl ts kvs ch U tip ks as cs ns) (k : Kp (· = kd) H H') : ChAt CC H' cc bk cd ts as ∧ BookAt CB H' bk nd ts ∧ H' ld = some (.dK (mapd yesV ks)) := by
  obtain ⟨⟨fx, g1⟩, g2, g3, g4⟩ := O.F
  obtain ⟨⟨cx, cr, s1⟩, s2, s3, s4⟩ := O.S
  obtain ⟨⟨bx, b1⟩, b2, b3⟩ := O.L.w.book
  exact ⟨⟨⟨cx, cr, k.old _ _ s1 (ne_of s1 g3 (by intro z; cases z))⟩, k.old _ _ s2 O.n3.symm, s3, s4⟩, ⟨⟨bx, k.old _ _ b1 (ne_of b1 g3 (by intro z; cases z))⟩, k.old _ _ b2 O.n1.symm, b3⟩, k.old _ _ O.eld O.n5⟩
theorem Ob.kept1 (O : Ob CB CC CF H bk nd td cc cd fe tl kd ld np cl ts kvs ch U tip ks as cs ns) (h : Reach ch [tip] a) : KeptOk ts ch (ks ++ [a]) := fun b hb => by
  rcases List.mem_append.mp hb with z | z
  · exact O.kept b z
  · rw [List.mem_singleton.mp z]
    obtain ⟨p, q, d, _, _, _, k, e⟩ := (O.L.lib a ((O.L.u a).mp (O.reach h))).ex
    exact ⟨d, e, k⟩
/-- a text was received, the law noted it -/
theorem Ob.recv (O : Ob CB CC CF H bk nd td cc cd fe tl kd ld np cl ts kvs ch U tip ks as cs ns) (F' : FeAt CF H' fe cc tl kd ts [tip] (ks ++ [a])) (k : Kp (· = kd) H H') (hr : Reach ch [tip] a) (ha : a ∉ ks) :
    Ob CB CC CF (upd H' ld (.dK (mapd yesV (ks ++ [a])))) bk nd td cc cd fe tl kd ld np cl ts kvs ch U tip (ks ++ [a]) as cs ns := by
  have k2 : Kp (fun b => b = kd ∨ b = ld) H (upd H' ld (.dK (mapd yesV (ks ++ [a])))) := (k.mono fun b z => Or.inl z).set (Or.inr rfl) fun xs z => by rw [O.eld] at z; cases z
  obtain ⟨⟨dx, f1⟩, f2, f3, f4⟩ := F'
  obtain ⟨⟨fx, g1⟩, g2, g3, g4⟩ := O.F
  obtain ⟨⟨cx, cr, s1⟩, s2, s3, s4⟩ := O.S
  obtain ⟨⟨bx, b1⟩, b2, b3⟩ := O.L.w.book
  have hl : ∀ b xs, H b = some (.lst xs) → ¬ (b = kd ∨ b = ld) := fun b xs e => by
    rintro (z | z)
    · exact ne_of e g3 (by intro z; cases z) z
    · exact ne_of e O.eld (by intro z; cases z) z
  have hi : ∀ b c d fs, H b = some (.ins c d fs) → ¬ (b = kd ∨ b = ld) := fun b c d fs e => by
    rintro (z | z)
    · exact ne_of e g3 (by intro z; cases z) z
    · exact ne_of e O.eld (by intro z; cases z) z
  have nfl : fe ≠ ld := fun z => hi _ _ _ _ g1 (.inr z)
  have ntl : tl ≠ ld := fun z => hl _ _ g2 (.inr z)
  refine { O with L := O.L.keep k2 (hi _ _ _ _ b1) ?_ ?_ hl, S := ⟨⟨cx, cr, k2.old _ _ s1 (hi _ _ _ _ s1)⟩, k2.old _ _ s2 ?_, s3, s4⟩, F := ⟨⟨dx, by rw [upd_ne nfl]; exact f1⟩, by rw [upd_ne ntl]; exact f2, by rw [upd_ne O.n5.symm]; exact f3, f4⟩
                  , eld := upd_same, enp := k2.old _ _ O.enp (hl _ _ O.enp), ecl := k2.old _ _ O.ecl (hl _ _ O.ecl), kU := fun b hb => ?_ }
  · rintro (z | z)
    · exact O.n1 z.symm
    · exact O.n6 z.symm
  · rintro (z | z)
    · exact O.n2 z.symm
    · exact O.n7 z.symm
  · rintro (z | z)
    · exact O.n3 z.symm
    · exact O.n8 z.symm
  · rcases List.mem_append.mp hb with z | z
    · exact O.kU b z
    · rw [List.mem_singleton.mp z]
      exact hr
end
end My
set_option Elab.async false
set_option linter.all false
set_option maxRecDepth 100000
set_option maxHeartbeats 8000000
/-! k75: the objects of a fetch into a store that holds something. -/
namespace My
open PySem L2 TL
theorem nod6 {a b c d e f : Addr} (h : [a, b, c, d, e, f].Nodup) : (a ≠ b ∧ a ≠ c ∧ a ≠ d ∧ a ≠ e ∧ a ≠ f) ∧ (b ≠ c ∧ b ≠ d ∧ b ≠ e ∧ b ≠ f) ∧ (c ≠ d ∧ c ≠ e ∧ c ≠ f) ∧ (d ≠ e ∧ d ≠ f) ∧ e ≠ f := by
  simp only [List.nodup_cons, List.mem_cons, List.not_mem_nil, not_or, or_false] at h
  obtain ⟨⟨a1, a2, a3, a4, a5⟩, ⟨b1, b2, b3, b4⟩, ⟨c1, c2, c3⟩, ⟨d1, d2⟩, e1, _⟩ := h
  exact ⟨⟨a1, a2, a3, a4, a5⟩, ⟨b1, b2, b3, b4⟩, ⟨c1, c2, c3⟩, ⟨d1, d2⟩, e1⟩
theorem Lib.step {C : Addr} {H H' : Hp} {bk nd td : Addr} {ts : List Str} {kvs : List (Key × V)} {ch : Int → List Int} {U : List Int} {ex : Addr → Prop} (L : Lib C H bk nd td ts kvs ch U) (k : Kp ex H H') (hn : H' nd = some (.dK (nums ts))) (ht : ¬ ex td) (hl : ∀ b xs, H b = some (.lst xs) → ¬ ex b) (hb : ¬ ex bk) : Lib C H' bk nd td ts kvs ch U := by
  obtain ⟨⟨⟨⟨bx, b1⟩, b2, b3⟩, tex, ne, keys, ent⟩, lib, u, len⟩ := L
  refine ⟨⟨⟨⟨bx, k.old _ _ b1 hb⟩, hn, b3⟩, k.old _ _ tex ht, ne, keys, fun x v hv => ?_⟩, fun a h => ?_, u, len⟩
  · obtain ⟨a, e, ⟨p, q, d, ks, e1, e2, e3, r⟩, ok⟩ := ent x v hv
    exact ⟨a, e, ⟨p, q, d, ks, e1, k.tup _ _ e2, k.old _ _ e3 (hl _ _ e3), r⟩, ok⟩
  · obtain ⟨⟨p, q, d, e1, e2, e3, r⟩, e6⟩ := lib a h
    exact ⟨⟨p, q, d, e1, k.tup _ _ e2, k.old _ _ e3 (hl _ _ e3), r⟩, e6⟩
/-- what stands while the law runs: as in the store, hs in the law's dict of held ones, ks kept by the fetch, ls by the law -/
structure Bs (CB CC CF : Addr) (H : Hp) (bk nd td cc cd fe tl kd ld hd tp : Addr) (ts : List Str) (kvs : List (Key × V)) (ch : Int → List Int) (U tips as hs ks ls : List Int) : Prop where
  L : Lib CB H bk nd td ts kvs ch U
  S : ChAt CC H cc bk cd ts as
  F : FeAt CF H fe cc tl kd ts tips ks
  eld : H ld = some (.dK (mapd yesV ls))
  ehd : H hd = some (.dK (mapd yesV hs))
  etp : H tp = some (.lst (tips.map V.int))
  nod : [nd, td, cd, kd, ld, hd].Nodup
  tU : ∀ t ∈ tips, t ∈ U
  kR : ∀ a ∈ ks, Reach ch tips a
section
variable {CB CC CF : Addr} {H H' : Hp} {bk nd td cc cd fe tl kd ld hd tp : Addr} {ts : List Str} {kvs : List (Key × V)} {ch : Int → List Int} {U tips as hs ks ls as' ks' ls' hs' : List Int} {a : Int}
theorem Bs.same (O : Bs CB CC CF H bk nd td cc cd fe tl kd ld hd tp ts kvs ch U tips as hs ks ls) (s : Same H H') : Bs CB CC CF H' bk nd td cc cd fe tl kd ld hd tp ts kvs ch U tips as hs ks ls :=
  ⟨O.L.same s, O.S.same s, O.F.same s, s _ _ O.eld, s _ _ O.ehd, s _ _ O.etp, O.nod, O.tU, O.kR⟩
/-- one of the dicts has changed -/
theorem Bs.step {ex : Addr → Prop} (O : Bs CB CC CF H bk nd td cc cd fe tl kd ld hd tp ts kvs ch U tips as hs ks ls) (k : Kp ex H H') (he : ∀ b, ex b → b = nd ∨ b = cd ∨ b = kd ∨ b = ld ∨ b = hd)
    (e1 : H' nd = some (.dK (nums ts))) (e2 : H' cd = some (.dK (mapd (fun a => .str (tOf ts a)) as')) ∧ as'.Nodup ∧ ∀ a ∈ as', Adr ts a) (e3 : H' kd = some (.dK (mapd (fun a => .str (tOf ts a)) ks')) ∧ ks'.Nodup ∧ ∀ a ∈ ks', Reach ch tips a)
    (e4 : H' ld = some (.dK (mapd yesV ls'))) (e5 : H' hd = some (.dK (mapd yesV hs'))) : Bs CB CC CF H' bk nd td cc cd fe tl kd ld hd tp ts kvs ch U tips as' hs' ks' ls' := by
  obtain ⟨⟨dx, f1⟩, f2, f3, f4⟩ := O.F
  obtain ⟨⟨cx, cr, s1⟩, s2, s3, s4⟩ := O.S
  obtain ⟨⟨bx, b1⟩, b2, b3⟩ := O.L.w.book
  have dict : ∀ b, ex b → ∃ n, H b = some (.dK n) := fun b hb => by
    rcases he b hb with z | z | z | z | z
    · exact ⟨_, z ▸ b2⟩
    · exact ⟨_, z ▸ s2⟩
    · exact ⟨_, z ▸ f3⟩
    · exact ⟨_, z ▸ O.eld⟩
    · exact ⟨_, z ▸ O.ehd⟩
  have hl : ∀ b xs, H b = some (.lst xs) → ¬ ex b := fun b xs e z => by
    obtain ⟨n, e'⟩ := dict b z
    rw [e] at e'
    cases e'
  have hi : ∀ b c d fs, H b = some (.ins c d fs) → ¬ ex b := fun b c d fs e z => by
    obtain ⟨n, e'⟩ := dict b z
    rw [e] at e'
    cases e'
  obtain ⟨⟨n1, n2, n3, n4, n5⟩, ⟨m1, m2, m3, m4⟩, _⟩ := nod6 O.nod
  have ht : ¬ ex td := fun z => by
    rcases he td z with z | z | z | z | z
    · exact n1 z.symm
    · exact m1 z
    · exact m2 z
    · exact m3 z
    · exact m4 z
  exact ⟨O.L.step k e1 ht hl (hi _ _ _ _ b1), ⟨⟨cx, cr, k.old _ _ s1 (hi _ _ _ _ s1)⟩, e2.1, e2.2.1, e2.2.2⟩, ⟨⟨dx, k.old _ _ f1 (hi _ _ _ _ f1)⟩, k.old _ _ f2 (hl _ _ f2), e3.1, e3.2.1⟩, e4, e5, k.old _ _ O.etp (hl _ _ O.etp), O.nod, O.tU, e3.2.2⟩
theorem Bs.inU (O : Bs CB CC CF H bk nd td cc cd fe tl kd ld hd tp ts kvs ch U tips as hs ks ls) (kept : Int → Bool) : In kept ch U (start tips) := in_start O.tU fun a ha _ => O.L.closed a ha
theorem Bs.reach (O : Bs CB CC CF H bk nd td cc cd fe tl kd ld hd tp ts kvs ch U tips as hs ks ls) (h : Reach ch tips a) : a ∈ U := reach_in O.tU O.L.closed a h
theorem Bs.pot (O : Bs CB CC CF H bk nd td cc cd fe tl kd ld hd tp ts kvs ch U tips as hs ks ls) (h : kvs.length ≤ 10000) (ht : tips.length ≤ 100) : My.pot ch U (start tips) ≤ 100000 := by
  have := pot_start (ch := ch) (U := U) (tips := tips) (c := 8) fun a ha => by
    obtain ⟨p, q, d, _, _, _, k, _⟩ := (O.L.lib a ((O.L.u a).mp ha)).ex
    exact k.few
  have := O.L.len
  omega
theorem Bs.kept (O : Bs CB CC CF H bk nd td cc cd fe tl kd ld hd tp ts kvs ch U tips as hs ks ls) : KeptOk ts ch ks := fun a ha => by
  obtain ⟨p, q, d, _, _, _, k, e⟩ := (O.L.lib a ((O.L.u a).mp (O.reach (O.kR a ha)))).ex
  exact ⟨d, e, k⟩
theorem Bs.adr (O : Bs CB CC CF H bk nd td cc cd fe tl kd ld hd tp ts kvs ch U tips as hs ks ls) (h : a ∈ U) : Adr ts a := O.L.w.adrOk ((O.L.u a).mp h)
theorem Bs.small (O : Bs CB CC CF H bk nd td cc cd fe tl kd ld hd tp ts kvs ch U tips as hs ks ls) : ks.length ≤ kvs.length ∧ as.length ≤ ts.length := by
  refine ⟨Nat.le_trans (nodup_sub_len O.F.nodup fun a ha => O.reach (O.kR a ha)) O.L.len, ?_⟩
  have := nodup_sub_len O.S.nodup (b := (List.range ts.length).map fun i => ((i + 1 : Nat) : Int)) fun a ha => by
    obtain ⟨h1, h2⟩ := O.S.ok a ha
    refine List.mem_map.mpr ⟨(a - 1).toNat, List.mem_range.mpr (by omega), by omega⟩
  simpa using this
end
end My
set_option Elab.async false
set_option linter.all false
set_option maxRecDepth 100000
set_option maxHeartbeats 8000000
/-! k75: the walks of Chunks.drop, _law_dict, _law_store, _law_receives, _law_is_still. -/
namespace My
open PySem L2 TL
theorem mapd_drop (f : Int → V) (as : List Int) (a : Int) : dropK (mapd f as) (Sum.inl a : Key) = mapd f (as.filter fun b => decide (b ≠ a)) := by
  unfold dropK mapd
  rw [List.filter_map]
  congr 1
  refine List.filter_congr fun b _ => ?_
  show decide ((Sum.inl b : Key) ≠ Sum.inl a) = decide (b ≠ a)
  by_cases h : b = a
  · subst h; simp
  · have : (Sum.inl b : Key) ≠ Sum.inl a := fun z => h (Sum.inl.inj z)
    simp [h, this]
def spDrop (C : Addr) : Sp := fun vs H Q _ => ∃ (cc bk cd : Addr) (ts : List Str) (as : List Int) (a : Int), vs = [.ref cc, .int a] ∧ ChAt C H cc bk cd ts as ∧ ∀ H', ChAt C H' cc bk cd ts (as.filter fun b => decide (b ≠ a)) → Kp (· = cd) H H' → Q .non H'
/-- a list of different ints -> a dict with them as its keys -/
def spLDict : Sp := fun vs H Q _ => ∃ (l : Addr) (as : List Int), vs = [.ref l] ∧ H l = some (.lst (as.map V.int)) ∧ as.Nodup ∧ as.length ≤ 100000 ∧ ∀ p H', Same H H' → H p = none → H' p = some (.dK (mapd yesV as)) → Q (.ref p) H'
def spLStore (CB CC : Addr) : Sp := fun vs H Q _ => ∃ (bk nd td l : Addr) (ts : List Str) (kvs : List (Key × V)) (ch : Int → List Int) (U as : List Int), vs = [.ref bk, .ref td, .ref l] ∧ Lib CB H bk nd td ts kvs ch U ∧ H l = some (.lst (as.map V.int)) ∧ as.Nodup ∧ (∀ a ∈ as, a ∈ U) ∧ as.length ≤ 100000 ∧ ts.length ≤ 100000 ∧
  ∀ cc cd H', H cc = none → H cd = none → H' nd = some (.dK (nums ts)) → ChAt CC H' cc bk cd ts as → Kp (· = nd) H H' → Q (.ref cc) H'
def spLReceives (CF CC CB : Addr) : Sp := fun vs H Q _ => ∃ (fe cc tl kd bk nd cd : Addr) (ts : List Str) (tips ks as U : List Int) (ch : Int → List Int) (a : Int) (t : Str) (due : Bool), vs = [.ref fe, .int a, .str t, .bl due] ∧ FeAt CF H fe cc tl kd ts tips ks ∧ ChAt CC H cc bk cd ts as ∧ BookAt CB H bk nd ts ∧
  In (mem ks) ch U (start tips) ∧ KeptOk ts ch ks ∧ pot ch U (start tips) ≤ 100000 ∧ Adr ts a ∧ ks.length ≤ 100000 ∧
  (¬ (a ∈ (fin (mem as) (mem ks) ch U tips).wd ∧ t = tOf ts a) → ∀ H', Same H H' → Q (.bl (decide (V.bl false = V.bl due))) H') ∧
  ((a ∈ (fin (mem as) (mem ks) ch U tips).wd ∧ t = tOf ts a) → ∀ H', FeAt CF H' fe cc tl kd ts tips (asAdd ks a) → Kp (· = kd) H H' → Q (.bl (decide (V.bl true = V.bl due))) H')
theorem seq_asg {te : TE} {g : TG} {u : TS} {D : Ends} {σ : L2.St} {H : Hp} (h : te σ H fun x H1 => g x σ H1 (u D)) : tSeq (tAsg te g) u D σ H := h
theorem g_n {i : Nat} {x : V} {σ : L2.St} {H : Hp} {k : L2.St → Hp → Prop} (h : k (σ.set i (some x)) H) : gName i x σ H k := h
section
variable {P : Program} {w : World} {K : PySem.W.Frag} {mg : Str → Option Value} {base : Heap} {f CF CC CB C : Addr} {fd : FuncData}
theorem ok_drop (F : Fun K "drop" "Chunks.drop" s_Chunks_drop f fd) (B : Bl mg) (T : TChunks K C) : FnOk P w K mg base CX0 1 f fd ["self", "address"] (spDrop C) := by
  refine F.ok sc_Chunks_drop (fun vs H Q E h => ?_) (fun cdv A outer s H vs Q E hr h => ?_)
  · obtain ⟨cc, bk, cd, ts, as, a, rfl, _⟩ := h
    rfl
  · obtain ⟨cc, bk, cd, ts, as, a, rfl, SC, k⟩ := h
    have hu := hu_of hr
    obtain ⟨⟨dx, r, h1⟩, hd, hn, hok⟩ := id SC
    refine ⟨_, (pss_one (ps_if (pt_cmp (pc_din hu (pv 1) (pe_fld (pv 0) rfl)))
        (pss_one (ps_ddel (pe_fld (pv 0) rfl) (pv 1)))
        pss_nil)), ?_⟩
    refine ⟨_, rfl, _, rfl, cc, C, dx, _, _, rfl, h1, T.cl, T.nT, cF_texts, cd, _, rfl, DGet.mapd hd a, _, rfl, ?_⟩
    by_cases hm : a ∈ as
    · rw [if_pos hm]
      refine if_t rfl ?_
      refine ⟨_, rfl, cc, C, dx, _, _, rfl, h1, T.cl, T.nT, cF_texts, _, rfl, cd, _, Sum.inl a, rfl, hd, rfl, (by rw [mapd_get, if_pos hm]; rfl), ?_⟩
      rw [mapd_drop]
      exact k _ ⟨⟨dx, r, by rw [upd_ne (ne_of h1 hd (by intro z; cases z))]; exact h1⟩, upd_same, hn.filter _, fun b hb => hok b (List.mem_filter.mp hb).1⟩ (Kp.refl.set rfl fun xs z => by rw [hd] at z; cases z)
    · rw [if_neg hm]
      refine if_f rfl ?_
      have e : as.filter (fun b => decide (b ≠ a)) = as := List.filter_eq_self.mpr fun b hb => decide_eq_true fun z => hm (z ▸ hb)
      exact k H (by rw [e]; exact SC) Kp.refl
theorem ok_ldict (F : Fun K "_law_dict" "_law_dict" s_Ldict f fd) (B : Bl mg) : FnOk P w K mg base CX0 1 f fd ["_law_addresses"] spLDict := by
  refine F.ok sc_Ldict (fun vs H Q E h => ?_) (fun cdv A outer s H vs Q E hr h => ?_)
  · obtain ⟨l, as, rfl, _⟩ := h
    rfl
  · obtain ⟨l, as, rfl, hl, hn, hz, q⟩ := h
    have hu := hu_of hr
    refine ⟨_, (pss_cons (ps_set (i := 1) sc_Ldict.nd rfl (Or.inl rfl) pe_dnewK)
      (pss_cons (ps_for PassesOwn.never rfl (pi_list (pv 0)) (pg_name (i := 2) sc_Ldict.nd rfl (Or.inl rfl))
        (pss_one (ps_dput hu (pv 1) (pv 2) pe_bl rfl)))
      (pss_one (ps_ret (pv 1))))), ?_⟩
    intro d hd
    have nld : l ≠ d := ne_of_none hl hd
    refine ⟨_, rfl, l, rfl, ⟨_, SqL.of (by rw [upd_ne nld]; exact hl)⟩, for_list (K := K) (a := l) (xs := as.map V.int) (fun i σ H' => ∃ v, σ = [some (.ref l), some (.ref d), v] ∧ Same H H' ∧ H' d = some (.dK (mapd yesV (as.take i))))
      ⟨none, rfl, same_new hd _, upd_same⟩ (fun i σ H' _ ⟨_, _, s, _⟩ => SqL.of (s _ _ hl)) ?_ ?_⟩
    · rintro i x σ H' hi ⟨v, rfl, s, e⟩
      obtain ⟨a, ha, rfl⟩ := List.getElem?_map .. ▸ hi |> fun h => by
        rw [Option.map_eq_some_iff] at h
        exact h
      have hil := (List.getElem?_eq_some_iff.mp ha).1
      have eta : as.take (i + 1) = as.take i ++ [a] := by
        rw [List.take_succ, ha]
        rfl
      have hna : a ∉ as.take i := fun z => by
        have := eta ▸ (List.take_sublist (i + 1) as).nodup hn
        rw [List.nodup_append] at this
        exact this.2.2 a z a List.mem_cons_self rfl
      refine ⟨_, rfl, _, rfl, d, _, rfl, DPut.k (k := Sum.inl a) e (by rw [mapd_len, List.length_take]; exact szlt (by omega)), ?_⟩
      rw [put_yes hna, ← eta]
      exact ⟨_, rfl, same_mut s hd _, upd_same⟩
    · rintro σ H' ⟨v, rfl, s, e⟩
      rw [List.length_map, List.take_length] at e
      exact ⟨_, rfl, q d H' s hd e⟩
theorem ok_lstore (F : Fun K "_law_store" "_law_store" s_Lstore f fd) (B : Bl mg) (D_Chunks : CDef P w K mg base 1 "Chunks" CC ["self", "book"] (spChInit CC)) (M_Chunks_put : MDef P w K mg base 2 CC "put" ["self", "text"] (spPut CB CC)) :
    FnOk P w K mg base CX0 3 f fd ["_law_book", "_law_texts", "_law_addresses"] (spLStore CB CC) := by
  refine F.ok sc_Lstore (fun vs H Q E h => ?_) (fun cdv A outer s H vs Q E hr h => ?_)
  · obtain ⟨bk, nd, td, l, ts, kvs, ch, U, as, rfl, _⟩ := h
    rfl
  · obtain ⟨bk, nd, td, l, ts, kvs, ch, U, as, rfl, L, hl, hn, haU, hz, hts, q⟩ := h
    have hu := hu_of hr
    refine ⟨_, (pss_cons (ps_set (i := 3) sc_Lstore.nd rfl (Or.inl rfl) (D_Chunks.make hr (by omega) (pa_cons (pv 0) pa_nil)))
      (pss_cons (ps_for PassesOwn.never rfl (pi_list (pv 2)) (pg_name (i := 4) sc_Lstore.nd rfl (Or.inl rfl))
        (pss_one (ps_expr (M_Chunks_put.call hr (by omega) (pv 3) (pa_cons (pe_ix ix_tup (pe_dget hu (pv 1) (pv 4) (fun _ _ => rfl)) pe_int (fun _ _ => rfl)) pa_nil)))))
      (pss_one (ps_ret (pv 3))))), ?_⟩
    refine seq_asg ?_
    refine mk_chunks (fun Q' h => ⟨_, rfl, h⟩) fun cc cd H1 s1 fcc fcd ncc SC => ?_
    have b3 := L.w.book.nodup
    have hnd := L.w.book.dc
    obtain ⟨bx, b1⟩ := L.w.book.ob
    have nln : l ≠ nd := ne_of hl hnd (by intro z; cases z)
    have ntn : td ≠ nd := L.w.ne.symm
    have nnc : nd ≠ cd := ne_of_none hnd fcd
    have hl1 := s1 _ _ hl
    refine ⟨_, rfl, l, rfl, ⟨_, SqL.of hl1⟩, for_list (K := K) (a := l) (xs := as.map V.int) (fun i σ H' => ∃ v, σ = [some (.ref bk), some (.ref td), some (.ref l), some (.ref cc), v] ∧ Kp (· = nd) H H' ∧ H' nd = some (.dK (nums ts)) ∧ ChAt CC H' cc bk cd ts (as.take i))
      ⟨none, rfl, Kp.same s1, s1 _ _ hnd, SC ts⟩ (fun i σ H' _ ⟨_, _, k, _⟩ => SqL.of (k.old _ _ hl nln)) ?_ ?_⟩
    · rintro i x σ H' hi ⟨v, rfl, k, e, S⟩
      obtain ⟨a, ha, rfl⟩ := List.getElem?_map .. ▸ hi |> fun h => by
        rw [Option.map_eq_some_iff] at h
        exact h
      have ham := List.mem_of_getElem? ha
      have eta : as.take (i + 1) = as.take i ++ [a] := by
        rw [List.take_succ, ha]
        rfl
      have hna : a ∉ as.take i := fun z => by
        have := eta ▸ (List.take_sublist (i + 1) as).nodup hn
        rw [List.nodup_append] at this
        exact this.2.2 a z a List.mem_cons_self rfl
      obtain ⟨⟨pa, qa, da, a1, a2, a3, a4, a5⟩, _⟩ := L.lib a ((L.u a).mp (haU a ham))
      have hadr : Adr ts a := L.w.adrOk ((L.u a).mp (haU a ham))
      have ga : DGet H' td (.int a) (some (.ref pa)) := by
        have := DGet.k (k := Sum.inl a) (k.old _ _ L.w.tex ntn)
        rw [a1] at this
        exact this
      obtain ⟨cx, cr, c1⟩ := S.ob
      refine ⟨_, rfl, cc, cx, _, rfl, c1, cF_no (by decide +kernel) (by decide +kernel) (by decide +kernel), _, rfl, _, rfl, td, _, rfl, ga, pa, _, _, _, rfl, rfl, SqT.of (k.tup _ _ a2), at0, ?_⟩
      have hbt : bookAdd ts (tx da.enc) = ts := bookAdd_in (a5 ▸ tOf_mem hadr)
      refine ⟨cc, bk, nd, cd, ts, as.take i, _, rfl, ⟨⟨bx, k.old _ _ b1 (ne_of b1 hnd (by intro z; cases z))⟩, e, b3⟩, S, nnc, by omega, by rw [List.length_take]; omega, fun H2 B2 S2 k2 => ?_⟩
      rw [hbt] at B2 S2
      rw [← a5, adr_tOf b3 hadr, show asAdd (as.take i) a = as.take i ++ [a] from if_neg hna, ← eta] at S2
      refine ⟨_, rfl, ⟨fun b o eb nb => ?_, fun b xs eb => k2.tup _ _ (k.tup _ _ eb)⟩, B2.dc, S2⟩
      exact k2.old _ _ (k.old _ _ eb nb) (by
        rintro (z | z)
        · exact nb z
        · exact ne_of_none eb fcd z)
    · rintro σ H' ⟨v, rfl, k, e, S⟩
      rw [List.length_map, List.take_length] at S
      exact ⟨_, rfl, q cc cd H' fcc fcd e S k⟩
theorem ok_lreceives (F : Fun K "_law_receives" "_law_receives" s_Lreceives f fd) (B : Bl mg) (M_Fetch_receive : MDef P w K mg base 22 CF "receive" ["self", "address", "text"] (spFeReceive CF CC CB)) :
    FnOk P w K mg base CX0 23 f fd ["_law_fetch", "_law_address", "_law_text_here", "_law_due"] (spLReceives CF CC CB) := by
  refine F.ok sc_Lreceives (fun vs H Q E h => ?_) (fun cdv A outer s H vs Q E hr h => ?_)
  · obtain ⟨fe, cc, tl', kd, bk, nd, cd, ts, tips, ks, as, U, ch, a, t, due, rfl, _⟩ := h
    rfl
  · obtain ⟨fe, cc, tl', kd, bk, nd, cd, ts, tips, ks, as, U, ch, a, t, due, rfl, SF, SC, SB, hI, hK, hpot, hA, hks, q0, q1⟩ := h
    have hu := hu_of hr
    refine ⟨_, (pss_cons (ps_set (i := 4) sc_Lreceives.nd rfl (Or.inl rfl) (M_Fetch_receive.call hr (by omega) (pv 0) (pa_cons (pv 1) (pa_cons (pv 2) pa_nil))))
      (pss_one (ps_ret (pe_and (pe_callB call_isi (by rfl) B.isinstance (by decide +kernel) (pa_cons (pv 4) (pa_cons (pe_bltn (v := .ty "bool") (by rfl) B.bool (by decide +kernel) rfl) pa_nil))) (pe_one (pe_cmpR op_eq (pv 4) (pv 3) (nomark _))))))), ?_⟩
    obtain ⟨fx, f1⟩ := SF.ob
    refine ⟨_, rfl, fe, fx, _, rfl, f1, fF_no (by decide +kernel) (by decide +kernel) (by decide +kernel), _, rfl, _, rfl, ?_⟩
    refine ⟨fe, cc, tl', kd, bk, nd, cd, ts, tips, ks, as, U, ch, a, t, rfl, SF, SC, SB, hI, hK, hpot, hA, hks, fun hn H' s => ?_, fun hc H' F' k => ?_⟩
    · exact ⟨_, rfl, _, _, _, _, true, rfl, .ty "bool", .base (.bl _), kit_ty (by decide +kernel), _, rfl, if_t rfl ⟨_, rfl, _, rfl, rfl, q0 hn H' s⟩⟩
    · exact ⟨_, rfl, _, _, _, _, true, rfl, .ty "bool", .base (.bl _), kit_ty (by decide +kernel), _, rfl, if_t rfl ⟨_, rfl, _, rfl, rfl, q1 hc H' F' k⟩⟩
end
end My
set_option Elab.async false
set_option linter.all false
set_option maxRecDepth 100000
set_option maxHeartbeats 8000000
/-! k75: the walks of _law_is_still, _law_comes_by, _law_has_no_tips. -/
namespace My
open PySem L2 TL
abbrev WD (as ks : List Int) (ch : Int → List Int) (U tips : List Int) : List Int := (fin (mem as) (mem ks) ch U tips).wd
structure Sm (ts : List Str) (kvs : List (Key × V)) (tips : List Int) : Prop where
  a : ts.length ≤ 10000
  b : kvs.length ≤ 10000
  c : tips.length ≤ 100
def spLIsStill (CB CC CF : Addr) : Sp := fun vs H Q _ => ∃ (bk nd td cc cd fe tl kd ld hd tp wl : Addr) (ts : List Str) (kvs : List (Key × V)) (ch : Int → List Int) (U tips as ks ls : List Int), vs = [.ref fe, .ref cc, .ref hd, .ref wl] ∧
  Bs CB CC CF H bk nd td cc cd fe tl kd ld hd tp ts kvs ch U tips as as ks ls ∧ H wl = some (.lst ((srt (WD as ks ch U tips)).map V.int)) ∧ Sm ts kvs tips ∧ ∀ H', Same H H' → Q (.bl true) H'
def spLComesBy (CB CC CF : Addr) : Sp := fun vs H Q _ => ∃ (bk nd td cc cd fe tl kd ld hd tp : Addr) (ts : List Str) (kvs : List (Key × V)) (ch : Int → List Int) (U tips as ks ls : List Int) (a : Int), vs = [.ref fe, .ref cc, .ref td, .ref hd, .int a] ∧
  Bs CB CC CF H bk nd td cc cd fe tl kd ld hd tp ts kvs ch U tips as as ks ls ∧ a ∈ U ∧ a ∉ as ∧ Sm ts kvs tips ∧ ∀ H', Bs CB CC CF H' bk nd td cc cd fe tl kd ld hd tp ts kvs ch U tips (as ++ [a]) (as ++ [a]) ks ls → Kp (fun b => b = nd ∨ b = cd ∨ b = hd) H H' → Q (.bl true) H'
def spLNoTips (CB CC CF : Addr) : Sp := fun vs H Q _ => ∃ (bk nd td cc cd fe tl kd ld hd tp : Addr) (ts : List Str) (kvs : List (Key × V)) (ch : Int → List Int) (U tips as hs ks ls : List Int), vs = [.ref cc] ∧
  Bs CB CC CF H bk nd td cc cd fe tl kd ld hd tp ts kvs ch U tips as hs ks ls ∧ Sm ts kvs tips ∧ ∀ H' as', Bs CB CC CF H' bk nd td cc cd fe tl kd ld hd tp ts kvs ch U tips as' hs ks ls → (∀ x, x ∈ as' ↔ x ∈ as) → Kp (fun b => b = nd ∨ b = cd) H H' → Q (.bl true) H'
section
variable {P : Program} {w : World} {K : PySem.W.Frag} {mg : Str → Option Value} {base : Heap} {f CF CC CB C : Addr} {fd : FuncData}
theorem Bs.wdLen {CB CC CF : Addr} {H : Hp} {bk nd td cc cd fe tl kd ld hd tp : Addr} {ts : List Str} {kvs : List (Key × V)} {ch : Int → List Int} {U tips as hs ks ls : List Int} (O : Bs CB CC CF H bk nd td cc cd fe tl kd ld hd tp ts kvs ch U tips as hs ks ls) (as' ks' : List Int) : (srt (WD as' ks' ch U tips)).length ≤ kvs.length := by
  rw [srt_len]
  exact Nat.le_trans (nodup_sub_len (sound_fin (held := mem as') (kept := mem ks') (ch := ch) U tips).wd fun a ha => O.reach (wanted_new ha).2) O.L.len
theorem ok_lis_still (F : Fun K "_law_is_still" "_law_is_still" s_Lis_still f fd) (B : Bl mg) (D_Lis_list : Def P w K mg base 1 "_law_is_list" ["_law_actual", "_law_due"] spLIsList) (M_Fetch_wants : MDef P w K mg base 21 CF "wants" ["self"] (spFeWants CF CC)) (M_Chunks_addresses : MDef P w K mg base 1 CC "addresses" ["self"] (spAddresses CC))
    (M_Fetch_finish : MDef P w K mg base 22 CF "finish" ["self"] (spFeFinish CF CC CB)) : FnOk P w K mg base CX0 23 f fd ["_law_fetch", "_law_chunks", "_law_held", "_law_wanted"] (spLIsStill CB CC CF) := by
  refine F.ok sc_Lis_still (fun vs H Q E h => ?_) (fun cdv A outer s H vs Q E hr h => ?_)
  · obtain ⟨bk, nd, td, cc, cd, fe, tl', kd, ld, hd, tp, wl, ts, kvs, ch, U, tips, as, ks, ls, rfl, _⟩ := h
    rfl
  · obtain ⟨bk, nd, td, cc, cd, fe, tl', kd, ld, hd, tp, wl, ts, kvs, ch, U, tips, as, ks, ls, rfl, O, ewl, Z, q⟩ := h
    have hu := hu_of hr
    refine ⟨_, (pss_cons (ps_set (i := 4) sc_Lis_still.nd rfl (Or.inl rfl) (M_Fetch_wants.call0 hr (by omega) (pv 0)))
      (pss_cons (ps_if (PW.pt (pw_or (pt_not (pt_val (D_Lis_list.call hr (by omega) (pa_cons (pv 4) (pa_cons (pv 3) pa_nil))))) (pw_or1 (pt_not (pt_val (D_Lis_list.call hr (by omega) (pa_cons (M_Chunks_addresses.call0 hr (by omega) (pv 1)) (pa_cons (pe_callB cr_sortedI (by rfl) B.sorted (by decide +kernel) (pa_cons (pe_callTy (call_listD rfl) (by rfl) B.list (by decide +kernel) (pa_cons (pv 2) pa_nil)) pa_nil)) pa_nil))))))))
        (pss_one (ps_ret pe_bl))
        pss_nil)
      (pss_cons (ps_expr (pe_bm PySem.F.plainAttrs_list PySem.F.slot_list_append PySem.F.type_list_append mt_append (pv 4) (pa_cons pe_int pa_nil)))
      (pss_one (ps_ret (pe_or (pe_cmpR (op_eqNil hr.units0) (pv 3) (pe_lst pa_nil) (nomark _)) (pe_one (pe_cmpR op_isBl (M_Fetch_finish.call0 hr (by omega) (pv 0)) pe_bl (nomark _))))))))), ?_⟩
    have za := Z.a
    have zb := Z.b
    have hpot := O.pot Z.b Z.c
    obtain ⟨h4, h5⟩ := O.small
    have hwz : (srt (fin (mem as) (mem ks) ch U tips).wd).length ≤ kvs.length := O.wdLen as ks
    obtain ⟨⟨n1, n2, n3, n4, n5⟩, ⟨m1, m2, m3, m4⟩, ⟨k1, k2, k3⟩, _⟩ := nod6 O.nod
    obtain ⟨fx, f1⟩ := O.F.ob
    refine ⟨_, rfl, fe, fx, _, rfl, f1, fF_no (by decide +kernel) (by decide +kernel) (by decide +kernel), ?_⟩
    refine ⟨fe, cc, tl', kd, bk, cd, ts, tips, ks, as, U, ch, rfl, O.F, O.S, O.inU _, O.kept, hpot, fun p H1 s1 fp ep => ?_⟩
    have O1 := O.same s1
    refine ⟨_, rfl, _, rfl, p, wl, _, rfl, ep, s1 _ _ ewl, (by omega), _, rfl, if_f rfl ?_⟩
    obtain ⟨cx, cr, c1⟩ := O1.S.ob
    refine ⟨_, rfl, cc, cx, _, rfl, c1, cF_no (by decide +kernel) (by decide +kernel) (by decide +kernel), cc, bk, cd, ts, as, rfl, O1.S, fun p2 H2 s2 fp2 ep2 => ?_⟩
    have O2 := O1.same s2
    refine ⟨_, rfl, hd, _, rfl, .inl O2.ehd, fun lp hlp => ?_⟩
    rw [mapd_keys]
    have s3 : Same H2 (upd H2 lp (.lst (as.map V.int))) := same_new hlp _
    refine ⟨lp, as, rfl, SqL.of upd_same, fun ns' p3 hpm hs hp3 => ?_⟩
    rw [srt_of hpm hs]
    have s4 := s3.trans (same_new hp3 (.lst ((srt as).map V.int)))
    refine ⟨p2, p3, _, rfl, s4 _ _ ep2, upd_same, (by rw [srt_len]; omega), _, rfl, if_f rfl ?_⟩
    have s14 := s2.trans s4
    have ep4 := s14 _ _ ep
    generalize upd (upd H2 lp (.lst (as.map V.int))) p3 (.lst ((srt as).map V.int)) = H4 at s4 s14 ep4 ⊢
    refine ⟨_, rfl, .inl ⟨rfl, _, SqL.of ep4⟩, p, _, _, rfl, rfl, ep4, (by rw [List.length_map]; exact szlt (by omega)), ?_⟩
    have s5 : Same H (upd H4 p (.lst ((srt (WD as ks ch U tips)).map V.int ++ [.int 0]))) := same_mut (s1.trans s14) fp _
    have O5 := O.same s5
    have ewl5 := s5 _ _ ewl
    generalize upd H4 p (.lst ((srt (WD as ks ch U tips)).map V.int ++ [.int 0])) = H5 at s5 O5 ewl5 ⊢
    refine ⟨_, rfl, (by show 0 ≤ sizeLine; decide), fun e0 he0 => ?_⟩
    have s6 : Same H5 (upd H5 e0 (.lst [])) := same_new he0 _
    refine ⟨wl, e0, _, rfl, rfl, SqL.of (s6 _ _ ewl5), SqL.of upd_same, _, rfl, ?_⟩
    have O6 := O5.same s6
    have s06 := s5.trans s6
    generalize upd H5 e0 (.lst []) = H6 at s6 O6 s06 ⊢
    by_cases hw : WD as ks ch U tips = []
    · refine if_t (by rw [srt_nil.mpr hw]; rfl) ?_
      exact q _ s06
    · refine if_f (by
        cases h : srt (WD as ks ch U tips) with
        | nil => exact absurd (srt_nil.mp h) hw
        | cons a l => rfl) ?_
      obtain ⟨fx6, f6⟩ := O6.F.ob
      refine ⟨_, rfl, fe, fx6, _, rfl, f6, fF_no (by decide +kernel) (by decide +kernel) (by decide +kernel), ?_⟩
      refine ⟨fe, cc, tl', kd, bk, nd, cd, ts, tips, ks, as, U, ch, rfl, O6.F, O6.S, O6.L.w.book, O6.inU _, O6.kept, hpot, fun a ha => O6.adr (O6.reach (O6.kR a ha)), n2, n3.symm, k1.symm, by omega, by omega, fun _ H7 s7 => ?_, fun z => absurd z hw⟩
      exact ⟨_, _, rfl, rfl, q _ (s06.trans s7)⟩
theorem ok_lcomes_by (F : Fun K "_law_comes_by" "_law_comes_by" s_Lcomes_by f fd) (B : Bl mg) (D_Lreceives : Def P w K mg base 23 "_law_receives" ["_law_fetch", "_law_address", "_law_text_here", "_law_due"] (spLReceives CF CC CB)) (M_Chunks_put : MDef P w K mg base 2 CC "put" ["self", "text"] (spPut CB CC)) :
    FnOk P w K mg base CX0 24 f fd ["_law_fetch", "_law_chunks", "_law_texts", "_law_held", "_law_address"] (spLComesBy CB CC CF) := by
  refine F.ok sc_Lcomes_by (fun vs H Q E h => ?_) (fun cdv A outer s H vs Q E hr h => ?_)
  · obtain ⟨bk, nd, td, cc, cd, fe, tl', kd, ld, hd, tp, ts, kvs, ch, U, tips, as, ks, ls, a, rfl, _⟩ := h
    rfl
  · obtain ⟨bk, nd, td, cc, cd, fe, tl', kd, ld, hd, tp, ts, kvs, ch, U, tips, as, ks, ls, a, rfl, O, haU, hna, Z, q⟩ := h
    have hu := hu_of hr
    refine ⟨_, (pss_cons (ps_expr (M_Chunks_put.call hr (by omega) (pv 1) (pa_cons (pe_ix ix_tup (pe_dget hu (pv 2) (pv 4) (fun _ _ => rfl)) pe_int (fun _ _ => rfl)) pa_nil)))
      (pss_cons (ps_dput hu (pv 3) (pv 4) pe_bl rfl)
      (pss_one (ps_ret (D_Lreceives.call hr (by omega) (pa_cons (pv 0) (pa_cons (pv 4) (pa_cons (pe_ix ix_tup (pe_dget hu (pv 2) (pv 4) (fun _ _ => rfl)) pe_int (fun _ _ => rfl)) (pa_cons pe_bl pa_nil))))))))), ?_⟩
    have za := Z.a
    have zb := Z.b
    have hpot := O.pot Z.b Z.c
    obtain ⟨h4, h5⟩ := O.small
    obtain ⟨⟨n1, n2, n3, n4, n5⟩, ⟨m1, m2, m3, m4⟩, ⟨k1, k2, k3⟩, ⟨d1, d2⟩, e1⟩ := nod6 O.nod
    obtain ⟨⟨pa, qa, da, a1, a2, a3, a4, a5⟩, _⟩ := O.L.lib a ((O.L.u a).mp haU)
    have hadr := O.adr haU
    have ga : ∀ H', Kp (fun b => b = nd ∨ b = cd ∨ b = hd) H H' → DGet H' td (.int a) (some (.ref pa)) := fun H' k => by
      have := DGet.k (k := Sum.inl a) (k.old _ _ O.L.w.tex (by
        rintro (z | z | z)
        · exact n1 z.symm
        · exact m1 z
        · exact m4 z))
      rw [a1] at this
      exact this
    obtain ⟨cx, cr, c1⟩ := O.S.ob
    have b3 := O.L.w.book.nodup
    have hbt : bookAdd ts (tx da.enc) = ts := bookAdd_in (a5 ▸ tOf_mem hadr)
    refine ⟨_, rfl, cc, cx, _, rfl, c1, cF_no (by decide +kernel) (by decide +kernel) (by decide +kernel), _, rfl, _, rfl, td, _, rfl, ga H Kp.refl, pa, _, _, _, rfl, rfl, SqT.of a2, at0, ?_⟩
    refine ⟨cc, bk, nd, cd, ts, as, _, rfl, O.L.w.book, O.S, n2, by omega, by omega, fun H1 B1 S1 kp1 => ?_⟩
    rw [hbt] at B1 S1
    rw [← a5, adr_tOf b3 hadr, show asAdd as a = as ++ [a] from if_neg hna] at S1
    have hd1 := kp1.old _ _ O.ehd (by
      rintro (z | z)
      · exact n5 z.symm
      · exact k3 z.symm)
    refine ⟨_, rfl, _, rfl, hd, _, rfl, DPut.k (k := Sum.inl a) hd1 (by rw [mapd_len]; exact szlt (by omega)), ?_⟩
    rw [put_yes hna]
    have kp2 : Kp (fun b => b = nd ∨ b = cd ∨ b = hd) H (upd H1 hd (.dK (mapd yesV (as ++ [a])))) := (kp1.mono fun b z => by
      rcases z with z | z
      · exact Or.inl z
      · exact Or.inr (Or.inl z)).set (Or.inr (Or.inr rfl)) fun xs z => by rw [O.ehd] at z; cases z
    have O2 : Bs CB CC CF (upd H1 hd (.dK (mapd yesV (as ++ [a])))) bk nd td cc cd fe tl' kd ld hd tp ts kvs ch U tips (as ++ [a]) (as ++ [a]) ks ls := by
      refine O.step kp2 (fun b z => ?_) ?_ ⟨?_, S1.nodup, S1.ok⟩ ⟨?_, O.F.nodup, O.kR⟩ ?_ upd_same
      · rcases z with z | z | z
        · exact .inl z
        · exact .inr (.inl z)
        · exact .inr (.inr (.inr (.inr z)))
      · rw [upd_ne n5]
        exact B1.dc
      · rw [upd_ne k3]
        exact S1.dc
      · exact kp2.old _ _ O.F.dc (by
          rintro (z | z | z)
          · exact n3 z.symm
          · exact k1 z.symm
          · exact d2 z)
      · exact kp2.old _ _ O.eld (by
          rintro (z | z | z)
          · exact n4 z.symm
          · exact k2 z.symm
          · exact e1 z)
    generalize upd H1 hd (.dK (mapd yesV (as ++ [a]))) = H2 at kp2 O2 ⊢
    refine ⟨_, rfl, _, rfl, _, rfl, _, rfl, td, _, rfl, ga H2 kp2, pa, _, _, _, rfl, rfl, SqT.of (kp2.tup _ _ a2), at0, ?_⟩
    refine ⟨fe, cc, tl', kd, bk, nd, cd, ts, tips, ks, as ++ [a], U, ch, a, _, false, rfl, O2.F, O2.S, O2.L.w.book, O2.inU _, O2.kept, hpot, hadr, by omega, fun _ H3 s3 => q H3 (O2.same s3) (kp2.trans (Kp.same s3)), fun z => ?_⟩
    exfalso
    have := (sound_fin (held := mem (as ++ [a])) (kept := mem ks) (ch := ch) U tips).hld a ((sound_fin (held := mem (as ++ [a])) (kept := mem ks) (ch := ch) U tips).sub a z.1)
    unfold mem at this
    simp at this
theorem ok_lno_tips (F : Fun K "_law_has_no_tips" "_law_has_no_tips" s_Lhas_no_tips f fd) (B : Bl mg) (D_Fetch : CDef P w K mg base 1 "Fetch" CF ["self", "chunks", "tips"] (spFeInit CF)) (D_Lis_list : Def P w K mg base 1 "_law_is_list" ["_law_actual", "_law_due"] spLIsList)
    (M_Fetch_wants : MDef P w K mg base 21 CF "wants" ["self"] (spFeWants CF CC)) (M_Fetch_finish : MDef P w K mg base 22 CF "finish" ["self"] (spFeFinish CF CC CB)) : FnOk P w K mg base CX0 23 f fd ["_law_chunks"] (spLNoTips CB CC CF) := by
  refine F.ok sc_Lhas_no_tips (fun vs H Q E h => ?_) (fun cdv A outer s H vs Q E hr h => ?_)
  · obtain ⟨bk, nd, td, cc, cd, fe, tl', kd, ld, hd, tp, ts, kvs, ch, U, tips, as, hs, ks, ls, rfl, _⟩ := h
    rfl
  · obtain ⟨bk, nd, td, cc, cd, fe, tl', kd, ld, hd, tp, ts, kvs, ch, U, tips, as, hs, ks, ls, rfl, O, Z, q⟩ := h
    have hu := hu_of hr
    refine ⟨_, (pss_cons (ps_set (i := 1) sc_Lhas_no_tips.nd rfl (Or.inl rfl) (D_Fetch.make hr (by omega) (pa_cons (pv 0) (pa_cons (pe_lst pa_nil) pa_nil))))
      (pss_one (ps_ret (pe_and (D_Lis_list.call hr (by omega) (pa_cons (M_Fetch_wants.call0 hr (by omega) (pv 1)) (pa_cons (pe_lst pa_nil) pa_nil))) (pe_one (pe_cmpR op_isBl (M_Fetch_finish.call0 hr (by omega) (pv 1)) pe_bl (nomark _))))))), ?_⟩
    have za := Z.a
    have zb := Z.b
    obtain ⟨h4, h5⟩ := O.small
    obtain ⟨⟨n1, n2, n3, n4, n5⟩, ⟨m1, m2, m3, m4⟩, ⟨k1, k2, k3⟩, ⟨d1, d2⟩, e1⟩ := nod6 O.nod
    refine seq_asg ?_
    refine mk_fetch (tips := []) (fun Q' hQ => ⟨_, rfl, (by show 0 ≤ sizeLine; decide), fun tl0 htl0 => hQ tl0 _ (same_new htl0 _) htl0 upd_same⟩) fun fe2 tl2 kd2 H1 s1 ffe ftl fkd nkt nkf FA => ?_
    have O1 := O.same s1
    have F1 := FA ts
    have hI : In (mem []) ch U (start []) := in_start (fun t h => absurd h List.not_mem_nil) fun a ha _ => O.L.closed a ha
    have hp0 : pot ch U (start []) ≤ 100000 := by
      have := pot_start (ch := ch) (U := U) (tips := []) (c := 8) fun a ha => by
        obtain ⟨p, q, d, _, _, _, k, _⟩ := (O.L.lib a ((O.L.u a).mp ha)).ex
        exact k.few
      have := O.L.len
      simp only [List.length_nil] at *
      omega
    have hw : (fin (mem as) (mem []) ch U []).wd = [] := by
      refine List.eq_nil_iff_forall_not_mem.mpr fun a ha => ?_
      have r := (wanted_new ha).2
      have no : ∀ x, ¬ Reach ch [] x := fun x r => by
        induction r with
        | tip h => cases h
        | step _ _ ih => exact ih
      exact no a r
    obtain ⟨fx, f1⟩ := F1.ob
    refine ⟨_, rfl, fe2, fx, _, rfl, f1, fF_no (by decide +kernel) (by decide +kernel) (by decide +kernel), ?_⟩
    refine ⟨fe2, cc, tl2, kd2, bk, cd, ts, [], [], as, U, ch, rfl, F1, O1.S, hI, fun a h => absurd h List.not_mem_nil, hp0, fun p H2 s2 fp ep => ?_⟩
    rw [hw] at ep
    have enil : srt ([] : List Int) = [] := srt_nil.mpr rfl
    rw [enil] at ep
    refine ⟨(by show 0 ≤ sizeLine; decide), fun e0 he0 => ?_⟩
    have s3 := s2.trans (same_new he0 (.lst []))
    have O3 := O1.same s3
    have F3 := F1.same s3
    refine ⟨p, e0, [], rfl, same_new he0 _ _ _ ep, upd_same, Nat.zero_le _, _, rfl, if_t rfl ?_⟩
    generalize upd H2 e0 (.lst []) = H3 at s3 O3 F3 ⊢
    obtain ⟨fx3, f3⟩ := F3.ob
    refine ⟨_, rfl, fe2, fx3, _, rfl, f3, fF_no (by decide +kernel) (by decide +kernel) (by decide +kernel), ?_⟩
    refine ⟨fe2, cc, tl2, kd2, bk, nd, cd, ts, [], [], as, U, ch, rfl, F3, O3.S, O3.L.w.book, hI, fun a h => absurd h List.not_mem_nil, hp0, fun a h => absurd h List.not_mem_nil, n2, (ne_of_none O.L.w.book.dc fkd).symm, (ne_of_none O.S.dc fkd).symm, by omega, by simp only [List.length_nil]; omega, fun z => absurd hw z, fun _ H4 as' B4 S4 hm k4 => ?_⟩
    refine ⟨_, _, rfl, rfl, ?_⟩
    have kk : Kp (fun b => b = nd ∨ b = cd) H H4 := (Kp.same (s1.trans s3)).trans k4
    refine q H4 as' (O3.step k4 (fun b z => ?_) B4.dc ⟨S4.dc, S4.nodup, S4.ok⟩ ⟨?_, O.F.nodup, O.kR⟩ ?_ ?_) (fun x => by rw [hm]; simp) kk
    · rcases z with z | z
      · exact .inl z
      · exact .inr (.inl z)
    · exact k4.old _ _ O3.F.dc (by
        rintro (z | z)
        · exact n3 z.symm
        · exact k1 z.symm)
    · exact k4.old _ _ O3.eld (by
        rintro (z | z)
        · exact n4 z.symm
        · exact k2 z.symm)
    · exact k4.old _ _ O3.ehd (by
        rintro (z | z)
        · exact n5 z.symm
        · exact k3 z.symm)
end
end My
set_option Elab.async false
set_option linter.all false
set_option maxRecDepth 100000
set_option maxHeartbeats 8000000
/-! k75: the walk of _law_wants_what_went. -/
namespace My
open PySem L2 TL
theorem filter_out {a : Int} : ∀ {as : List Int}, as.Nodup → a ∈ as → (as.filter fun b => decide (b ≠ a)).length + 1 = as.length
  | [], _, h => by cases h
  | b :: as, hn, h => by
    obtain ⟨h1, h2⟩ := List.nodup_cons.mp hn
    by_cases e : b = a
    · subst e
      have : as.filter (fun c => decide (c ≠ b)) = as := List.filter_eq_self.mpr fun c hc => decide_eq_true fun z => h1 (z ▸ hc)
      rw [List.filter_cons, if_neg (by simp), this, List.length_cons]
    · have ha : a ∈ as := by
        rcases List.mem_cons.mp h with z | z
        · exact absurd z.symm e
        · exact z
      have := filter_out h2 ha
      rw [List.filter_cons, if_pos (by simp [e]), List.length_cons, List.length_cons]
      omega
def spLWentWants (CB CC CF : Addr) : Sp := fun vs H Q _ => ∃ (bk nd td cc cd fe tl kd ld hd tp dl : Addr) (ts : List Str) (kvs : List (Key × V)) (ch : Int → List Int) (U tips as hs ks : List Int), vs = [.ref fe, .ref cc, .ref td, .ref tp, .ref dl, .ref ld] ∧
  Bs CB CC CF H bk nd td cc cd fe tl kd ld hd tp ts kvs ch U tips as hs ks ks ∧ H dl = some (.lst ((srt as).map V.int)) ∧ (∀ t ∈ tips, t ∈ as ∨ t ∈ ks) ∧ Sm ts kvs tips ∧ ∀ H', Q (.bl true) H'
section
variable {P : Program} {w : World} {K : PySem.W.Frag} {mg : Str → Option Value} {base : Heap} {f CF CC CB C : Addr} {fd : FuncData}
theorem ok_lwent (F : Fun K "_law_wants_what_went" "_law_wants_what_went" s_Lwants_what_went f fd) (B : Bl mg) (D_Lreceives : Def P w K mg base 23 "_law_receives" ["_law_fetch", "_law_address", "_law_text_here", "_law_due"] (spLReceives CF CC CB)) (D_Ldict : Def P w K mg base 1 "_law_dict" ["_law_addresses"] spLDict)
    (D_Lis_list : Def P w K mg base 1 "_law_is_list" ["_law_actual", "_law_due"] spLIsList) (D_Lwants : Def P w K mg base 1 "_law_wants" ["_law_texts", "_law_tips", "_law_held", "_law_kept"] (spLWants CB)) (M_Chunks_drop : MDef P w K mg base 1 CC "drop" ["self", "address"] (spDrop CC)) (M_Chunks_addresses : MDef P w K mg base 1 CC "addresses" ["self"] (spAddresses CC))
    (M_Fetch_wants : MDef P w K mg base 21 CF "wants" ["self"] (spFeWants CF CC)) (M_Fetch_finish : MDef P w K mg base 22 CF "finish" ["self"] (spFeFinish CF CC CB)) :
    FnOk P w K mg base CX0 24 f fd ["_law_fetch", "_law_chunks", "_law_texts", "_law_tips", "_law_due", "_law_kept"] (spLWentWants CB CC CF) := by
  refine F.ok sc_Lwants_what_went (fun vs H Q E h => ?_) (fun cdv A outer s H vs Q E hr h => ?_)
  · obtain ⟨bk, nd, td, cc, cd, fe, tl', kd, ld, hd, tp, dl, ts, kvs, ch, U, tips, as, hs, ks, rfl, _⟩ := h
    rfl
  · obtain ⟨bk, nd, td, cc, cd, fe, tl', kd, ld, hd, tp, dl, ts, kvs, ch, U, tips, as, hs, ks, rfl, O, edl, hcl, Z, q⟩ := h
    have hu := hu_of hr
    refine ⟨_, (pss_cons (ps_setLc (i := 6) (own := [("_law_address", 9)]) (g := gName 9) rfl sc_Lwants_what_went.nd rfl rfl (sw_true rfl rfl rfl (by decide +kernel)) (pi_list (pv 3)) (blkOk_by (own := [("_law_address", 9)]) (N := N_Lwants_what_went) (sc := defScope s_Lwants_what_went) (by decide +kernel)) (fun _ _ _ _ _ => (pg_name (i := 9) sc_Lwants_what_went.nd rfl (Or.inl rfl))) (fun _ _ _ _ _ => (pts_one (pt_cmp (pc_dnotin hu (pv 9) (pv 5))))) (fun _ _ _ _ _ => (pv 9)))
      (pss_cons (ps_if (pt_cmpR (op_eqNil hr.units0) (pv 6) (pe_lst pa_nil) (nomark _))
        (pss_one (ps_ret pe_bl))
        pss_nil)
      (pss_cons (ps_expr (M_Chunks_drop.call hr (by omega) (pv 1) (pa_cons (pe_ix ix_list (pv 6) pe_int (fun _ _ => rfl)) pa_nil)))
      (pss_cons (ps_set (i := 7) sc_Lwants_what_went.nd rfl (Or.inl rfl) (D_Ldict.call hr (by omega) (pa_cons (M_Chunks_addresses.call0 hr (by omega) (pv 1)) pa_nil)))
      (pss_cons (ps_set (i := 8) sc_Lwants_what_went.nd rfl (Or.inl rfl) (D_Lwants.call hr (by omega) (pa_cons (pv 2) (pa_cons (pv 3) (pa_cons (pv 7) (pa_cons (pv 5) pa_nil))))))
      (pss_cons (ps_if (PW.pt (pw_or (pt_not (pt_val (D_Lis_list.call hr (by omega) (pa_cons (M_Fetch_wants.call0 hr (by omega) (pv 0)) (pa_cons (pv 8) pa_nil))))) (pw_or (pt_cmpR op_notIn_seq (pe_ix ix_list (pv 6) pe_int (fun _ _ => rfl)) (pv 8) (by with_unfolding_all rfl)) (pw_or1 (pt_cmpR op_notBl (M_Fetch_finish.call0 hr (by omega) (pv 0)) pe_bl (nomark _))))))
        (pss_one (ps_ret pe_bl))
        pss_nil)
      (pss_one (ps_ret (pe_and (D_Lreceives.call hr (by omega) (pa_cons (pv 0) (pa_cons (pe_ix ix_list (pv 6) pe_int (fun _ _ => rfl)) (pa_cons (pe_ix ix_tup (pe_dget hu (pv 2) (pe_ix ix_list (pv 6) pe_int (fun _ _ => rfl)) (fun _ _ => rfl)) pe_int (fun _ _ => rfl)) (pa_cons pe_bl pa_nil))))) (pe_one (pe_cmpR op_eq (pe_callB call_len_seq (by rfl) B.len (by decide +kernel) (pa_cons (M_Chunks_addresses.call0 hr (by omega) (pv 1)) pa_nil)) (pe_op op_sub (pe_callB call_len_seq (by rfl) B.len (by decide +kernel) (pa_cons (pv 4) pa_nil)) pe_int) (nomark _)))))))))))), ?_⟩
    have za := Z.a
    have zb := Z.b
    have hpot := O.pot Z.b Z.c
    obtain ⟨h4, h5⟩ := O.small
    obtain ⟨⟨n1, n2, n3, n4, n5⟩, ⟨m1, m2, m3, m4⟩, ⟨k1, k2, k3⟩, ⟨d1, d2⟩, e1⟩ := nod6 O.nod
    refine ⟨_, rfl, tp, rfl, ⟨_, SqL.of O.etp⟩, fun D hD => ?_⟩
    refine lc_list (K := K) (a := tp) (xs := tips.map V.int) (fun i H' => H' = upd H D (.lst (((tips.take i).filter fun t => !decide (t ∈ ks)).map V.int))) rfl (fun i H' _ e => by
      subst e
      exact SqL.of (by rw [upd_ne (ne_of_none O.etp hD)]; exact O.etp)) ?_ ?_
    · rintro i x H' hi rfl
      obtain ⟨t, ht, rfl⟩ := List.getElem?_map .. ▸ hi |> fun h => by
        rw [Option.map_eq_some_iff] at h
        exact h
      refine ⟨rfl, ?_⟩
      refine ⟨_, rfl, _, rfl, ld, _, rfl, DGet.mapd (show (upd H D _) ld = _ by rw [upd_ne (ne_of_none O.eld hD)]; exact O.eld) t, _, rfl, ?_⟩
      have etk : tips.take (i + 1) = tips.take i ++ [t] := by
        rw [List.take_succ, ht]
        rfl
      by_cases hk : t ∈ ks
      · rw [if_pos hk]
        refine if_f rfl ?_
        rw [etk, List.filter_append]
        simp [hk]
      · rw [if_neg hk]
        refine if_t rfl ?_
        refine ⟨_, rfl, _, upd_same, ?_, ?_⟩
        · rw [List.length_map]
          have := List.length_filter_le (fun t => !decide (t ∈ ks)) (tips.take i)
          rw [List.length_take] at this
          have := Z.c
          exact szlt (by omega)
        · rw [upd_upd, etk, List.filter_append]
          simp [hk]
    · rintro H' rfl
      rw [List.length_map, List.take_length]
      have sD : Same H (upd H D (.lst ((tips.filter fun t => !decide (t ∈ ks)).map V.int))) := same_new hD _
      have O1 := O.same sD
      have eD : (upd H D (.lst ((tips.filter fun t => !decide (t ∈ ks)).map V.int))) D = some (.lst ((tips.filter fun t => !decide (t ∈ ks)).map V.int)) := upd_same
      have edl1 := sD _ _ edl
      generalize upd H D (.lst ((tips.filter fun t => !decide (t ∈ ks)).map V.int)) = H1 at sD O1 eD edl1 ⊢
      refine ⟨_, rfl, (by show 0 ≤ sizeLine; decide), fun e0 he0 => ?_⟩
      have s2 : Same H1 (upd H1 e0 (.lst [])) := same_new he0 _
      refine ⟨D, e0, _, rfl, rfl, SqL.of (s2 _ _ eD), SqL.of upd_same, _, rfl, ?_⟩
      have O2 := O1.same s2
      have eD2 := s2 _ _ eD
      have edl2 := s2 _ _ edl1
      generalize upd H1 e0 (.lst []) = H2 at s2 O2 eD2 edl2 ⊢
      cases hL : tips.filter fun t => !decide (t ∈ ks) with
      | nil =>
        refine if_t rfl ?_
        exact q _
      | cons a rest =>
        refine if_f rfl ?_
        rw [hL] at eD2
        have hmem : a ∈ tips.filter fun t => !decide (t ∈ ks) := by rw [hL]; exact List.mem_cons_self
        obtain ⟨hat, hak⟩ := List.mem_filter.mp hmem
        have hak : a ∉ ks := by simpa using hak
        have haa : a ∈ as := by
          rcases hcl a hat with z | z
          · exact z
          · exact absurd z hak
        have haU := O.tU a hat
        have at_ : ∀ {α : Type} {x : α} {r : List α}, atI (x :: r) 0 = some x := at0
        obtain ⟨cx, cr, c1⟩ := O2.S.ob
        refine ⟨_, rfl, cc, cx, _, rfl, c1, cF_no (by decide +kernel) (by decide +kernel) (by decide +kernel), _, rfl, D, _, _, _, rfl, rfl, SqL.of eD2, at0, ?_⟩
        refine ⟨cc, bk, cd, ts, as, a, rfl, O2.S, fun H3 S3 kp3 => ?_⟩
        have O3 : Bs CB CC CF H3 bk nd td cc cd fe tl' kd ld hd tp ts kvs ch U tips (as.filter fun b => decide (b ≠ a)) hs ks ks := by
          refine O2.step kp3 (fun b z => .inr (.inl z)) ?_ ⟨S3.dc, S3.nodup, S3.ok⟩ ⟨?_, O.F.nodup, O.kR⟩ ?_ ?_
          · exact kp3.old _ _ O2.L.w.book.dc n2
          · exact kp3.old _ _ O2.F.dc k1.symm
          · exact kp3.old _ _ O2.eld k2.symm
          · exact kp3.old _ _ O2.ehd k3.symm
        have eD3 := kp3.old _ _ eD2 (ne_of eD2 O2.S.dc (by intro z; cases z))
        have edl3 := kp3.old _ _ edl2 (ne_of edl2 O2.S.dc (by intro z; cases z))
        have hfl := filter_out O.S.nodup haa
        have hna : a ∉ as.filter (fun b => decide (b ≠ a)) := by simp
        generalize as.filter (fun b => decide (b ≠ a)) = as' at S3 O3 hfl hna ⊢
        have hsm := O3.small.2
        have hms : mem (srt as') = mem as' := funext fun x => by
          unfold mem
          simp [mem_srt]
        have hwd : a ∈ WD as' ks ch U tips := by
          have S := sound_fin (held := mem as') (kept := mem ks) (ch := ch) U tips
          have hsn : a ∈ (fin (mem as') (mem ks) ch U tips).sn := by
            rcases S.all a hat with z | z | z
            · exact z
            · exact absurd (of_decide_eq_true z) hna
            · rw [fin_end (O3.inU _)] at z
              cases z
          exact S.rest a hsn (decide_eq_false hak)
        have hne : WD as' ks ch U tips ≠ [] := fun z => by
          rw [z] at hwd
          cases hwd
        have hwz : (srt (fin (mem as') (mem ks) ch U tips).wd).length ≤ kvs.length := O3.wdLen as' ks
        obtain ⟨cx3, cr3, c3⟩ := O3.S.ob
        refine ⟨_, rfl, cc, cx3, _, rfl, c3, cF_no (by decide +kernel) (by decide +kernel) (by decide +kernel), cc, bk, cd, ts, as', rfl, O3.S, fun p4 H4 s4 f4 e4 => ?_⟩
        refine ⟨p4, srt as', rfl, e4, (srt_perm as').nodup_iff.mpr O3.S.nodup, (by rw [srt_len]; omega), fun hd2 H5 s5 f5 e5 => ?_⟩
        have O5 := O3.same (s4.trans s5)
        refine ⟨_, rfl, _, rfl, _, rfl, _, rfl, ?_⟩
        refine ⟨bk, nd, td, tp, hd2, ld, ts, kvs, ch, U, tips, srt as', ks, rfl, O5.L, O5.etp, e5, O5.eld, O5.inU _, hpot, fun wl H6 s6 f6 e6 => ?_⟩
        rw [hms] at e6
        have s36 := (s4.trans s5).trans s6
        have O6 := O5.same s6
        have eD6 := s36 _ _ eD3
        have edl6 := s36 _ _ edl3
        obtain ⟨fx, f1⟩ := O6.F.ob
        refine ⟨_, rfl, fe, fx, _, rfl, f1, fF_no (by decide +kernel) (by decide +kernel) (by decide +kernel), ?_⟩
        refine ⟨fe, cc, tl', kd, bk, cd, ts, tips, ks, as', U, ch, rfl, O6.F, O6.S, O6.inU _, O6.kept, hpot, fun p7 H7 s7 f7 e7 => ?_⟩
        have O7 := O6.same s7
        have e67 := s7 _ _ e6
        have eD7 := s7 _ _ eD6
        have edl7 := s7 _ _ edl6
        refine ⟨_, rfl, p7, wl, _, rfl, e7, e67, (by omega), _, rfl, if_f rfl ?_⟩
        refine ⟨_, rfl, D, _, _, _, rfl, rfl, SqL.of eD7, at0, _, rfl, wl, _, rfl, .inl (SqL.of e67), rfl, flat_ints _, _, rfl, ?_⟩
        refine if_f (by rw [inV_int, decide_eq_true (mem_srt.mpr hwd)]; rfl) ?_
        obtain ⟨fx7, f17⟩ := O7.F.ob
        refine ⟨_, rfl, fe, fx7, _, rfl, f17, fF_no (by decide +kernel) (by decide +kernel) (by decide +kernel), ?_⟩
        refine ⟨fe, cc, tl', kd, bk, nd, cd, ts, tips, ks, as', U, ch, rfl, O7.F, O7.S, O7.L.w.book, O7.inU _, O7.kept, hpot, fun a ha => O7.adr (O7.reach (O7.kR a ha)), n2, n3.symm, k1.symm, by omega, by omega, fun _ H8 s8 => ?_, fun z => absurd z hne⟩
        refine ⟨_, _, rfl, rfl, _, rfl, if_f rfl ?_⟩
        have O8 := O7.same s8
        have eD8 := s8 _ _ eD7
        have edl8 := s8 _ _ edl7
        obtain ⟨⟨pa, qa, da, a1, a2, a3, a4, a5⟩, _⟩ := O8.L.lib a ((O8.L.u a).mp haU)
        have ga : DGet H8 td (.int a) (some (.ref pa)) := by
          have := DGet.k (k := Sum.inl a) O8.L.w.tex
          rw [a1] at this
          exact this
        refine ⟨_, rfl, _, rfl, D, _, _, _, rfl, rfl, SqL.of eD8, at0, _, rfl, _, rfl, D, _, _, _, rfl, rfl, SqL.of eD8, at0, td, _, rfl, ga, pa, _, _, _, rfl, rfl, SqT.of a2, at0, ?_⟩
        refine ⟨fe, cc, tl', kd, bk, nd, cd, ts, tips, ks, as', U, ch, a, _, true, rfl, O8.F, O8.S, O8.L.w.book, O8.inU _, O8.kept, hpot, O8.adr haU, by omega, fun hn => absurd ⟨hwd, a5.symm⟩ hn, fun _ H9 F9 kp9 => ?_⟩
        obtain ⟨⟨cx8, cr8, c8⟩, w2, w3, w4⟩ := O8.S
        have S9 : ChAt CC H9 cc bk cd ts as' := ⟨⟨cx8, cr8, kp9.old _ _ c8 (ne_of c8 O8.F.dc (by intro z; cases z))⟩, kp9.old _ _ w2 k1, w3, w4⟩
        have edl9 := kp9.old _ _ edl8 (ne_of edl8 O8.F.dc (by intro z; cases z))
        refine ⟨_, rfl, if_t rfl ?_⟩
        obtain ⟨cx9, cr9, c9⟩ := S9.ob
        refine ⟨_, rfl, cc, cx9, _, rfl, c9, cF_no (by decide +kernel) (by decide +kernel) (by decide +kernel), cc, bk, cd, ts, as', rfl, S9, fun p10 H10 s10 f10 e10 => ?_⟩
        refine ⟨p10, _, rfl, .inl (SqL.of e10), _, rfl, dl, _, rfl, .inl (SqL.of (s10 _ _ edl9)), _, _, rfl, rfl, rfl, ?_⟩
        rw [List.length_map, List.length_map, srt_len, srt_len]
        have ee : V.int ((as'.length : Nat) : Int) = V.int (((as.length : Nat) : Int) - 1) := by rw [show ((as.length : Nat) : Int) - 1 = ((as'.length : Nat) : Int) by omega]
        have := q H10
        rw [← decide_eq_true ee] at this
        exact this
end
end My
set_option Elab.async false
set_option linter.all false
set_option maxRecDepth 100000
set_option maxHeartbeats 16000000
/-! k75: the walk of the law. -/
namespace My
open PySem L2 TL
theorem SqL.sm {K : PySem.W.Frag} {H H' : Hp} {l : Addr} {xs : List V} (h : SqL K H l xs) (s : Same H H') : SqL K H' l xs := by
  rcases h with (h | ⟨o, h⟩) | h
  · exact .inl (.inl (s _ _ h))
  · exact .inl (.inr ⟨o, s _ _ h⟩)
  · exact .inr h
theorem keyAt {C : Addr} {H : Hp} {bk nd td : Addr} {ts : List Str} {kvs : List (Key × V)} (W : TW C H bk nd td ts kvs) {i : Int} (h0 : 0 ≤ i) (h1 : i < (kvs.length : Int)) : ∃ a, atI (kvs.map fun kv => kV kv.1) i = some (.int a) ∧ isKey kvs a := by
  have hj : i.toNat < kvs.length := by omega
  have hs : (valV kvs kvs[i.toNat].1).isSome = true := by
    rw [← valV_any, List.any_eq_true]
    exact ⟨_, List.getElem_mem hj, decide_eq_true rfl⟩
  obtain ⟨v, hv⟩ := Option.isSome_iff_exists.mp hs
  obtain ⟨a, e, _⟩ := W.ent _ _ hv
  refine ⟨a, ?_, ?_⟩
  · have := atI_nat (xs := kvs.map fun kv => kV kv.1) (j := i.toNat) (by rw [List.getElem?_map, List.getElem?_eq_getElem hj]; rfl)
    rw [show ((i.toNat : Nat) : Int) = i by omega] at this
    exact this.trans (by show some (kV kvs[i.toNat].1) = _; rw [e]; rfl)
  · unfold isKey
    rw [← e, hv]
    rfl
/-- len(xs), the frame named: within a comprehension -/
abbrev rLenK (K : PySem.W.Frag) : List V → Hp → VK → Prop := fun xs H Q => ∃ p ys, xs = [V.ref p] ∧ (SqL K H p ys ∨ SqT K H p ys) ∧ Q (.int (ys.length : Int)) H
theorem call_lenK {X : Cx} : CallR X (.builtin "len") (rLenK X.K) := call_len_seq
/-- a cut of a list of ints is one -/
theorem cut_ints (ns : List Int) (lo hi : Option Int) : ∃ ms : List Int, cutV (ns.map V.int) lo hi = ms.map V.int ∧ ms.length ≤ ns.length ∧ ∀ x ∈ ms, x ∈ ns := by
  unfold cutV
  rw [List.length_map, ← List.map_drop, ← List.map_take]
  refine ⟨_, rfl, ?_, fun x hx => List.drop_subset _ _ (List.take_subset _ _ hx)⟩
  rw [List.length_take, List.length_drop]
  omega
def spLaw (K : PySem.W.Frag) : Sp := fun vs H Q _ => ∃ (l : Addr) (ns : List Int), vs = [.ref l] ∧ SqL K H l (ns.map V.int) ∧ ∀ H', Q (.bl true) H'
/-- [commits[n % len(commits)] for n in numbers] -/
theorem pick {cs : List Int} (h : cs ≠ []) (ms : List Int) : ∃ ps : List Int, ps.length = ms.length ∧ (∀ p ∈ ps, p ∈ cs) ∧ ∀ (i : Nat) (n : Int), ms[i]? = some n → ∃ p, ps[i]? = some p ∧ atI (cs.map V.int) (n % ((cs.map V.int).length : Int)) = some (.int p) := by
  induction ms with
  | nil => exact ⟨[], rfl, fun p hp => absurd hp List.not_mem_nil, fun i n hn => by simp at hn⟩
  | cons m ms ih =>
    obtain ⟨ps, h1, h2, h3⟩ := ih
    have hl : 0 < cs.length := List.length_pos_iff.mpr h
    have e : (cs.map V.int).length = cs.length := List.length_map _
    have w0 := Int.emod_nonneg m (show (((cs.map V.int).length : Nat) : Int) ≠ 0 by omega)
    have w1 := Int.emod_lt_of_pos m (show (0 : Int) < (((cs.map V.int).length : Nat) : Int) by omega)
    obtain ⟨p, hp, hm⟩ := atR (cs := cs) (i := m % ((cs.map V.int).length : Int)) (by omega) (by omega)
    refine ⟨p :: ps, by simp [h1], fun x hx => ?_, fun i n hn => ?_⟩
    · rcases List.mem_cons.mp hx with z | z
      · exact z ▸ hm
      · exact h2 x z
    · cases i with
      | zero =>
        simp at hn
        subst hn
        exact ⟨p, rfl, hp⟩
      | succ i => exact h3 i n (by simpa using hn)
/-! ### plain law -/
section
variable {ch : Int → List Int} {U tips as as' ks : List Int}
/-- all that the tips reach is held or kept: nothing is wanted -/
theorem wd_none (h : ∀ x, Reach ch tips x → x ∈ as ∨ x ∈ ks) : WD as ks ch U tips = [] := by
  refine List.eq_nil_iff_forall_not_mem.mpr fun a ha => ?_
  have S := sound_fin (held := mem as) (kept := mem ks) (ch := ch) U tips
  obtain ⟨h1, h2⟩ := wanted_new ha
  rcases h a h2 with z | z
  · have := S.hld a (S.sub a ha)
    unfold mem at this
    rw [decide_eq_true z] at this
    cases this
  · exact h1 z
theorem reach_held (hI : In (mem ks) ch U (start tips)) (hc : ∀ a ∈ as, ∀ c ∈ ch a, c ∈ as) (hw : WD as ks ch U tips = []) : ∀ x, Reach ch tips x → x ∈ as ∨ x ∈ ks := by
  have S := sound_fin (held := mem as) (kept := mem ks) (ch := ch) U tips
  have hwt := fin_end (held := mem as) hI
  have kp : ∀ a ∈ (fin (mem as) (mem ks) ch U tips).sn, a ∈ ks := fun a ha => by
    by_cases h : a ∈ ks
    · exact h
    · have := S.rest a ha (decide_eq_false h)
      rw [show (fin (mem as) (mem ks) ch U tips).wd = [] from hw] at this
      cases this
  have key : ∀ x, Reach ch tips x → x ∈ as ∨ x ∈ (fin (mem as) (mem ks) ch U tips).sn := by
    intro x r
    induction r with
    | tip h =>
      rcases S.all _ h with z | z | z
      · exact .inr z
      · exact .inl (of_decide_eq_true z)
      · rw [hwt] at z; cases z
    | step r c ih =>
      rcases ih with z | z
      · exact .inl (hc _ z _ c)
      · rcases S.kids _ z (decide_eq_true (kp _ z)) _ c with y | y | y
        · exact .inr y
        · exact .inl (of_decide_eq_true y)
        · rw [hwt] at y; cases y
  intro x r
  rcases key x r with z | z
  · exact .inl z
  · exact .inr (kp x z)
/-- the closure: what the tips reach -/
theorem clos_iff (hA : In all1 ch U (start tips)) : ∀ x, x ∈ (fin (mem []) all1 ch U tips).sn ↔ Reach ch tips x := fun x => by
  have S := sound_fin (held := mem []) (kept := all1) (ch := ch) U tips
  exact ⟨S.rs x, reach_sn S (fin_end hA) (fun _ => rfl) (fun _ _ => rfl) x⟩
end
end My
set_option Elab.async false
set_option linter.all false
set_option maxRecDepth 100000
set_option maxHeartbeats 16000000
/-! k75: the walk of the law. -/
namespace My
open PySem L2 TL
theorem mk_fetch2 {C : Addr} {σ : L2.St} {H : Hp} {Q : VK} {t : TA} {cc hl : Addr} {tips : List Int} (hhl : H hl = some (.lst (tips.map V.int))) (ht : ∀ Q' : List V → Hp → Prop, Q' [V.ref cc, V.ref hl] H → t σ H Q')
    (h : ∀ fe tl kd H1, Same H H1 → H fe = none → H tl = none → H kd = none → kd ≠ tl → kd ≠ fe → (∀ ts, FeAt C H1 fe cc tl kd ts tips []) → Q (.ref fe) H1) : tMake C (spFeInit C) [] E0 t σ H Q := by
  refine ht _ ?_
  intro x dx nx ndx nex
  refine ⟨x, dx, cc, hl, tips, rfl, upd_same, (by rw [upd_ne (ne_of_none hhl nx), upd_ne (ne_of_none hhl ndx)]; exact hhl), fun tl' kd H1 htl hkd n1 n2 n3 S kp => ⟨rfl, ?_⟩⟩
  have s1 : Same H (upd (upd H dx (.own x)) x (.ins C dx [])) := (same_new ndx _).trans (same_new (by rw [upd_ne (Ne.symm nex)]; exact nx) _)
  exact h x tl' kd H1 (Same.made nx ndx kp) nx (s1.free htl) (s1.free hkd) n3.symm n2 S
section
variable {P : Program} {w : World} {K : PySem.W.Frag} {mg : Str → Option Value} {base : Heap} {f CF CC CB C : Addr} {fd : FuncData}
theorem ok_law (F : Fun K "law" "law" s_law f fd) (B : Bl mg) (TB : TBook K CB) (TC : TChunks K CC) (TF : TFetch K CF)
    (D_Book : CDef P w K mg base 1 "Book" CB ["self"] (spBookInit CB)) (D_Fetch : CDef P w K mg base 1 "Fetch" CF ["self", "chunks", "tips"] (spFeInit CF))
    (D_Lhistory : Def P w K mg base 16 "_law_history" ["_law_book", "_law_script", "_law_first", "_law_count", "_law_texts"] (spLHistory K CB)) (D_Lcell : Def P w K mg base 1 "_law_cell" ["_law_script", "_law_k"] (spLCell K))
    (D_Lnumbers : Def P w K mg base 1 "_law_numbers" ["_law_cell_here", "_law_count"] spLNumbers) (D_Lwants : Def P w K mg base 1 "_law_wants" ["_law_texts", "_law_tips", "_law_held", "_law_kept"] (spLWants CB))
    (D_Lis_list : Def P w K mg base 1 "_law_is_list" ["_law_actual", "_law_due"] spLIsList) (D_Lclosure : Def P w K mg base 1 "_law_closure" ["_law_texts", "_law_addresses"] (spLClosure CB))
    (D_Ldict : Def P w K mg base 1 "_law_dict" ["_law_addresses"] spLDict) (D_Lstore : Def P w K mg base 3 "_law_store" ["_law_book", "_law_texts", "_law_addresses"] (spLStore CB CC))
    (D_Lreceives : Def P w K mg base 23 "_law_receives" ["_law_fetch", "_law_address", "_law_text_here", "_law_due"] (spLReceives CF CC CB)) (D_Lis_still : Def P w K mg base 23 "_law_is_still" ["_law_fetch", "_law_chunks", "_law_held", "_law_wanted"] (spLIsStill CB CC CF))
    (D_Lcomes_by : Def P w K mg base 24 "_law_comes_by" ["_law_fetch", "_law_chunks", "_law_texts", "_law_held", "_law_address"] (spLComesBy CB CC CF)) (D_Lhas_no_tips : Def P w K mg base 23 "_law_has_no_tips" ["_law_chunks"] (spLNoTips CB CC CF))
    (D_Lwants_what_went : Def P w K mg base 24 "_law_wants_what_went" ["_law_fetch", "_law_chunks", "_law_texts", "_law_tips", "_law_due", "_law_kept"] (spLWentWants CB CC CF))
    (M_Chunks_drop : MDef P w K mg base 1 CC "drop" ["self", "address"] (spDrop CC)) (M_Chunks_addresses : MDef P w K mg base 1 CC "addresses" ["self"] (spAddresses CC))
    (M_Fetch_wants : MDef P w K mg base 21 CF "wants" ["self"] (spFeWants CF CC)) (M_Fetch_finish : MDef P w K mg base 22 CF "finish" ["self"] (spFeFinish CF CC CB)) :
    FnOk P w K mg base CX0 25 f fd ["_law_script"] (spLaw K) := by
  refine F.ok sc_law (fun vs H Q E h => ?_) (fun cdv A outer s H vs Q E hr h => ?_)
  · obtain ⟨l, ns, rfl, _⟩ := h
    rfl
  · obtain ⟨l, ns, rfl, hS, q⟩ := h
    have hu := hu_of hr
    refine ⟨_, (pss_cons (ps_set (i := 1) sc_law.nd rfl (Or.inl rfl) (D_Book.make0 hr (by omega)))
      (pss_cons (ps_set (i := 2) sc_law.nd rfl (Or.inl rfl) pe_dnewK)
      (pss_cons (ps_set (i := 3) sc_law.nd rfl (Or.inr rfl) (D_Lhistory.call hr (by omega) (pa_cons (pv 1) (pa_cons (pv 0) (pa_cons pe_int (pa_cons (pe_op op_mod (pe_callTy call_int1 (by rfl) B.int (by decide +kernel) (pa_cons (D_Lcell.call hr (by omega) (pa_cons (pv 0) (pa_cons pe_int pa_nil))) pa_nil)) pe_int) (pa_cons (pv 2) pa_nil)))))))
      (pss_cons (ps_set (i := 4) sc_law.nd rfl (Or.inl rfl) (D_Lnumbers.call hr (by omega) (pa_cons (D_Lcell.call hr (by omega) (pa_cons (pv 0) (pa_cons pe_int pa_nil))) (pa_cons pe_int pa_nil))))
      (pss_cons (ps_setLc (i := 5) (own := [("_law_number", 15)]) (g := gName 15) (tt := tYes) rfl sc_law.nd rfl rfl (sw_true rfl rfl rfl (by decide +kernel)) (pi_list (pe_slice sl_list (pv 4) po_none (po_some (pe_op op_mod (pe_ix ix_list (pv 4) pe_int (fun _ _ => rfl)) pe_int)))) (blkOk_by (own := [("_law_number", 15)]) (N := N_law) (sc := defScope s_law) (by decide +kernel)) (fun _ _ _ _ _ => (pg_name (i := 15) sc_law.nd rfl (Or.inl rfl))) (fun _ _ _ _ _ => pts_nil) (fun _ _ _ _ _ => (pe_ix (r := rIxL K) ix_list (pv 3) (pe_op op_mod (pv 15) (pe_callB (id := "len") (r := rLenK K) call_lenK (by rfl) B.len (by decide +kernel) (pa_cons (pv 3) pa_nil))) (fun _ _ => rfl))))
      (pss_cons (ps_setLc (i := 6) (own := [("_law_number", 15)]) (g := gName 15) (tt := tYes) rfl sc_law.nd rfl rfl (sw_true rfl rfl rfl (by decide +kernel)) (pi_list (pe_slice sl_list (pv 4) (po_some pe_int) (po_some (pe_op op_add pe_int (pe_op op_mod (pe_ix ix_list (pv 4) pe_int (fun _ _ => rfl)) pe_int))))) (blkOk_by (own := [("_law_number", 15)]) (N := N_law) (sc := defScope s_law) (by decide +kernel)) (fun _ _ _ _ _ => (pg_name (i := 15) sc_law.nd rfl (Or.inl rfl))) (fun _ _ _ _ _ => pts_nil) (fun _ _ _ _ _ => (pe_ix (r := rIxL K) ix_list (pv 3) (pe_op op_mod (pv 15) (pe_callB (id := "len") (r := rLenK K) call_lenK (by rfl) B.len (by decide +kernel) (pa_cons (pv 3) pa_nil))) (fun _ _ => rfl))))
      (pss_cons (ps_set (i := 7) sc_law.nd rfl (Or.inl rfl) (D_Ldict.call hr (by omega) (pa_cons (D_Lclosure.call hr (by omega) (pa_cons (pv 2) (pa_cons (pv 5) pa_nil))) pa_nil)))
      (pss_cons (ps_set (i := 8) sc_law.nd rfl (Or.inl rfl) (D_Lstore.call hr (by omega) (pa_cons (pv 1) (pa_cons (pv 2) (pa_cons (pe_callTy (call_listD rfl) (by rfl) B.list (by decide +kernel) (pa_cons (pv 7) pa_nil)) pa_nil)))))
      (pss_cons (ps_set (i := 9) sc_law.nd rfl (Or.inl rfl) (pe_callTy call_list_of (by rfl) B.list (by decide +kernel) (pa_cons (pv 6) pa_nil)))
      (pss_cons (ps_set (i := 10) sc_law.nd rfl (Or.inl rfl) (D_Fetch.make hr (by omega) (pa_cons (pv 8) (pa_cons (pv 9) pa_nil))))
      (pss_cons (ps_expr (pe_bm PySem.F.plainAttrs_list PySem.F.slot_list_append PySem.F.type_list_append mt_append (pv 9) (pa_cons (pe_ix ix_list (pv 3) pe_int (fun _ _ => rfl)) pa_nil)))
      (pss_cons (ps_set (i := 11) sc_law.nd rfl (Or.inl rfl) pe_dnewK)
      (pss_cons (ps_set (i := 12) sc_law.nd rfl (Or.inl rfl) (D_Lnumbers.call hr (by omega) (pa_cons (D_Lcell.call hr (by omega) (pa_cons (pv 0) (pa_cons pe_int pa_nil))) (pa_cons pe_int pa_nil))))
      (pss_cons (ps_set (i := 13) sc_law.nd rfl (Or.inl rfl) (D_Lwants.call hr (by omega) (pa_cons (pv 2) (pa_cons (pv 6) (pa_cons (pv 7) (pa_cons (pv 11) pa_nil))))))
      (C8.pss_cut (ps_for PassesOwn.never rfl (pi_range1 (by rfl) B.range (pa_cons pe_int pa_nil)) (pg_name (i := 14) sc_law.nd rfl (Or.inl rfl))
        (pss_cons (ps_if (pt_not (pt_val (D_Lis_still.call hr (by omega) (pa_cons (pv 10) (pa_cons (pv 8) (pa_cons (pv 7) (pa_cons (pv 13) pa_nil)))))))
          (pss_one (ps_ret pe_bl))
          pss_nil)
        (pss_cons (ps_if (pt_cmpR (op_eqNil hr.units0) (pv 13) (pe_lst pa_nil) (nomark _))
          (pss_one ps_break)
          pss_nil)
        (pss_cons (ps_set (i := 15) sc_law.nd rfl (Or.inl rfl) (pe_op op_add (pe_ix ix_list (pv 12) (pe_op op_mod (pv 14) pe_int) (fun _ _ => rfl)) (pv 14)))
        (C8.pss_cut (ps_if (pt_cmpR op_eq (pe_op op_mod (pv 15) pe_int) pe_int (nomark _))
          (pss_cons (ps_set (i := 16) sc_law.nd rfl (Or.inl rfl) (pe_ix ix_list (pe_callTy (call_listD rfl) (by rfl) B.list (by decide +kernel) (pa_cons (pv 2) pa_nil)) (pe_op op_mod (pe_op op_fdiv (pv 15) pe_int) (pe_callB call_lenD (by rfl) B.len (by decide +kernel) (pa_cons (pv 2) pa_nil))) (fun _ _ => rfl)))
          (pss_one (ps_if (PW.pt (pw_and (pt_cmpR op_notIn_seq (pv 16) (pv 13) (by with_unfolding_all rfl)) (pw_and1 (pt_not (pt_val (D_Lreceives.call hr (by omega) (pa_cons (pv 10) (pa_cons (pv 16) (pa_cons (pe_ix ix_seq (pe_dget hu (pv 2) (pv 16) (fun _ _ => rfl)) pe_int (fun _ _ => rfl)) (pa_cons pe_bl pa_nil))))))))))
            (pss_one (ps_ret pe_bl))
            pss_nil)))
          pss_nil)
        (pss_cons (ps_set (i := 17) sc_law.nd rfl (Or.inl rfl) (pe_ix ix_list (pv 13) (pe_op op_mod (pe_op op_fdiv (pv 15) pe_int) (pe_callB call_len_seq (by rfl) B.len (by decide +kernel) (pa_cons (pv 13) pa_nil))) (fun _ _ => rfl)))
        (C8.pss_cut (ps_if (PW.pt (pw_and (pt_cmpR op_eq (pe_op op_mod (pv 15) pe_int) pe_int (nomark _)) (pw_and1 (pt_cmpR (op_eqNil hr.units0) (pe_ix ix_tup (pe_dget hu (pv 2) (pv 17) (fun _ _ => rfl)) pe_int (fun _ _ => rfl)) (pe_lst pa_nil) (nomark _)))))
          (pss_one (ps_if (pt_not (pt_val (D_Lcomes_by.call hr (by omega) (pa_cons (pv 10) (pa_cons (pv 8) (pa_cons (pv 2) (pa_cons (pv 7) (pa_cons (pv 17) pa_nil))))))))
            (pss_one (ps_ret pe_bl))
            pss_nil))
          (pss_one (ps_if (pt_not (pt_val (D_Lreceives.call hr (by omega) (pa_cons (pv 10) (pa_cons (pv 17) (pa_cons (pe_ix ix_tup (pe_dget hu (pv 2) (pv 17) (fun _ _ => rfl)) pe_int (fun _ _ => rfl)) (pa_cons pe_bl pa_nil)))))))
            (pss_one (ps_ret pe_bl))
            (pss_one (ps_dput hu (pv 11) (pv 17) pe_bl rfl)))))
        (pss_one (ps_set (i := 13) sc_law.nd rfl (Or.inl rfl) (D_Lwants.call hr (by omega) (pa_cons (pv 2) (pa_cons (pv 6) (pa_cons (pv 7) (pa_cons (pv 11) pa_nil))))))))))))))
      (pss_cons (ps_if (PW.pt (pw_or (pt_cmpR op_notBl (M_Fetch_finish.call0 hr (by omega) (pv 10)) pe_bl (nomark _)) (pw_or (pt_not (pt_val (D_Lis_list.call hr (by omega) (pa_cons (M_Fetch_wants.call0 hr (by omega) (pv 10)) (pa_cons (pe_lst pa_nil) pa_nil))))) (pw_or1 (pt_not (pt_val (D_Lhas_no_tips.call hr (by omega) (pa_cons (pv 8) pa_nil))))))))
        (pss_one (ps_ret pe_bl))
        pss_nil)
      (pss_cons (ps_set (i := 18) sc_law.nd rfl (Or.inl rfl) (pe_sortSet (by rfl) B.sorted (by rfl) B.set (pe_op op_cat (pe_callTy (call_listD rfl) (by rfl) B.list (by decide +kernel) (pa_cons (pv 7) pa_nil)) (D_Lclosure.call hr (by omega) (pa_cons (pv 2) (pa_cons (pv 6) pa_nil))))))
      (pss_cons (ps_if (pt_not (pt_val (D_Lis_list.call hr (by omega) (pa_cons (M_Chunks_addresses.call0 hr (by omega) (pv 8)) (pa_cons (pv 18) pa_nil)))))
        (pss_one (ps_ret pe_bl))
        pss_nil)
      (pss_cons (ps_for PassesOwn.never rfl (pi_list (pe_slice sl_list (pe_callTy (call_listD rfl) (by rfl) B.list (by decide +kernel) (pa_cons (pv 11) pa_nil)) po_none (po_some pe_int))) (pg_name (i := 17) sc_law.nd rfl (Or.inl rfl))
        (pss_one (ps_expr (M_Chunks_drop.call hr (by omega) (pv 8) (pa_cons (pv 17) pa_nil)))))
      (pss_cons (ps_if (PW.pt (pw_or (pt_not (pt_val (D_Lis_list.call hr (by omega) (pa_cons (M_Fetch_wants.call0 hr (by omega) (pv 10)) (pa_cons (pe_lst pa_nil) pa_nil))))) (pw_or (pt_cmpR op_notBl (M_Fetch_finish.call0 hr (by omega) (pv 10)) pe_bl (nomark _)) (pw_or1 (pt_not (pt_val (D_Lis_list.call hr (by omega) (pa_cons (M_Chunks_addresses.call0 hr (by omega) (pv 8)) (pa_cons (pv 18) pa_nil)))))))))
        (pss_one (ps_ret pe_bl))
        pss_nil)
      (pss_one (ps_ret (D_Lwants_what_went.call hr (by omega) (pa_cons (pv 10) (pa_cons (pv 8) (pa_cons (pv 2) (pa_cons (pv 6) (pa_cons (pv 18) (pa_cons (pv 11) pa_nil))))))))))))))))))))))))))))), ?_⟩
    refine seq_asg ?_
    refine mk_book fun bk nd H1 s1 fb fn nbn BA => ?_
    intro td htd
    have s2 : Same H1 (upd H1 td (.dK [])) := same_new htd _
    have W0 : TW CB (upd H1 td (.dK [])) bk nd td [] [] := ⟨BA.same s2, upd_same, ne_of_none BA.dc htd, List.nodup_nil, fun k v h => by cases h⟩
    have hS2 := SqL.sm hS (s1.trans s2)
    generalize upd H1 td (.dK []) = H2 at s2 W0 hS2 ⊢
    refine ⟨_, rfl, _, rfl, _, rfl, l, ns, 0, rfl, hS2, fun z => ?_⟩
    refine .inl ⟨_, rfl, ?_⟩
    refine ⟨_, _, rfl, rfl, (by show (0 : Int) < 6; decide), _, rfl, ?_⟩
    have hz0 := Int.emod_nonneg z (show (6 : Int) ≠ 0 by decide)
    have hz1 := Int.emod_lt_of_pos z (show (0 : Int) < 6 by decide)
    refine ⟨bk, nd, td, l, [], [], ns, 3, (z % 6).toNat, (by rw [show (((z % 6).toNat : Nat) : Int) = z % 6 by omega]; rfl), W0, hS2, by omega, Nat.zero_le _, Nat.zero_le _, fun cl H3 ts kvs cs St fcl ecl bcl hlen hcs => ?_⟩
    have gt := St.g.tl
    have gk := St.g.kl
    simp only [List.length_nil] at gt gk
    have hS3 := SqL.kp hS2 St.k W0.book.dc W0.tex
    obtain ⟨ch, U, L⟩ := lib_of St.w
    have BA3 := L.w.book
    have hkv : kvs.length ≤ 1000 := by omega
    have htl : ts.length ≤ 1000 := by omega
    have hcs0 : cs ≠ [] := fun z => by rw [z] at hlen; simp at hlen
    have hclen : (cs.map V.int).length = cs.length := List.length_map _
    -- the numbers, the first ones, the tips
    refine ⟨_, rfl, l, ns, 1, rfl, hS3, fun z2 => ⟨_, 8, rfl, by omega, fun np nums' H4 s4 fnp enp ln hns => ?_⟩⟩
    have at_ : ∀ j : Nat, j < 8 → ∃ x, atI (nums'.map V.int) (j : Int) = some (.int x) ∧ 0 ≤ x ∧ x < 1000 := fun j hj => by
      obtain ⟨x, h1, h2⟩ := atN (ns := nums') (j := j) rfl (by omega)
      exact ⟨x, h1, hns x h2⟩
    obtain ⟨x2, a2, b2⟩ := at_ 2 (by decide)
    obtain ⟨x6, a6, b6⟩ := at_ 6 (by decide)
    refine ⟨_, rfl, _, rfl, np, _, _, _, rfl, rfl, SqL.of enp, a2, _, _, rfl, rfl, (by show (0 : Int) < 3; decide), _, rfl, np, _, rfl, SqL.of enp, fun sl hsl => ?_⟩
    obtain ⟨ms, ems, lms, _⟩ := cut_ints nums' none (some (x2 % 3))
    rw [ems]
    have s5 := s4.trans (same_new hsl (.lst (ms.map V.int)))
    have enp5 := same_new hsl (.lst (ms.map V.int)) _ _ enp
    have esl : (upd H4 sl (.lst (ms.map V.int))) sl = some (.lst (ms.map V.int)) := upd_same
    have ecl5 := s5 _ _ ecl
    generalize upd H4 sl (.lst (ms.map V.int)) = H5 at s5 enp5 esl ecl5 ⊢
    obtain ⟨fs, lfs, mfs, hfs⟩ := pick hcs0 ms
    refine ⟨sl, rfl, ⟨_, SqL.of esl⟩, fun D hD => ?_⟩
    refine lc_list (K := K) (a := sl) (xs := ms.map V.int) (fun i H' => H' = upd H5 D (.lst ((fs.take i).map V.int))) rfl (fun i H' _ e => by
      subst e
      exact SqL.of (by rw [upd_ne (ne_of_none esl hD)]; exact esl)) ?_ ?_
    · rintro i x H' hi rfl
      obtain ⟨n, hn, rfl⟩ := List.getElem?_map .. ▸ hi |> fun h => by
        rw [Option.map_eq_some_iff] at h
        exact h
      obtain ⟨p, hp, hat⟩ := hfs i n hn
      have hpl := (List.getElem?_eq_some_iff.mp hp).1
      have ec : (upd H5 D (.lst ((fs.take i).map V.int))) cl = some (.lst (cs.map V.int)) := by
        rw [upd_ne (ne_of_none ecl5 hD)]
        exact ecl5
      refine ⟨rfl, ?_⟩
      refine lc_yes ?_
      refine ⟨_, rfl, _, rfl, _, rfl, cl, _, rfl, .inl (SqL.of ec), _, _, rfl, rfl, (by omega), cl, _, _, _, rfl, rfl, SqL.of ec, hat, _, upd_same, ?_, ?_⟩
      · rw [List.length_map, List.length_take]
        exact szlt (by omega)
      · rw [upd_upd, List.take_succ, hp, List.map_append]
        rfl
    rintro H' rfl
    rw [List.length_map, ← lfs, List.take_length]
    have s6 := s5.trans (same_new hD (.lst (fs.map V.int)))
    have enp6 := same_new hD (.lst (fs.map V.int)) _ _ enp5
    have eD : (upd H5 D (.lst (fs.map V.int))) D = some (.lst (fs.map V.int)) := upd_same
    have ecl6 := s6 _ _ ecl
    generalize upd H5 D (.lst (fs.map V.int)) = H6 at s6 enp6 eD ecl6 ⊢
    refine ⟨_, rfl, _, rfl, _, rfl, np, _, _, _, rfl, rfl, SqL.of enp6, a6, _, _, rfl, rfl, (by show (0 : Int) < 3; decide), _, _, rfl, rfl, _, rfl, np, _, rfl, SqL.of enp6, fun sl2 hsl2 => ?_⟩
    obtain ⟨ms2, ems2, lms2, _⟩ := cut_ints nums' (some 3) (some (4 + x6 % 3))
    rw [ems2]
    have s7 := s6.trans (same_new hsl2 (.lst (ms2.map V.int)))
    have eD7 := same_new hsl2 (.lst (ms2.map V.int)) _ _ eD
    have esl2 : (upd H6 sl2 (.lst (ms2.map V.int))) sl2 = some (.lst (ms2.map V.int)) := upd_same
    have ecl7 := s7 _ _ ecl
    generalize upd H6 sl2 (.lst (ms2.map V.int)) = H7 at s7 eD7 esl2 ecl7 ⊢
    obtain ⟨tips, ltp, mtp, htps⟩ := pick hcs0 ms2
    refine ⟨sl2, rfl, ⟨_, SqL.of esl2⟩, fun tp htp => ?_⟩
    refine lc_list (K := K) (a := sl2) (xs := ms2.map V.int) (fun i H' => H' = upd H7 tp (.lst ((tips.take i).map V.int))) rfl (fun i H' _ e => by
      subst e
      exact SqL.of (by rw [upd_ne (ne_of_none esl2 htp)]; exact esl2)) ?_ ?_
    · rintro i x H' hi rfl
      obtain ⟨n, hn, rfl⟩ := List.getElem?_map .. ▸ hi |> fun h => by
        rw [Option.map_eq_some_iff] at h
        exact h
      obtain ⟨p, hp, hat⟩ := htps i n hn
      have hpl := (List.getElem?_eq_some_iff.mp hp).1
      have ec : (upd H7 tp (.lst ((tips.take i).map V.int))) cl = some (.lst (cs.map V.int)) := by
        rw [upd_ne (ne_of_none ecl7 htp)]
        exact ecl7
      refine ⟨rfl, ?_⟩
      refine lc_yes ?_
      refine ⟨_, rfl, _, rfl, _, rfl, cl, _, rfl, .inl (SqL.of ec), _, _, rfl, rfl, (by omega), cl, _, _, _, rfl, rfl, SqL.of ec, hat, _, upd_same, ?_, ?_⟩
      · rw [List.length_map, List.length_take]
        exact szlt (by omega)
      · rw [upd_upd, List.take_succ, hp, List.map_append]
        rfl
    rintro H' rfl
    rw [List.length_map, ← ltp, List.take_length]
    have s8 := s7.trans (same_new htp (.lst (tips.map V.int)))
    have eD8 := same_new htp (.lst (tips.map V.int)) _ _ eD7
    have etp : (upd H7 tp (.lst (tips.map V.int))) tp = some (.lst (tips.map V.int)) := upd_same
    generalize upd H7 tp (.lst (tips.map V.int)) = H8 at s8 eD8 etp ⊢
    have L8 := L.same s8
    have hfU : ∀ t ∈ fs, t ∈ U := fun t ht => (L.u t).mpr (hcs t (mfs t ht))
    have htU : ∀ t ∈ tips, t ∈ U := fun t ht => (L.u t).mpr (hcs t (mtp t ht))
    have hpl : ∀ l : List Int, l.length ≤ 8 → pot ch U (start l) ≤ 100000 := fun l hl => by
      have := pot_start (ch := ch) (U := U) (tips := l) (c := 8) fun a ha => by
        obtain ⟨p, q, d, _, _, _, k, _⟩ := (L.lib a ((L.u a).mp ha)).ex
        exact k.few
      have := L.len
      omega
    have hAf : In all1 ch U (start fs) := in_start hfU fun a ha _ => L.closed a ha
    have hAt : In all1 ch U (start tips) := in_start htU fun a ha _ => L.closed a ha
    -- what is held, the store
    refine ⟨_, rfl, _, rfl, ?_⟩
    refine ⟨bk, nd, td, D, ts, kvs, ch, U, fs, rfl, L8, eD8, hAf, hpl fs (by omega), fun p9 H9 s9 f9 e9 => ?_⟩
    have Sf := sound_fin (held := mem []) (kept := all1) (ch := ch) U fs
    have hclo := clos_iff hAf
    have hsn : (srt (fin (mem []) all1 ch U fs).sn).Nodup := (srt_perm _).nodup_iff.mpr Sf.sn
    have hsU : ∀ a ∈ srt (fin (mem []) all1 ch U fs).sn, a ∈ U := fun a ha => reach_in hfU L.closed a ((hclo a).mp (mem_srt.mp ha))
    have hsC : ∀ a ∈ srt (fin (mem []) all1 ch U fs).sn, ∀ c ∈ ch a, c ∈ srt (fin (mem []) all1 ch U fs).sn := fun a ha c hc => mem_srt.mpr ((hclo c).mpr (.step ((hclo a).mp (mem_srt.mp ha)) hc))
    have hsl' := Nat.le_trans (nodup_sub_len hsn hsU) L.len
    generalize srt (fin (mem []) all1 ch U fs).sn = as0 at e9 hsn hsU hsC hsl'
    refine ⟨p9, as0, rfl, e9, hsn, by omega, fun hd H10 s10 f10 ehd => ?_⟩
    have s9' := (s8.trans s9).trans s10
    have L10 := L.same s9'
    have etp10 := s10 _ _ (s9 _ _ etp)
    refine ⟨_, rfl, _, rfl, _, rfl, hd, _, rfl, .inl ehd, fun lp hlp => ?_⟩
    rw [mapd_keys]
    have s11 : Same H10 (upd H10 lp (.lst (as0.map V.int))) := same_new hlp _
    refine ⟨bk, nd, td, lp, ts, kvs, ch, U, as0, rfl, L10.same s11, upd_same, hsn, hsU, by omega, by omega, fun cc cd H12 fcc fcd hnd12 S12 kp12 => ?_⟩
    have kk12 : Kp (· = nd) H10 H12 := (Kp.same s11).trans kp12
    have hnd10 := L10.w.book.dc
    have nln : ∀ b xs, H10 b = some (.lst xs) → ¬ b = nd := fun b xs e => ne_of e hnd10 (by intro z; cases z)
    obtain ⟨bx, b1⟩ := L10.w.book.ob
    have L12 := L10.step kk12 hnd12 (L10.w.ne.symm) nln (ne_of b1 hnd10 (by intro z; cases z))
    have etp12 := kk12.old _ _ etp10 (nln _ _ etp10)
    have nhn : hd ≠ nd := fun z => by
      rw [z] at f10
      rw [(s8.trans s9) _ _ L.w.book.dc] at f10
      cases f10
    have nht : hd ≠ td := fun z => by
      rw [z] at f10
      rw [(s8.trans s9) _ _ L.w.tex] at f10
      cases f10
    have ehd12 := kk12.old _ _ ehd nhn
    have ecl12 := kk12.old _ _ (s9' _ _ ecl) (nln _ _ (s9' _ _ ecl))
    have hS12 : SqL K H12 l (ns.map V.int) := SqL.kp (SqL.sm hS3 s9') (kk12.mono fun b z => Or.inl z) hnd10 L10.w.tex
    have fcd10 : H10 cd = none := s11.free fcd
    have ncn : nd ≠ cd := ne_of_none hnd10 fcd10
    have ntc : td ≠ cd := ne_of_none L10.w.tex fcd10
    have nhc : hd ≠ cd := ne_of_none ehd fcd10
    -- the fetch
    refine ⟨_, rfl, tp, _, rfl, .inl (SqL.of etp12), fun hl hhl => ?_⟩
    have s13 : Same H12 (upd H12 hl (.lst (tips.map V.int))) := same_new hhl _
    have ehl : (upd H12 hl (.lst (tips.map V.int))) hl = some (.lst (tips.map V.int)) := upd_same
    generalize upd H12 hl (.lst (tips.map V.int)) = H13 at s13 ehl ⊢
    refine g_n ?_
    try dsimp only
    refine seq_asg ?_
    refine mk_fetch2 ehl (fun Q' hQ => ⟨_, rfl, _, rfl, hQ⟩) fun fe tl kd H14 s14 ffe ftl fkd nkt nkf FA => ?_
    have s124 := s13.trans s14
    have ehl14 := s14 _ _ ehl
    obtain ⟨c0, ac0, mc0⟩ := atR (cs := cs) (i := 0) (by omega) (by have := List.length_pos_iff.mpr hcs0; omega)
    refine ⟨_, rfl, .inl ⟨rfl, _, SqL.of ehl14⟩, _, rfl, cl, _, _, _, rfl, rfl, SqL.of (s124 _ _ ecl12), ac0, hl, _, _, rfl, rfl, ehl14, (by rw [List.length_map]; exact szlt (by omega)), ?_⟩
    have FA15 : ∀ o, FeAt CF (upd H14 hl o) fe cc tl kd ts tips [] := fun o => by
      obtain ⟨⟨dx, z1⟩, z2, z3, z4⟩ := FA ts
      exact ⟨⟨dx, by rw [upd_ne (ne_of_none ehl ffe).symm]; exact z1⟩, by rw [upd_ne (ne_of_none ehl ftl).symm]; exact z2, by rw [upd_ne (ne_of_none ehl fkd).symm]; exact z3, z4⟩
    have FA15 := FA15 (.lst (tips.map V.int ++ [.int c0]))
    have s125 : Same H12 (upd H14 hl (.lst (tips.map V.int ++ [.int c0]))) := same_mut s124 hhl _
    generalize upd H14 hl (.lst (tips.map V.int ++ [.int c0])) = H15 at FA15 s125 ⊢
    intro ld hld
    have s16 : Same H15 (upd H15 ld (.dK [])) := same_new hld _
    have eld : (upd H15 ld (.dK [])) ld = some (.dK (mapd yesV [])) := upd_same
    generalize upd H15 ld (.dK []) = H16 at s16 eld ⊢
    have s126 := s125.trans s16
    refine ⟨_, rfl, l, ns, 2, rfl, SqL.sm hS12 s126, fun z3 => ⟨_, 40, rfl, by omega, fun od os H17 s17 fod eod lo hos => ?_⟩⟩
    have s127 := s126.trans s17
    have fkd12 : H12 kd = none := s13.free fkd
    have Z : Sm ts kvs tips := ⟨by omega, by omega, by omega⟩
    have O : Bs CB CC CF H17 bk nd td cc cd fe tl kd ld hd tp ts kvs ch U tips as0 as0 [] [] :=
      { L := L12.same s127, S := S12.same s127, F := FA15.same (s16.trans s17), eld := s17 _ _ eld, ehd := s127 _ _ ehd12, etp := s127 _ _ etp12, tU := htU, kR := fun a h => absurd h List.not_mem_nil
      , nod := by
          have q1 := ne_of_none hnd12 fkd12
          have q2 := ne_of_none L12.w.tex fkd12
          have q3 := ne_of_none S12.dc fkd12
          have q4 := ne_of_none ehd12 fkd12
          have q5 := ne_of_none (s125 _ _ hnd12) hld
          have q6 := ne_of_none (s125 _ _ L12.w.tex) hld
          have q7 := ne_of_none (s125 _ _ S12.dc) hld
          have q8 := ne_of_none (s125 _ _ ehd12) hld
          have q9 := ne_of_none FA15.dc hld
          simp only [List.nodup_cons, List.mem_cons, List.not_mem_nil, not_or, or_false]
          exact ⟨⟨L12.w.ne, ncn, q1, q5, nhn.symm⟩, ⟨ntc, q2, q6, nht.symm⟩, ⟨q3, q7, nhc.symm⟩, ⟨q9, q4.symm⟩, q8.symm, fun z => z, List.nodup_nil⟩ }
    have hpot := hpl tips (by omega)
    refine ⟨_, rfl, _, rfl, _, rfl, _, rfl, ?_⟩
    refine ⟨bk, nd, td, tp, hd, ld, ts, kvs, ch, U, tips, as0, [], rfl, O.L, O.etp, O.ehd, O.eld, O.inU _, hpot, fun wl H18 s18 fwl ewl => ?_⟩
    have O18 := O.same s18
    have eod18 := s18 _ _ eod
    have hml : (fun ks as : List Int => (fin (mem as) (mem ks) ch U tips).wd) = fun ks as => WD as ks ch U tips := rfl
    refine ⟨fun σ' H' => ∃ (as ks : List Int) (wl : Addr) (v14 v15 v16 v17 v18 : Option V), σ' = [some (.ref l), some (.ref bk), some (.ref td), some (.ref cl), some (.ref np), some (.ref D), some (.ref tp), some (.ref hd), some (.ref cc), some (.ref hl), some (.ref fe), some (.ref ld), some (.ref od), some (.ref wl), v14, v15, v16, v17, v18] ∧
      Bs CB CC CF H' bk nd td cc cd fe tl kd ld hd tp ts kvs ch U tips as as ks ks ∧ H' od = some (.lst (os.map V.int)) ∧ H' wl = some (.lst ((srt (WD as ks ch U tips)).map V.int)) ∧ (∀ a ∈ as, a ∈ U) ∧ (∀ a ∈ as, ∀ c ∈ ch a, c ∈ as) ∧ (∀ a ∈ ks, a ∉ as) ∧ WD as ks ch U tips = [], ?_, ?_⟩
    · refine ⟨_, rfl, (by decide), (by decide), ?_⟩
      refine for_range (lo := 0) (n := 2000) (fun i σ H' => ∃ (as ks : List Int) (wl : Addr) (v14 v15 v16 v17 v18 : Option V), σ = [some (.ref l), some (.ref bk), some (.ref td), some (.ref cl), some (.ref np), some (.ref D), some (.ref tp), some (.ref hd), some (.ref cc), some (.ref hl), some (.ref fe), some (.ref ld), some (.ref od), some (.ref wl), v14, v15, v16, v17, v18] ∧
          Bs CB CC CF H' bk nd td cc cd fe tl kd ld hd tp ts kvs ch U tips as as ks ks ∧ H' od = some (.lst (os.map V.int)) ∧ H' wl = some (.lst ((srt (WD as ks ch U tips)).map V.int)) ∧ (∀ a ∈ as, a ∈ U) ∧ (∀ a ∈ as, ∀ c ∈ ch a, c ∈ as) ∧ (∀ a ∈ ks, a ∉ as) ∧ as.length + ks.length = as0.length + i)
        ⟨as0, [], wl, none, none, none, none, none, rfl, O18, eod18, ewl, hsU, hsC, fun a h => absurd h List.not_mem_nil, rfl⟩ ?_ ?_
      · rintro i σ H19 hi ⟨as, ks, wl, v14, v15, v16, v17, v18, rfl, O, eod, ewl, haU, haC, hdj, hcnt⟩
        refine ⟨_, rfl, _, rfl, _, rfl, _, rfl, ?_⟩
        refine ⟨bk, nd, td, cc, cd, fe, tl, kd, ld, hd, tp, wl, ts, kvs, ch, U, tips, as, ks, ks, rfl, O, ewl, Z, fun H20 s20 => ⟨_, rfl, if_f rfl ?_⟩⟩
        refine ⟨_, rfl, (by show 0 ≤ sizeLine; decide), fun e0 he0 => ?_⟩
        have s21 := s20.trans (same_new he0 (.lst []))
        refine ⟨wl, e0, _, rfl, rfl, SqL.of (s21 _ _ ewl), SqL.of upd_same, _, rfl, ?_⟩
        have O1 := O.same s21
        have ewl1 := s21 _ _ ewl
        have eod1 := s21 _ _ eod
        generalize upd H20 e0 (.lst []) = H21 at s21 O1 ewl1 eod1 ⊢
        by_cases hw : WD as ks ch U tips = []
        · refine if_t (by rw [srt_nil.mpr hw]; rfl) ?_
          exact ⟨as, ks, wl, _, _, _, _, _, rfl, O1, eod1, ewl1, haU, haC, hdj, hw⟩
        have hne : srt (WD as ks ch U tips) ≠ [] := fun z => hw (srt_nil.mp z)
        have hpos : 0 < (srt (WD as ks ch U tips)).length := List.length_pos_iff.mpr hne
        have hwl : ((srt (WD as ks ch U tips)).map V.int).length = (srt (WD as ks ch U tips)).length := List.length_map _
        refine if_f (by
          cases h : srt (WD as ks ch U tips) with
          | nil => exact absurd h hne
          | cons a l => rfl) ?_
        -- the number
        have b40 := Int.emod_nonneg (0 + (i : Int)) (show (40 : Int) ≠ 0 by decide)
        have b41 := Int.emod_lt_of_pos (0 + (i : Int)) (show (0 : Int) < 40 by decide)
        obtain ⟨x1, at1', m1⟩ := atR (cs := os) (i := (0 + (i : Int)) % 40) (by omega) (by omega)
        refine ⟨_, rfl, _, rfl, _, _, rfl, rfl, (by show (0 : Int) < 40; decide), od, _, _, _, rfl, rfl, SqL.of eod1, at1', _, rfl, _, _, rfl, rfl, ?_⟩
        -- a text that is not wanted
        refine ⟨fun σ' H' => ∃ (v16 : Option V), σ' = [some (.ref l), some (.ref bk), some (.ref td), some (.ref cl), some (.ref np), some (.ref D), some (.ref tp), some (.ref hd), some (.ref cc), some (.ref hl), some (.ref fe), some (.ref ld), some (.ref od), some (.ref wl), some (.int (0 + (i : Int))), some (.int (x1 + (0 + (i : Int)))), v16, v17, v18] ∧ Same H21 H', ?_, ?_⟩
        · refine ⟨_, rfl, _, _, rfl, rfl, (by show (0 : Int) < 3; decide), rfl, _, rfl, ?_⟩
          refine ite2 (fun _ => ?_) (fun _ => ⟨v16, rfl, Same.refl _⟩)
          have hkp : 0 < kvs.length := by
            have hin := mem_srt.mp (List.getElem_mem (l := srt (WD as ks ch U tips)) (n := 0) hpos)
            have h1 := List.length_pos_of_mem (O1.reach (wanted_new hin).2)
            have := O1.L.len
            omega
          have k0 := Int.emod_nonneg ((x1 + (0 + (i : Int))) / 3) (show ((kvs.length : Nat) : Int) ≠ 0 by omega)
          have k1 := Int.emod_lt_of_pos ((x1 + (0 + (i : Int))) / 3) (show (0 : Int) < ((kvs.length : Nat) : Int) by omega)
          obtain ⟨a', ata', ka'⟩ := keyAt O1.L.w k0 k1
          refine ⟨_, rfl, td, kvs, rfl, .inl O1.L.w.tex, fun lp hlp => ?_⟩
          have t1 : Same H21 (upd H21 lp (.lst (kvs.map fun kv => kV kv.1))) := same_new hlp _
          have O2 := O1.same t1
          have elp : (upd H21 lp (.lst (kvs.map fun kv => kV kv.1))) lp = some (.lst (kvs.map fun kv => kV kv.1)) := upd_same
          have ewl2 := t1 _ _ ewl1
          generalize upd H21 lp (.lst (kvs.map fun kv => kV kv.1)) = H22 at t1 O2 elp ewl2 ⊢
          refine ⟨_, rfl, _, _, rfl, rfl, ⟨by decide, by decide⟩, _, rfl, td, _, rfl, O2.L.w.tex, _, _, rfl, rfl, (by omega), lp, _, _, _, rfl, rfl, SqL.of elp, ata', ?_⟩
          refine ⟨_, rfl, _, rfl, wl, _, rfl, .inl (SqL.of ewl2), rfl, flat_ints _, _, rfl, ?_⟩
          by_cases hin : a' ∈ srt (WD as ks ch U tips)
          · refine if_f (by rw [inV_int, decide_eq_true hin]; rfl) ?_
            exact ⟨_, rfl, t1⟩
          refine if_t (by rw [inV_int, decide_eq_false hin]; rfl) ?_
          obtain ⟨⟨pb, qb, db, c1, c2, c3, c4, c5⟩, _⟩ := O2.L.lib a' ka'
          have gb : DGet H22 td (.int a') (some (.ref pb)) := by
            have := DGet.k (k := Sum.inl a') O2.L.w.tex
            rw [c1] at this
            exact this
          have hks := O2.small.1
          refine ⟨_, rfl, _, rfl, _, rfl, _, rfl, td, _, rfl, gb, .inr (.inl ⟨pb, _, _, _, rfl, rfl, SqT.of c2, at0, ?_⟩)⟩
          refine ⟨fe, cc, tl, kd, bk, nd, cd, ts, tips, ks, as, U, ch, a', _, false, rfl, O2.F, O2.S, O2.L.w.book, O2.inU _, O2.kept, hpot, O2.L.w.adrOk ka', by omega, fun _ H23 s23 => ?_, fun z => absurd (mem_srt.mpr z.1) hin⟩
          exact ⟨_, rfl, if_f rfl ⟨_, rfl, t1.trans s23⟩⟩
        rintro σ2 H22 ⟨v16', rfl, s22⟩
        have O2 := O1.same s22
        have ewl2 := s22 _ _ ewl1
        have eod2 := s22 _ _ eod1
        have c0 := Int.emod_nonneg ((x1 + (0 + (i : Int))) / 7) (show (((srt (WD as ks ch U tips)).map V.int).length : Int) ≠ 0 by omega)
        have c1 := Int.emod_lt_of_pos ((x1 + (0 + (i : Int))) / 7) (show (0 : Int) < (((srt (WD as ks ch U tips)).map V.int).length : Int) by omega)
        obtain ⟨a, ata, ma⟩ := atR (cs := srt (WD as ks ch U tips)) (i := (x1 + (0 + (i : Int))) / 7 % (((srt (WD as ks ch U tips)).map V.int).length : Int)) (by omega) (by omega)
        refine ⟨_, rfl, _, rfl, _, _, rfl, rfl, ⟨by decide, by decide⟩, _, rfl, wl, _, rfl, .inl (SqL.of ewl2), _, _, rfl, rfl, (by omega), wl, _, _, _, rfl, rfl, SqL.of ewl2, ata, ?_⟩
        have hwd := mem_srt.mp ma
        obtain ⟨hak, har⟩ := wanted_new hwd
        have hUa := O2.reach har
        have haas : a ∉ as := fun z => by
          have S := sound_fin (held := mem as) (kept := mem ks) (ch := ch) U tips
          have := S.hld a (S.sub a hwd)
          unfold mem at this
          rw [decide_eq_true z] at this
          cases this
        obtain ⟨⟨pa, qa, da, d1, d2, d3, d4, d5⟩, _⟩ := O2.L.lib a ((O2.L.u a).mp hUa)
        have ga : ∀ H', Same H22 H' → DGet H' td (.int a) (some (.ref pa)) := fun H' s => by
          have := DGet.k (k := Sum.inl a) (s _ _ O2.L.w.tex)
          rw [d1] at this
          exact this
        obtain ⟨hksz, hasz⟩ := O2.small
        obtain ⟨⟨n1, n2, n3, n4, n5⟩, ⟨m1', m2', m3', m4'⟩, ⟨k1, k2, k3⟩, ⟨q1, q2⟩, q3⟩ := nod6 O2.nod
        refine ⟨fun σ' H' => ∃ (as' ks' : List Int) (v16 v18 : Option V), σ' = [some (.ref l), some (.ref bk), some (.ref td), some (.ref cl), some (.ref np), some (.ref D), some (.ref tp), some (.ref hd), some (.ref cc), some (.ref hl), some (.ref fe), some (.ref ld), some (.ref od), some (.ref wl), some (.int (0 + (i : Int))), some (.int (x1 + (0 + (i : Int)))), v16, some (.int a), v18] ∧ Bs CB CC CF H' bk nd td cc cd fe tl kd ld hd tp ts kvs ch U tips as' as' ks' ks' ∧ H' od = some (.lst (os.map V.int)) ∧ (∀ a ∈ as', a ∈ U) ∧ (∀ a ∈ as', ∀ c ∈ ch a, c ∈ as') ∧ (∀ a ∈ ks', a ∉ as') ∧ as'.length + ks'.length = as0.length + (i + 1), ?_, ?_⟩
        · refine if_by (fun b H' => Same H22 H' ∧ (b = true → ch a = [])) (fun Q' hQ => ?_) ?_
          · refine ⟨_, rfl, _, _, rfl, rfl, (by show (0 : Int) < 5; decide), rfl, _, rfl, ?_⟩
            refine ite2 (fun _ => ?_) (fun _ => hQ _ _ ⟨Same.refl _, fun z => by cases z⟩)
            refine ⟨_, rfl, _, rfl, td, _, rfl, ga H22 (Same.refl _), pa, _, _, _, rfl, rfl, SqT.of d2, at1, (by show 0 ≤ sizeLine; decide), fun e0 he0 => ?_⟩
            have t0 : Same H22 (upd H22 e0 (.lst [])) := same_new he0 _
            refine ⟨qa, e0, _, rfl, rfl, SqL.of (t0 _ _ d3), SqL.of upd_same, _, rfl, hQ _ _ ⟨t0, fun z => ?_⟩⟩
            cases h : ch a with
            | nil => rfl
            | cons c r =>
              rw [h] at z
              cases z
          · rintro b H23 ⟨s23, hb⟩
            have O3 := O2.same s23
            have eod3 := s23 _ _ eod2
            cases b with
            | true =>
              refine if_t rfl ?_
              have hch := hb rfl
              refine ⟨_, rfl, _, rfl, _, rfl, _, rfl, _, rfl, ?_⟩
              refine ⟨bk, nd, td, cc, cd, fe, tl, kd, ld, hd, tp, ts, kvs, ch, U, tips, as, ks, ks, a, rfl, O3, hUa, haas, Z, fun H24 O4 k4 => ⟨_, rfl, if_f rfl ?_⟩⟩
              refine ⟨as ++ [a], ks, _, _, rfl, O4, k4.old _ _ eod3 ?_, fun b hb => ?_, fun b hb c hc => ?_, fun b hb z => ?_, by rw [List.length_append, List.length_singleton]; omega⟩
              · rintro (z | z | z)
                · exact ne_of eod3 O3.L.w.book.dc (by intro z; cases z) z
                · exact ne_of eod3 O3.S.dc (by intro z; cases z) z
                · exact ne_of eod3 O3.ehd (by intro z; cases z) z
              · rcases List.mem_append.mp hb with z | z
                · exact haU b z
                · rw [List.mem_singleton.mp z]
                  exact hUa
              · rcases List.mem_append.mp hb with z | z
                · exact List.mem_append.mpr (.inl (haC b z c hc))
                · rw [List.mem_singleton.mp z, hch] at hc
                  cases hc
              · rcases List.mem_append.mp z with y | y
                · exact hdj b hb y
                · rw [List.mem_singleton.mp y] at hb
                  exact hak hb
            | false =>
              refine if_f rfl ?_
              refine ⟨_, rfl, _, rfl, _, rfl, _, rfl, td, _, rfl, ga H23 s23, pa, _, _, _, rfl, rfl, SqT.of (s23 _ _ d2), at0, ?_⟩
              refine ⟨fe, cc, tl, kd, bk, nd, cd, ts, tips, ks, as, U, ch, a, _, true, rfl, O3.F, O3.S, O3.L.w.book, O3.inU _, O3.kept, hpot, O3.adr hUa, by omega, fun hn => absurd ⟨hwd, d5.symm⟩ hn, fun _ H24 F4 k4 => ⟨_, rfl, if_f rfl ?_⟩⟩
              rw [show asAdd ks a = ks ++ [a] from if_neg hak] at F4
              have eld4 := k4.old _ _ O3.eld q1.symm
              refine ⟨_, rfl, _, rfl, ld, _, rfl, DPut.k (k := Sum.inl a) eld4 (by rw [mapd_len]; exact szlt (by omega)), ?_⟩
              rw [put_yes hak]
              have k5 : Kp (fun b => b = kd ∨ b = ld) H23 (upd H24 ld (.dK (mapd yesV (ks ++ [a])))) := (k4.mono fun b z => Or.inl z).set (Or.inr rfl) fun xs z => by rw [O3.eld] at z; cases z
              have nex : ∀ {x : Addr}, x ≠ kd → x ≠ ld → ¬ (x = kd ∨ x = ld) := fun h1 h2 z => z.elim h1 h2
              have O5 : Bs CB CC CF (upd H24 ld (.dK (mapd yesV (ks ++ [a])))) bk nd td cc cd fe tl kd ld hd tp ts kvs ch U tips as as (ks ++ [a]) (ks ++ [a]) := by
                refine O3.step k5 (fun b z => ?_) (k5.old _ _ O3.L.w.book.dc (nex n3 n4)) ⟨k5.old _ _ O3.S.dc (nex k1 k2), O3.S.nodup, O3.S.ok⟩ ⟨?_, F4.nodup, fun b hb => ?_⟩ upd_same (k5.old _ _ O3.ehd (nex q2.symm q3.symm))
                · rcases z with z | z
                  · exact .inr (.inr (.inl z))
                  · exact .inr (.inr (.inr (.inl z)))
                · rw [upd_ne q1]
                  exact F4.dc
                · rcases List.mem_append.mp hb with z | z
                  · exact O3.kR b z
                  · rw [List.mem_singleton.mp z]
                    exact har
              refine ⟨as, ks ++ [a], _, _, rfl, O5, k5.old _ _ eod3 (nex (ne_of eod3 O3.F.dc (by intro z; cases z)) (ne_of eod3 O3.eld (by intro z; cases z))), haU, haC, fun b hb => ?_, by rw [List.length_append, List.length_singleton]; omega⟩
              rcases List.mem_append.mp hb with z | z
              · exact hdj b z
              · rw [List.mem_singleton.mp z]
                exact haas
        · rintro σ3 H24 ⟨as', ks', v16'', v18', rfl, O4, eod4, haU4, haC4, hdj4, hcnt4⟩
          refine ⟨_, rfl, _, rfl, _, rfl, _, rfl, ?_⟩
          refine ⟨bk, nd, td, tp, hd, ld, ts, kvs, ch, U, tips, as', ks', rfl, O4.L, O4.etp, O4.ehd, O4.eld, O4.inU _, hpot, fun wl' H25 s25 fwl' ewl' => ?_⟩
          exact ⟨as', ks', wl', _, _, _, _, _, rfl, O4.same s25, s25 _ _ eod4, ewl', haU4, haC4, hdj4, hcnt4⟩
      · rintro σ H19 ⟨as, ks, wl, v14, v15, v16, v17, v18, rfl, O, eod, ewl, haU, haC, hdj, hcnt⟩
        exfalso
        have h1 : (as ++ ks).Nodup := List.nodup_append.mpr ⟨O.S.nodup, O.F.nodup, fun a ha b hb e => hdj b hb (e ▸ ha)⟩
        have h2 := nodup_sub_len h1 (b := U) fun a ha => by
          rcases List.mem_append.mp ha with z | z
          · exact haU a z
          · exact O.reach (O.kR a z)
        rw [List.length_append] at h2
        have h3 := O.L.len
        omega
    · rintro σ' H19 ⟨as, ks, wl, v14, v15, v16, v17, v18, rfl, O, eod, ewl, haU, haC, hdj, hw⟩
      obtain ⟨hksz, hasz⟩ := O.small
      obtain ⟨⟨n1, n2, n3, n4, n5⟩, ⟨m1', m2', m3', m4'⟩, ⟨k1, k2, k3⟩, ⟨q1, q2⟩, q3⟩ := nod6 O.nod
      have hall := reach_held (O.inU (mem ks)) haC hw
      have hclo := clos_iff hAt
      have nex : ∀ {x : Addr}, x ≠ nd → x ≠ cd → ¬ (x = nd ∨ x = cd) := fun h1 h2 z => z.elim h1 h2
      have fin1 : ∀ {H' H'' : Hp} {as1 as2 : List Int}, Bs CB CC CF H' bk nd td cc cd fe tl kd ld hd tp ts kvs ch U tips as1 as ks ks → BookAt CB H'' bk nd ts → ChAt CC H'' cc bk cd ts as2 → Kp (fun b => b = nd ∨ b = cd) H' H'' → Bs CB CC CF H'' bk nd td cc cd fe tl kd ld hd tp ts kvs ch U tips as2 as ks ks := fun O1 B2 S2 k2' =>
        O1.step k2' (fun b z => z.elim Or.inl fun y => Or.inr (Or.inl y)) B2.dc ⟨S2.dc, S2.nodup, S2.ok⟩ ⟨k2'.old _ _ O1.F.dc (nex n3.symm k1.symm), O1.F.nodup, O1.kR⟩ (k2'.old _ _ O1.eld (nex n4.symm k2.symm)) (k2'.old _ _ O1.ehd (nex n5.symm k3.symm))
      have lstk : ∀ {H' H'' : Hp} {as1 : List Int} {b : Addr} {xs : List V}, Bs CB CC CF H' bk nd td cc cd fe tl kd ld hd tp ts kvs ch U tips as1 as ks ks → Kp (fun b => b = nd ∨ b = cd) H' H'' → H' b = some (.lst xs) → H'' b = some (.lst xs) := fun O1 k2' e => k2'.old _ _ e (nex (ne_of e O1.L.w.book.dc (by intro z; cases z)) (ne_of e O1.S.dc (by intro z; cases z)))
      have enil : srt ([] : List Int) = [] := srt_nil.mpr rfl
      obtain ⟨fx, f1⟩ := O.F.ob
      refine ⟨_, rfl, fe, fx, _, rfl, f1, fF_no (by decide +kernel) (by decide +kernel) (by decide +kernel), ?_⟩
      refine ⟨fe, cc, tl, kd, bk, nd, cd, ts, tips, ks, as, U, ch, rfl, O.F, O.S, O.L.w.book, O.inU _, O.kept, hpot, fun a ha => O.adr (O.reach (O.kR a ha)), n2, n3.symm, k1.symm, by omega, by omega, fun z => absurd hw z, fun _ H20 as' B20 S20 hm k20 => ?_⟩
      refine ⟨_, _, rfl, rfl, _, rfl, if_f rfl ?_⟩
      have O20 := fin1 O B20 S20 k20
      have hall' : ∀ x, Reach ch tips x → x ∈ as' := fun x r => (hm x).mpr (hall x r)
      have hw' : WD as' ks ch U tips = [] := wd_none fun x r => .inl (hall' x r)
      obtain ⟨fx2, f2⟩ := O20.F.ob
      refine ⟨_, rfl, fe, fx2, _, rfl, f2, fF_no (by decide +kernel) (by decide +kernel) (by decide +kernel), ?_⟩
      refine ⟨fe, cc, tl, kd, bk, cd, ts, tips, ks, as', U, ch, rfl, O20.F, O20.S, O20.inU _, O20.kept, hpot, fun p21 H21 s21 fp21 ep21 => ?_⟩
      rw [show (fin (mem as') (mem ks) ch U tips).wd = [] from hw', enil] at ep21
      refine ⟨(by show 0 ≤ sizeLine; decide), fun e0 he0 => ?_⟩
      have s22 := s21.trans (same_new he0 (.lst []))
      have O22 := O20.same s22
      refine ⟨p21, e0, [], rfl, same_new he0 _ _ _ ep21, upd_same, Nat.zero_le _, _, rfl, if_f rfl ?_⟩
      generalize upd H21 e0 (.lst []) = H22 at s22 O22 ⊢
      refine ⟨_, rfl, bk, nd, td, cc, cd, fe, tl, kd, ld, hd, tp, ts, kvs, ch, U, tips, as', as, ks, ks, rfl, O22, Z, fun H23 as2 O23 hm2 k23 => ⟨_, rfl, if_f rfl ?_⟩⟩
      -- what is due
      refine ⟨_, rfl, hd, _, rfl, .inl O23.ehd, fun lp hlp => ?_⟩
      rw [mapd_keys]
      have s24 : Same H23 (upd H23 lp (.lst (as.map V.int))) := same_new hlp _
      have elp : (upd H23 lp (.lst (as.map V.int))) lp = some (.lst (as.map V.int)) := upd_same
      have O24 := O23.same s24
      generalize upd H23 lp (.lst (as.map V.int)) = H24 at s24 elp O24 ⊢
      refine ⟨_, rfl, _, rfl, bk, nd, td, tp, ts, kvs, ch, U, tips, rfl, O24.L, O24.etp, hAt, hpot, fun p25 H25 s25 f25 e25 => ?_⟩
      have hsnl : (srt (fin (mem []) all1 ch U tips).sn).length ≤ kvs.length := by
        rw [srt_len]
        exact Nat.le_trans (nodup_sub_len (sound_fin (held := mem []) (kept := all1) (ch := ch) U tips).sn fun a ha => O.reach ((hclo a).mp ha)) O.L.len
      have hcm : ∀ x, x ∈ srt (fin (mem []) all1 ch U tips).sn ↔ Reach ch tips x := fun x => mem_srt.trans (hclo x)
      generalize srt (fin (mem []) all1 ch U tips).sn = cs2 at e25 hsnl hcm
      refine ⟨lp, p25, _, _, rfl, rfl, s25 _ _ elp, e25, (by rw [List.length_map, List.length_map]; exact sz (by omega)), fun cp hcp => ?_⟩
      rw [← List.map_append]
      have s26 := s25.trans (same_new hcp (.lst ((as ++ cs2).map V.int)))
      have O26 := O24.same s26
      refine ⟨cp, as ++ cs2, rfl, SqL.of upd_same, (by rw [List.length_append]; omega), fun ns' dl hpw hnd hmem hdl => ?_⟩
      have hset : ∀ x, x ∈ as2 ↔ x ∈ as ∨ x ∈ ks := fun x => (hm2 x).trans (hm x)
      have hdue : ns' = srt as2 := srt_of (perm_of hnd O23.S.nodup fun x => by
        rw [hmem, List.mem_append, hcm, hset]
        constructor
        · rintro (z | z)
          · exact .inl z
          · exact hall x z
        · rintro (z | z)
          · exact .inl z
          · exact .inr (O.kR x z)) hpw
      subst hdue
      have s27 := s26.trans (same_new hdl (.lst ((srt as2).map V.int)))
      have O27 := O24.same s27
      have edl : (upd (upd H25 cp (.lst ((as ++ cs2).map V.int))) dl (.lst ((srt as2).map V.int))) dl = some (.lst ((srt as2).map V.int)) := upd_same
      generalize upd (upd H25 cp (.lst ((as ++ cs2).map V.int))) dl (.lst ((srt as2).map V.int)) = H27 at s27 O27 edl ⊢
      obtain ⟨cx, cr, c1⟩ := O27.S.ob
      have has2 := O27.small.2
      refine ⟨_, rfl, cc, cx, _, rfl, c1, cF_no (by decide +kernel) (by decide +kernel) (by decide +kernel), cc, bk, cd, ts, as2, rfl, O27.S, fun p28 H28 s28 f28 e28 => ?_⟩
      have O28 := O27.same s28
      have edl28 := s28 _ _ edl
      refine ⟨_, rfl, p28, dl, _, rfl, e28, edl28, (by rw [srt_len]; omega), _, rfl, if_f rfl ?_⟩
      -- two kept ones are dropped
      refine ⟨_, rfl, ld, _, rfl, .inl O28.eld, fun kp hkp => ?_⟩
      rw [mapd_keys]
      refine ⟨_, rfl, kp, _, rfl, SqL.of upd_same, fun sp hsp => ?_⟩
      obtain ⟨ds, eds, _, hds⟩ := cut_ints ks none (some 2)
      rw [eds]
      have s29 : Same H28 (upd (upd H28 kp (.lst (ks.map V.int))) sp (.lst (ds.map V.int))) := (same_new hkp _).trans (same_new hsp _)
      have esp : (upd (upd H28 kp (.lst (ks.map V.int))) sp (.lst (ds.map V.int))) sp = some (.lst (ds.map V.int)) := upd_same
      have O29 := O28.same s29
      have edl29 := s29 _ _ edl28
      generalize upd (upd H28 kp (.lst (ks.map V.int))) sp (.lst (ds.map V.int)) = H29 at s29 esp O29 edl29 ⊢
      refine ⟨sp, rfl, ⟨_, SqL.of esp⟩, for_list (K := K) (a := sp) (xs := ds.map V.int) (fun i σ H' => ∃ (as3 : List Int) (v17 : Option V), σ = [some (.ref l), some (.ref bk), some (.ref td), some (.ref cl), some (.ref np), some (.ref D), some (.ref tp), some (.ref hd), some (.ref cc), some (.ref hl), some (.ref fe), some (.ref ld), some (.ref od), some (.ref wl), v14, v15, v16, v17, some (.ref dl)] ∧
          Bs CB CC CF H' bk nd td cc cd fe tl kd ld hd tp ts kvs ch U tips as3 as ks ks ∧ H' sp = some (.lst (ds.map V.int)) ∧ H' dl = some (.lst ((srt as2).map V.int)) ∧ (∀ x ∈ as3, x ∈ as2) ∧ (∀ x ∈ as2, x ∈ as3 ∨ x ∈ ks))
        ⟨as2, v17, rfl, O29, esp, edl29, fun x h => h, fun x h => .inl h⟩ (fun i σ H' _ ⟨_, _, _, _, e, _⟩ => SqL.of e) ?_ ?_⟩
      · rintro i x σ H30 hi ⟨as3, v17', rfl, O30, esp30, edl30, hsub, hsup⟩
        obtain ⟨a, ha, rfl⟩ := List.getElem?_map .. ▸ hi |> fun h => by
          rw [Option.map_eq_some_iff] at h
          exact h
        have hak := hds a (List.mem_of_getElem? ha)
        obtain ⟨cx3, cr3, c3⟩ := O30.S.ob
        refine ⟨_, rfl, cc, cx3, _, rfl, c3, cF_no (by decide +kernel) (by decide +kernel) (by decide +kernel), _, rfl, cc, bk, cd, ts, as3, a, rfl, O30.S, fun H31 S31 k31 => ?_⟩
        have k31' : Kp (fun b => b = nd ∨ b = cd) H30 H31 := k31.mono fun b z => Or.inr z
        refine ⟨_, _, rfl, O30.step k31' (fun b z => z.elim Or.inl fun y => Or.inr (Or.inl y)) (k31.old _ _ O30.L.w.book.dc n2) ⟨S31.dc, S31.nodup, S31.ok⟩ ⟨k31.old _ _ O30.F.dc k1.symm, O30.F.nodup, O30.kR⟩ (k31.old _ _ O30.eld k2.symm) (k31.old _ _ O30.ehd k3.symm),
          lstk O30 k31' esp30, lstk O30 k31' edl30, fun x hx => hsub x (List.mem_filter.mp hx).1, fun x hx => ?_⟩
        rcases hsup x hx with z | z
        · by_cases e : x = a
          · exact .inr (e ▸ hak)
          · exact .inl (List.mem_filter.mpr ⟨z, decide_eq_true e⟩)
        · exact .inr z
      · rintro σ H30 ⟨as3, v17', rfl, O30, esp30, edl30, hsub, hsup⟩
        have hw3 : WD as3 ks ch U tips = [] := wd_none fun x r => hsup x ((hset x).mpr (hall x r))
        have has3 := O30.small.2
        obtain ⟨fx3, f3⟩ := O30.F.ob
        refine ⟨_, rfl, fe, fx3, _, rfl, f3, fF_no (by decide +kernel) (by decide +kernel) (by decide +kernel), ?_⟩
        refine ⟨fe, cc, tl, kd, bk, cd, ts, tips, ks, as3, U, ch, rfl, O30.F, O30.S, O30.inU _, O30.kept, hpot, fun p31 H31 s31 fp31 ep31 => ?_⟩
        rw [show (fin (mem as3) (mem ks) ch U tips).wd = [] from hw3, enil] at ep31
        refine ⟨(by show 0 ≤ sizeLine; decide), fun e1 he1 => ?_⟩
        have s32 := s31.trans (same_new he1 (.lst []))
        have O32 := O30.same s32
        have edl32 := s32 _ _ edl30
        refine ⟨p31, e1, [], rfl, same_new he1 _ _ _ ep31, upd_same, Nat.zero_le _, _, rfl, if_f rfl ?_⟩
        generalize upd H31 e1 (.lst []) = H32 at s32 O32 edl32 ⊢
        obtain ⟨fx4, f4⟩ := O32.F.ob
        refine ⟨_, rfl, fe, fx4, _, rfl, f4, fF_no (by decide +kernel) (by decide +kernel) (by decide +kernel), ?_⟩
        refine ⟨fe, cc, tl, kd, bk, nd, cd, ts, tips, ks, as3, U, ch, rfl, O32.F, O32.S, O32.L.w.book, O32.inU _, O32.kept, hpot, fun a ha => O32.adr (O32.reach (O32.kR a ha)), n2, n3.symm, k1.symm, by omega, by omega, fun z => absurd hw3 z, fun _ H33 as5 B33 S33 hm5 k33 => ?_⟩
        refine ⟨_, _, rfl, rfl, _, rfl, if_f rfl ?_⟩
        have O33 := fin1 O32 B33 S33 k33
        have edl33 := lstk O32 k33 edl32
        have hs5 : srt as5 = srt as2 := srt_congr (perm_of O33.S.nodup O23.S.nodup fun x => by
          rw [hm5]
          constructor
          · rintro (z | z)
            · exact hsub x z
            · exact (hset x).mpr (.inr z)
          · exact hsup x)
        obtain ⟨cx5, cr5, c5⟩ := O33.S.ob
        refine ⟨_, rfl, cc, cx5, _, rfl, c5, cF_no (by decide +kernel) (by decide +kernel) (by decide +kernel), cc, bk, cd, ts, as5, rfl, O33.S, fun p34 H34 s34 f34 e34 => ?_⟩
        have O34 := O33.same s34
        have edl34 := s34 _ _ edl33
        rw [hs5] at e34
        refine ⟨_, rfl, p34, dl, _, rfl, e34, edl34, (by rw [srt_len]; omega), _, rfl, if_f rfl ?_⟩
        refine ⟨_, rfl, _, rfl, _, rfl, _, rfl, _, rfl, _, rfl, ?_⟩
        exact ⟨bk, nd, td, cc, cd, fe, tl, kd, ld, hd, tp, dl, ts, kvs, ch, U, tips, as5, as, ks, rfl, O34, (by rw [hs5]; exact edl34), fun t ht => .inl ((hm5 t).mpr (hsup t ((hset t).mpr (hall t (.tip ht))))), Z, q⟩
end
end My
set_option Elab.async false
set_option linter.all false
set_option maxRecDepth 100000
set_option maxHeartbeats 8000000
/-! What the top has written, the law's head. -/
namespace My
open PySem L2 TL
theorem all_mk {l : PySem.W.OpenLaw} {w : World} {K : PySem.W.Frag} {h : Heap} {mg : Str → Option Value} {fa CB CC CF : Addr} (X : K.In h) (G : h.Ns mainGlobals mg) (hfa : mg "law" = some (.ref fa))
    {f_char_at : Addr} {od_char_at an_char_at : Option Addr} {sl_char_at : Array (Option Value)} {oc_char_at kV_char_at dc_char_at pm_char_at cd_char_at ct_char_at : Value}
    {f_read_digits : Addr} {od_read_digits an_read_digits : Option Addr} {sl_read_digits : Array (Option Value)} {oc_read_digits kV_read_digits dc_read_digits pm_read_digits cd_read_digits ct_read_digits : Value}
    {f_read_integer : Addr} {od_read_integer an_read_integer : Option Addr} {sl_read_integer : Array (Option Value)} {oc_read_integer kV_read_integer dc_read_integer pm_read_integer cd_read_integer ct_read_integer : Value}
    {f_read_text : Addr} {od_read_text an_read_text : Option Addr} {sl_read_text : Array (Option Value)} {oc_read_text kV_read_text dc_read_text pm_read_text cd_read_text ct_read_text : Value}
    {f_read_item : Addr} {od_read_item an_read_item : Option Addr} {sl_read_item : Array (Option Value)} {oc_read_item kV_read_item dc_read_item pm_read_item cd_read_item ct_read_item : Value}
    {f_decode_prefix : Addr} {od_decode_prefix an_decode_prefix : Option Addr} {sl_decode_prefix : Array (Option Value)} {oc_decode_prefix kV_decode_prefix dc_decode_prefix pm_decode_prefix cd_decode_prefix ct_decode_prefix : Value}
    {f_decode : Addr} {od_decode an_decode : Option Addr} {sl_decode : Array (Option Value)} {oc_decode kV_decode dc_decode pm_decode cd_decode ct_decode : Value}
    {f_children : Addr} {od_children an_children : Option Addr} {sl_children : Array (Option Value)} {oc_children kV_children dc_children pm_children cd_children ct_children : Value}
    {f_Book_init : Addr} {od_Book_init an_Book_init : Option Addr} {sl_Book_init : Array (Option Value)} {oc_Book_init kV_Book_init dc_Book_init pm_Book_init cd_Book_init ct_Book_init : Value}
    {f_Book_address : Addr} {od_Book_address an_Book_address : Option Addr} {sl_Book_address : Array (Option Value)} {oc_Book_address kV_Book_address dc_Book_address pm_Book_address cd_Book_address ct_Book_address : Value}
    {f_Book_find : Addr} {od_Book_find an_Book_find : Option Addr} {sl_Book_find : Array (Option Value)} {oc_Book_find kV_Book_find dc_Book_find pm_Book_find cd_Book_find ct_Book_find : Value}
    {f_Chunks_init : Addr} {od_Chunks_init an_Chunks_init : Option Addr} {sl_Chunks_init : Array (Option Value)} {oc_Chunks_init kV_Chunks_init dc_Chunks_init pm_Chunks_init cd_Chunks_init ct_Chunks_init : Value}
    {f_Chunks_put : Addr} {od_Chunks_put an_Chunks_put : Option Addr} {sl_Chunks_put : Array (Option Value)} {oc_Chunks_put kV_Chunks_put dc_Chunks_put pm_Chunks_put cd_Chunks_put ct_Chunks_put : Value}
    {f_Chunks_has : Addr} {od_Chunks_has an_Chunks_has : Option Addr} {sl_Chunks_has : Array (Option Value)} {oc_Chunks_has kV_Chunks_has dc_Chunks_has pm_Chunks_has cd_Chunks_has ct_Chunks_has : Value}
    {f_Chunks_drop : Addr} {od_Chunks_drop an_Chunks_drop : Option Addr} {sl_Chunks_drop : Array (Option Value)} {oc_Chunks_drop kV_Chunks_drop dc_Chunks_drop pm_Chunks_drop cd_Chunks_drop ct_Chunks_drop : Value}
    {f_Chunks_addresses : Addr} {od_Chunks_addresses an_Chunks_addresses : Option Addr} {sl_Chunks_addresses : Array (Option Value)} {oc_Chunks_addresses kV_Chunks_addresses dc_Chunks_addresses pm_Chunks_addresses cd_Chunks_addresses ct_Chunks_addresses : Value}
    {f_Fetch_init : Addr} {od_Fetch_init an_Fetch_init : Option Addr} {sl_Fetch_init : Array (Option Value)} {oc_Fetch_init kV_Fetch_init dc_Fetch_init pm_Fetch_init cd_Fetch_init ct_Fetch_init : Value}
    {f_Fetch_wants : Addr} {od_Fetch_wants an_Fetch_wants : Option Addr} {sl_Fetch_wants : Array (Option Value)} {oc_Fetch_wants kV_Fetch_wants dc_Fetch_wants pm_Fetch_wants cd_Fetch_wants ct_Fetch_wants : Value}
    {f_Fetch_receive : Addr} {od_Fetch_receive an_Fetch_receive : Option Addr} {sl_Fetch_receive : Array (Option Value)} {oc_Fetch_receive kV_Fetch_receive dc_Fetch_receive pm_Fetch_receive cd_Fetch_receive ct_Fetch_receive : Value}
    {f_Fetch_finish : Addr} {od_Fetch_finish an_Fetch_finish : Option Addr} {sl_Fetch_finish : Array (Option Value)} {oc_Fetch_finish kV_Fetch_finish dc_Fetch_finish pm_Fetch_finish cd_Fetch_finish ct_Fetch_finish : Value}
    {f_Lcell : Addr} {od_Lcell an_Lcell : Option Addr} {sl_Lcell : Array (Option Value)} {oc_Lcell kV_Lcell dc_Lcell pm_Lcell cd_Lcell ct_Lcell : Value}
    {f_Lnumbers : Addr} {od_Lnumbers an_Lnumbers : Option Addr} {sl_Lnumbers : Array (Option Value)} {oc_Lnumbers kV_Lnumbers dc_Lnumbers pm_Lnumbers cd_Lnumbers ct_Lnumbers : Value}
    {f_Ltext : Addr} {od_Ltext an_Ltext : Option Addr} {sl_Ltext : Array (Option Value)} {oc_Ltext kV_Ltext dc_Ltext pm_Ltext cd_Ltext ct_Ltext : Value}
    {f_Lencode : Addr} {od_Lencode an_Lencode : Option Addr} {sl_Lencode : Array (Option Value)} {oc_Lencode kV_Lencode dc_Lencode pm_Lencode cd_Lencode ct_Lencode : Value}
    {f_Ldigest : Addr} {od_Ldigest an_Ldigest : Option Addr} {sl_Ldigest : Array (Option Value)} {oc_Ldigest kV_Ldigest dc_Ldigest pm_Ldigest cd_Ldigest ct_Ldigest : Value}
    {f_Lends : Addr} {od_Lends an_Lends : Option Addr} {sl_Lends : Array (Option Value)} {oc_Lends kV_Lends dc_Lends pm_Lends cd_Lends ct_Lends : Value}
    {f_Llevel : Addr} {od_Llevel an_Llevel : Option Addr} {sl_Llevel : Array (Option Value)} {oc_Llevel kV_Llevel dc_Llevel pm_Llevel cd_Llevel ct_Llevel : Value}
    {f_Ltree : Addr} {od_Ltree an_Ltree : Option Addr} {sl_Ltree : Array (Option Value)} {oc_Ltree kV_Ltree dc_Ltree pm_Ltree cd_Ltree ct_Ltree : Value}
    {f_Lstate : Addr} {od_Lstate an_Lstate : Option Addr} {sl_Lstate : Array (Option Value)} {oc_Lstate kV_Lstate dc_Lstate pm_Lstate cd_Lstate ct_Lstate : Value}
    {f_Lcommit : Addr} {od_Lcommit an_Lcommit : Option Addr} {sl_Lcommit : Array (Option Value)} {oc_Lcommit kV_Lcommit dc_Lcommit pm_Lcommit cd_Lcommit ct_Lcommit : Value}
    {f_Lentries : Addr} {od_Lentries an_Lentries : Option Addr} {sl_Lentries : Array (Option Value)} {oc_Lentries kV_Lentries dc_Lentries pm_Lentries cd_Lentries ct_Lentries : Value}
    {f_Ltables : Addr} {od_Ltables an_Ltables : Option Addr} {sl_Ltables : Array (Option Value)} {oc_Ltables kV_Ltables dc_Ltables pm_Ltables cd_Ltables ct_Ltables : Value}
    {f_Lhistory : Addr} {od_Lhistory an_Lhistory : Option Addr} {sl_Lhistory : Array (Option Value)} {oc_Lhistory kV_Lhistory dc_Lhistory pm_Lhistory cd_Lhistory ct_Lhistory : Value}
    {f_Lclosure : Addr} {od_Lclosure an_Lclosure : Option Addr} {sl_Lclosure : Array (Option Value)} {oc_Lclosure kV_Lclosure dc_Lclosure pm_Lclosure cd_Lclosure ct_Lclosure : Value}
    {f_Lis_list : Addr} {od_Lis_list an_Lis_list : Option Addr} {sl_Lis_list : Array (Option Value)} {oc_Lis_list kV_Lis_list dc_Lis_list pm_Lis_list cd_Lis_list ct_Lis_list : Value}
    {f_Lwants : Addr} {od_Lwants an_Lwants : Option Addr} {sl_Lwants : Array (Option Value)} {oc_Lwants kV_Lwants dc_Lwants pm_Lwants cd_Lwants ct_Lwants : Value}
    {f_Ldict : Addr} {od_Ldict an_Ldict : Option Addr} {sl_Ldict : Array (Option Value)} {oc_Ldict kV_Ldict dc_Ldict pm_Ldict cd_Ldict ct_Ldict : Value}
    {f_Lstore : Addr} {od_Lstore an_Lstore : Option Addr} {sl_Lstore : Array (Option Value)} {oc_Lstore kV_Lstore dc_Lstore pm_Lstore cd_Lstore ct_Lstore : Value}
    {f_Lreceives : Addr} {od_Lreceives an_Lreceives : Option Addr} {sl_Lreceives : Array (Option Value)} {oc_Lreceives kV_Lreceives dc_Lreceives pm_Lreceives cd_Lreceives ct_Lreceives : Value}
    {f_Lis_still : Addr} {od_Lis_still an_Lis_still : Option Addr} {sl_Lis_still : Array (Option Value)} {oc_Lis_still kV_Lis_still dc_Lis_still pm_Lis_still cd_Lis_still ct_Lis_still : Value}
    {f_Lcomes_by : Addr} {od_Lcomes_by an_Lcomes_by : Option Addr} {sl_Lcomes_by : Array (Option Value)} {oc_Lcomes_by kV_Lcomes_by dc_Lcomes_by pm_Lcomes_by cd_Lcomes_by ct_Lcomes_by : Value}
    {f_Lhas_no_tips : Addr} {od_Lhas_no_tips an_Lhas_no_tips : Option Addr} {sl_Lhas_no_tips : Array (Option Value)} {oc_Lhas_no_tips kV_Lhas_no_tips dc_Lhas_no_tips pm_Lhas_no_tips cd_Lhas_no_tips ct_Lhas_no_tips : Value}
    {f_Lwants_what_went : Addr} {od_Lwants_what_went an_Lwants_what_went : Option Addr} {sl_Lwants_what_went : Array (Option Value)} {oc_Lwants_what_went kV_Lwants_what_went dc_Lwants_what_went pm_Lwants_what_went cd_Lwants_what_went ct_Lwants_what_went : Value}
    {f_law : Addr} {od_law an_law : Option Addr} {sl_law : Array (Option Value)} {oc_law kV_law dc_law pm_law cd_law ct_law : Value}
    {v_c_DIGITS : Value}
    {v_c_MOST_DIGITS : Value}
    {v_c_MOST_SIZE_DIGITS : Value}
    {v_c_MOST_LEVELS : Value}
    (g_Book : PySem.W.nsIn K mainGlobals "Book" = some (some (.ref CB)))
    (g_Chunks : PySem.W.nsIn K mainGlobals "Chunks" = some (some (.ref CC)))
    (g_Fetch : PySem.W.nsIn K mainGlobals "Fetch" = some (some (.ref CF)))
    (a_char_at : PySem.W.nsIn K mainGlobals "char_at" = some (some (.ref f_char_at)))
    (l_char_at : K.lookup f_char_at = some ⟨oc_char_at, od_char_at, .func (PySem.W.fnOf "char_at" "char_at" (defArgs s_char_at) (defBody s_char_at) (defScope s_char_at) .none kV_char_at dc_char_at pm_char_at an_char_at cd_char_at ct_char_at), sl_char_at⟩)
    (c_char_at : PySem.W.codeIn K cd_char_at "char_at" = true)
    (k_char_at : PySem.W.keepIn K (.ref f_char_at) = true)
    (a_read_digits : PySem.W.nsIn K mainGlobals "read_digits" = some (some (.ref f_read_digits)))
    (l_read_digits : K.lookup f_read_digits = some ⟨oc_read_digits, od_read_digits, .func (PySem.W.fnOf "read_digits" "read_digits" (defArgs s_read_digits) (defBody s_read_digits) (defScope s_read_digits) .none kV_read_digits dc_read_digits pm_read_digits an_read_digits cd_read_digits ct_read_digits), sl_read_digits⟩)
    (c_read_digits : PySem.W.codeIn K cd_read_digits "read_digits" = true)
    (k_read_digits : PySem.W.keepIn K (.ref f_read_digits) = true)
    (a_read_integer : PySem.W.nsIn K mainGlobals "read_integer" = some (some (.ref f_read_integer)))
    (l_read_integer : K.lookup f_read_integer = some ⟨oc_read_integer, od_read_integer, .func (PySem.W.fnOf "read_integer" "read_integer" (defArgs s_read_integer) (defBody s_read_integer) (defScope s_read_integer) .none kV_read_integer dc_read_integer pm_read_integer an_read_integer cd_read_integer ct_read_integer), sl_read_integer⟩)
    (c_read_integer : PySem.W.codeIn K cd_read_integer "read_integer" = true)
    (k_read_integer : PySem.W.keepIn K (.ref f_read_integer) = true)
    (a_read_text : PySem.W.nsIn K mainGlobals "read_text" = some (some (.ref f_read_text)))
    (l_read_text : K.lookup f_read_text = some ⟨oc_read_text, od_read_text, .func (PySem.W.fnOf "read_text" "read_text" (defArgs s_read_text) (defBody s_read_text) (defScope s_read_text) .none kV_read_text dc_read_text pm_read_text an_read_text cd_read_text ct_read_text), sl_read_text⟩)
    (c_read_text : PySem.W.codeIn K cd_read_text "read_text" = true)
    (k_read_text : PySem.W.keepIn K (.ref f_read_text) = true)
    (a_read_item : PySem.W.nsIn K mainGlobals "read_item" = some (some (.ref f_read_item)))
    (l_read_item : K.lookup f_read_item = some ⟨oc_read_item, od_read_item, .func (PySem.W.fnOf "read_item" "read_item" (defArgs s_read_item) (defBody s_read_item) (defScope s_read_item) .none kV_read_item dc_read_item pm_read_item an_read_item cd_read_item ct_read_item), sl_read_item⟩)
    (c_read_item : PySem.W.codeIn K cd_read_item "read_item" = true)
    (k_read_item : PySem.W.keepIn K (.ref f_read_item) = true)
    (a_decode_prefix : PySem.W.nsIn K mainGlobals "decode_prefix" = some (some (.ref f_decode_prefix)))
    (l_decode_prefix : K.lookup f_decode_prefix = some ⟨oc_decode_prefix, od_decode_prefix, .func (PySem.W.fnOf "decode_prefix" "decode_prefix" (defArgs s_decode_prefix) (defBody s_decode_prefix) (defScope s_decode_prefix) .none kV_decode_prefix dc_decode_prefix pm_decode_prefix an_decode_prefix cd_decode_prefix ct_decode_prefix), sl_decode_prefix⟩)
    (c_decode_prefix : PySem.W.codeIn K cd_decode_prefix "decode_prefix" = true)
    (k_decode_prefix : PySem.W.keepIn K (.ref f_decode_prefix) = true)
    (a_decode : PySem.W.nsIn K mainGlobals "decode" = some (some (.ref f_decode)))
    (l_decode : K.lookup f_decode = some ⟨oc_decode, od_decode, .func (PySem.W.fnOf "decode" "decode" (defArgs s_decode) (defBody s_decode) (defScope s_decode) .none kV_decode dc_decode pm_decode an_decode cd_decode ct_decode), sl_decode⟩)
    (c_decode : PySem.W.codeIn K cd_decode "decode" = true)
    (k_decode : PySem.W.keepIn K (.ref f_decode) = true)
    (a_children : PySem.W.nsIn K mainGlobals "children" = some (some (.ref f_children)))
    (l_children : K.lookup f_children = some ⟨oc_children, od_children, .func (PySem.W.fnOf "children" "children" (defArgs s_children) (defBody s_children) (defScope s_children) .none kV_children dc_children pm_children an_children cd_children ct_children), sl_children⟩)
    (c_children : PySem.W.codeIn K cd_children "children" = true)
    (k_children : PySem.W.keepIn K (.ref f_children) = true)
    (a_Book_init : PySem.W.findIn K (.ref CB) "__init__" = some (some (.ref f_Book_init)))
    (i_Book_init : PySem.W.isFn K (.ref f_Book_init) = true)
    (l_Book_init : K.lookup f_Book_init = some ⟨oc_Book_init, od_Book_init, .func (PySem.W.fnOf "__init__" "Book.__init__" (defArgs s_Book_init) (defBody s_Book_init) (defScope s_Book_init) .none kV_Book_init dc_Book_init pm_Book_init an_Book_init cd_Book_init ct_Book_init), sl_Book_init⟩)
    (c_Book_init : PySem.W.codeIn K cd_Book_init "Book.__init__" = true)
    (k_Book_init : PySem.W.keepIn K (.ref f_Book_init) = true)
    (a_Book_address : PySem.W.findIn K (.ref CB) "address" = some (some (.ref f_Book_address)))
    (i_Book_address : PySem.W.isFn K (.ref f_Book_address) = true)
    (l_Book_address : K.lookup f_Book_address = some ⟨oc_Book_address, od_Book_address, .func (PySem.W.fnOf "address" "Book.address" (defArgs s_Book_address) (defBody s_Book_address) (defScope s_Book_address) .none kV_Book_address dc_Book_address pm_Book_address an_Book_address cd_Book_address ct_Book_address), sl_Book_address⟩)
    (c_Book_address : PySem.W.codeIn K cd_Book_address "Book.address" = true)
    (k_Book_address : PySem.W.keepIn K (.ref f_Book_address) = true)
    (a_Book_find : PySem.W.findIn K (.ref CB) "find" = some (some (.ref f_Book_find)))
    (i_Book_find : PySem.W.isFn K (.ref f_Book_find) = true)
    (l_Book_find : K.lookup f_Book_find = some ⟨oc_Book_find, od_Book_find, .func (PySem.W.fnOf "find" "Book.find" (defArgs s_Book_find) (defBody s_Book_find) (defScope s_Book_find) .none kV_Book_find dc_Book_find pm_Book_find an_Book_find cd_Book_find ct_Book_find), sl_Book_find⟩)
    (c_Book_find : PySem.W.codeIn K cd_Book_find "Book.find" = true)
    (k_Book_find : PySem.W.keepIn K (.ref f_Book_find) = true)
    (a_Chunks_init : PySem.W.findIn K (.ref CC) "__init__" = some (some (.ref f_Chunks_init)))
    (i_Chunks_init : PySem.W.isFn K (.ref f_Chunks_init) = true)
    (l_Chunks_init : K.lookup f_Chunks_init = some ⟨oc_Chunks_init, od_Chunks_init, .func (PySem.W.fnOf "__init__" "Chunks.__init__" (defArgs s_Chunks_init) (defBody s_Chunks_init) (defScope s_Chunks_init) .none kV_Chunks_init dc_Chunks_init pm_Chunks_init an_Chunks_init cd_Chunks_init ct_Chunks_init), sl_Chunks_init⟩)
    (c_Chunks_init : PySem.W.codeIn K cd_Chunks_init "Chunks.__init__" = true)
    (k_Chunks_init : PySem.W.keepIn K (.ref f_Chunks_init) = true)
    (a_Chunks_put : PySem.W.findIn K (.ref CC) "put" = some (some (.ref f_Chunks_put)))
    (i_Chunks_put : PySem.W.isFn K (.ref f_Chunks_put) = true)
    (l_Chunks_put : K.lookup f_Chunks_put = some ⟨oc_Chunks_put, od_Chunks_put, .func (PySem.W.fnOf "put" "Chunks.put" (defArgs s_Chunks_put) (defBody s_Chunks_put) (defScope s_Chunks_put) .none kV_Chunks_put dc_Chunks_put pm_Chunks_put an_Chunks_put cd_Chunks_put ct_Chunks_put), sl_Chunks_put⟩)
    (c_Chunks_put : PySem.W.codeIn K cd_Chunks_put "Chunks.put" = true)
    (k_Chunks_put : PySem.W.keepIn K (.ref f_Chunks_put) = true)
    (a_Chunks_has : PySem.W.findIn K (.ref CC) "has" = some (some (.ref f_Chunks_has)))
    (i_Chunks_has : PySem.W.isFn K (.ref f_Chunks_has) = true)
    (l_Chunks_has : K.lookup f_Chunks_has = some ⟨oc_Chunks_has, od_Chunks_has, .func (PySem.W.fnOf "has" "Chunks.has" (defArgs s_Chunks_has) (defBody s_Chunks_has) (defScope s_Chunks_has) .none kV_Chunks_has dc_Chunks_has pm_Chunks_has an_Chunks_has cd_Chunks_has ct_Chunks_has), sl_Chunks_has⟩)
    (c_Chunks_has : PySem.W.codeIn K cd_Chunks_has "Chunks.has" = true)
    (k_Chunks_has : PySem.W.keepIn K (.ref f_Chunks_has) = true)
    (a_Chunks_drop : PySem.W.findIn K (.ref CC) "drop" = some (some (.ref f_Chunks_drop)))
    (i_Chunks_drop : PySem.W.isFn K (.ref f_Chunks_drop) = true)
    (l_Chunks_drop : K.lookup f_Chunks_drop = some ⟨oc_Chunks_drop, od_Chunks_drop, .func (PySem.W.fnOf "drop" "Chunks.drop" (defArgs s_Chunks_drop) (defBody s_Chunks_drop) (defScope s_Chunks_drop) .none kV_Chunks_drop dc_Chunks_drop pm_Chunks_drop an_Chunks_drop cd_Chunks_drop ct_Chunks_drop), sl_Chunks_drop⟩)
    (c_Chunks_drop : PySem.W.codeIn K cd_Chunks_drop "Chunks.drop" = true)
    (k_Chunks_drop : PySem.W.keepIn K (.ref f_Chunks_drop) = true)
    (a_Chunks_addresses : PySem.W.findIn K (.ref CC) "addresses" = some (some (.ref f_Chunks_addresses)))
    (i_Chunks_addresses : PySem.W.isFn K (.ref f_Chunks_addresses) = true)
    (l_Chunks_addresses : K.lookup f_Chunks_addresses = some ⟨oc_Chunks_addresses, od_Chunks_addresses, .func (PySem.W.fnOf "addresses" "Chunks.addresses" (defArgs s_Chunks_addresses) (defBody s_Chunks_addresses) (defScope s_Chunks_addresses) .none kV_Chunks_addresses dc_Chunks_addresses pm_Chunks_addresses an_Chunks_addresses cd_Chunks_addresses ct_Chunks_addresses), sl_Chunks_addresses⟩)
    (c_Chunks_addresses : PySem.W.codeIn K cd_Chunks_addresses "Chunks.addresses" = true)
    (k_Chunks_addresses : PySem.W.keepIn K (.ref f_Chunks_addresses) = true)
    (a_Fetch_init : PySem.W.findIn K (.ref CF) "__init__" = some (some (.ref f_Fetch_init)))
    (i_Fetch_init : PySem.W.isFn K (.ref f_Fetch_init) = true)
    (l_Fetch_init : K.lookup f_Fetch_init = some ⟨oc_Fetch_init, od_Fetch_init, .func (PySem.W.fnOf "__init__" "Fetch.__init__" (defArgs s_Fetch_init) (defBody s_Fetch_init) (defScope s_Fetch_init) .none kV_Fetch_init dc_Fetch_init pm_Fetch_init an_Fetch_init cd_Fetch_init ct_Fetch_init), sl_Fetch_init⟩)
    (c_Fetch_init : PySem.W.codeIn K cd_Fetch_init "Fetch.__init__" = true)
    (k_Fetch_init : PySem.W.keepIn K (.ref f_Fetch_init) = true)
    (a_Fetch_wants : PySem.W.findIn K (.ref CF) "wants" = some (some (.ref f_Fetch_wants)))
    (i_Fetch_wants : PySem.W.isFn K (.ref f_Fetch_wants) = true)
    (l_Fetch_wants : K.lookup f_Fetch_wants = some ⟨oc_Fetch_wants, od_Fetch_wants, .func (PySem.W.fnOf "wants" "Fetch.wants" (defArgs s_Fetch_wants) (defBody s_Fetch_wants) (defScope s_Fetch_wants) .none kV_Fetch_wants dc_Fetch_wants pm_Fetch_wants an_Fetch_wants cd_Fetch_wants ct_Fetch_wants), sl_Fetch_wants⟩)
    (c_Fetch_wants : PySem.W.codeIn K cd_Fetch_wants "Fetch.wants" = true)
    (k_Fetch_wants : PySem.W.keepIn K (.ref f_Fetch_wants) = true)
    (a_Fetch_receive : PySem.W.findIn K (.ref CF) "receive" = some (some (.ref f_Fetch_receive)))
    (i_Fetch_receive : PySem.W.isFn K (.ref f_Fetch_receive) = true)
    (l_Fetch_receive : K.lookup f_Fetch_receive = some ⟨oc_Fetch_receive, od_Fetch_receive, .func (PySem.W.fnOf "receive" "Fetch.receive" (defArgs s_Fetch_receive) (defBody s_Fetch_receive) (defScope s_Fetch_receive) .none kV_Fetch_receive dc_Fetch_receive pm_Fetch_receive an_Fetch_receive cd_Fetch_receive ct_Fetch_receive), sl_Fetch_receive⟩)
    (c_Fetch_receive : PySem.W.codeIn K cd_Fetch_receive "Fetch.receive" = true)
    (k_Fetch_receive : PySem.W.keepIn K (.ref f_Fetch_receive) = true)
    (a_Fetch_finish : PySem.W.findIn K (.ref CF) "finish" = some (some (.ref f_Fetch_finish)))
    (i_Fetch_finish : PySem.W.isFn K (.ref f_Fetch_finish) = true)
    (l_Fetch_finish : K.lookup f_Fetch_finish = some ⟨oc_Fetch_finish, od_Fetch_finish, .func (PySem.W.fnOf "finish" "Fetch.finish" (defArgs s_Fetch_finish) (defBody s_Fetch_finish) (defScope s_Fetch_finish) .none kV_Fetch_finish dc_Fetch_finish pm_Fetch_finish an_Fetch_finish cd_Fetch_finish ct_Fetch_finish), sl_Fetch_finish⟩)
    (c_Fetch_finish : PySem.W.codeIn K cd_Fetch_finish "Fetch.finish" = true)
    (k_Fetch_finish : PySem.W.keepIn K (.ref f_Fetch_finish) = true)
    (a_Lcell : PySem.W.nsIn K mainGlobals "_law_cell" = some (some (.ref f_Lcell)))
    (l_Lcell : K.lookup f_Lcell = some ⟨oc_Lcell, od_Lcell, .func (PySem.W.fnOf "_law_cell" "_law_cell" (defArgs s_Lcell) (defBody s_Lcell) (defScope s_Lcell) .none kV_Lcell dc_Lcell pm_Lcell an_Lcell cd_Lcell ct_Lcell), sl_Lcell⟩)
    (c_Lcell : PySem.W.codeIn K cd_Lcell "_law_cell" = true)
    (k_Lcell : PySem.W.keepIn K (.ref f_Lcell) = true)
    (a_Lnumbers : PySem.W.nsIn K mainGlobals "_law_numbers" = some (some (.ref f_Lnumbers)))
    (l_Lnumbers : K.lookup f_Lnumbers = some ⟨oc_Lnumbers, od_Lnumbers, .func (PySem.W.fnOf "_law_numbers" "_law_numbers" (defArgs s_Lnumbers) (defBody s_Lnumbers) (defScope s_Lnumbers) .none kV_Lnumbers dc_Lnumbers pm_Lnumbers an_Lnumbers cd_Lnumbers ct_Lnumbers), sl_Lnumbers⟩)
    (c_Lnumbers : PySem.W.codeIn K cd_Lnumbers "_law_numbers" = true)
    (k_Lnumbers : PySem.W.keepIn K (.ref f_Lnumbers) = true)
    (a_Ltext : PySem.W.nsIn K mainGlobals "_law_text" = some (some (.ref f_Ltext)))
    (l_Ltext : K.lookup f_Ltext = some ⟨oc_Ltext, od_Ltext, .func (PySem.W.fnOf "_law_text" "_law_text" (defArgs s_Ltext) (defBody s_Ltext) (defScope s_Ltext) .none kV_Ltext dc_Ltext pm_Ltext an_Ltext cd_Ltext ct_Ltext), sl_Ltext⟩)
    (c_Ltext : PySem.W.codeIn K cd_Ltext "_law_text" = true)
    (k_Ltext : PySem.W.keepIn K (.ref f_Ltext) = true)
    (a_Lencode : PySem.W.nsIn K mainGlobals "_law_encode" = some (some (.ref f_Lencode)))
    (l_Lencode : K.lookup f_Lencode = some ⟨oc_Lencode, od_Lencode, .func (PySem.W.fnOf "_law_encode" "_law_encode" (defArgs s_Lencode) (defBody s_Lencode) (defScope s_Lencode) .none kV_Lencode dc_Lencode pm_Lencode an_Lencode cd_Lencode ct_Lencode), sl_Lencode⟩)
    (c_Lencode : PySem.W.codeIn K cd_Lencode "_law_encode" = true)
    (k_Lencode : PySem.W.keepIn K (.ref f_Lencode) = true)
    (a_Ldigest : PySem.W.nsIn K mainGlobals "_law_digest" = some (some (.ref f_Ldigest)))
    (l_Ldigest : K.lookup f_Ldigest = some ⟨oc_Ldigest, od_Ldigest, .func (PySem.W.fnOf "_law_digest" "_law_digest" (defArgs s_Ldigest) (defBody s_Ldigest) (defScope s_Ldigest) .none kV_Ldigest dc_Ldigest pm_Ldigest an_Ldigest cd_Ldigest ct_Ldigest), sl_Ldigest⟩)
    (c_Ldigest : PySem.W.codeIn K cd_Ldigest "_law_digest" = true)
    (k_Ldigest : PySem.W.keepIn K (.ref f_Ldigest) = true)
    (a_Lends : PySem.W.nsIn K mainGlobals "_law_ends" = some (some (.ref f_Lends)))
    (l_Lends : K.lookup f_Lends = some ⟨oc_Lends, od_Lends, .func (PySem.W.fnOf "_law_ends" "_law_ends" (defArgs s_Lends) (defBody s_Lends) (defScope s_Lends) .none kV_Lends dc_Lends pm_Lends an_Lends cd_Lends ct_Lends), sl_Lends⟩)
    (c_Lends : PySem.W.codeIn K cd_Lends "_law_ends" = true)
    (k_Lends : PySem.W.keepIn K (.ref f_Lends) = true)
    (a_Llevel : PySem.W.nsIn K mainGlobals "_law_level" = some (some (.ref f_Llevel)))
    (l_Llevel : K.lookup f_Llevel = some ⟨oc_Llevel, od_Llevel, .func (PySem.W.fnOf "_law_level" "_law_level" (defArgs s_Llevel) (defBody s_Llevel) (defScope s_Llevel) .none kV_Llevel dc_Llevel pm_Llevel an_Llevel cd_Llevel ct_Llevel), sl_Llevel⟩)
    (c_Llevel : PySem.W.codeIn K cd_Llevel "_law_level" = true)
    (k_Llevel : PySem.W.keepIn K (.ref f_Llevel) = true)
    (a_Ltree : PySem.W.nsIn K mainGlobals "_law_tree" = some (some (.ref f_Ltree)))
    (l_Ltree : K.lookup f_Ltree = some ⟨oc_Ltree, od_Ltree, .func (PySem.W.fnOf "_law_tree" "_law_tree" (defArgs s_Ltree) (defBody s_Ltree) (defScope s_Ltree) .none kV_Ltree dc_Ltree pm_Ltree an_Ltree cd_Ltree ct_Ltree), sl_Ltree⟩)
    (c_Ltree : PySem.W.codeIn K cd_Ltree "_law_tree" = true)
    (k_Ltree : PySem.W.keepIn K (.ref f_Ltree) = true)
    (a_Lstate : PySem.W.nsIn K mainGlobals "_law_state" = some (some (.ref f_Lstate)))
    (l_Lstate : K.lookup f_Lstate = some ⟨oc_Lstate, od_Lstate, .func (PySem.W.fnOf "_law_state" "_law_state" (defArgs s_Lstate) (defBody s_Lstate) (defScope s_Lstate) .none kV_Lstate dc_Lstate pm_Lstate an_Lstate cd_Lstate ct_Lstate), sl_Lstate⟩)
    (c_Lstate : PySem.W.codeIn K cd_Lstate "_law_state" = true)
    (k_Lstate : PySem.W.keepIn K (.ref f_Lstate) = true)
    (a_Lcommit : PySem.W.nsIn K mainGlobals "_law_commit" = some (some (.ref f_Lcommit)))
    (l_Lcommit : K.lookup f_Lcommit = some ⟨oc_Lcommit, od_Lcommit, .func (PySem.W.fnOf "_law_commit" "_law_commit" (defArgs s_Lcommit) (defBody s_Lcommit) (defScope s_Lcommit) .none kV_Lcommit dc_Lcommit pm_Lcommit an_Lcommit cd_Lcommit ct_Lcommit), sl_Lcommit⟩)
    (c_Lcommit : PySem.W.codeIn K cd_Lcommit "_law_commit" = true)
    (k_Lcommit : PySem.W.keepIn K (.ref f_Lcommit) = true)
    (a_Lentries : PySem.W.nsIn K mainGlobals "_law_entries" = some (some (.ref f_Lentries)))
    (l_Lentries : K.lookup f_Lentries = some ⟨oc_Lentries, od_Lentries, .func (PySem.W.fnOf "_law_entries" "_law_entries" (defArgs s_Lentries) (defBody s_Lentries) (defScope s_Lentries) .none kV_Lentries dc_Lentries pm_Lentries an_Lentries cd_Lentries ct_Lentries), sl_Lentries⟩)
    (c_Lentries : PySem.W.codeIn K cd_Lentries "_law_entries" = true)
    (k_Lentries : PySem.W.keepIn K (.ref f_Lentries) = true)
    (a_Ltables : PySem.W.nsIn K mainGlobals "_law_tables" = some (some (.ref f_Ltables)))
    (l_Ltables : K.lookup f_Ltables = some ⟨oc_Ltables, od_Ltables, .func (PySem.W.fnOf "_law_tables" "_law_tables" (defArgs s_Ltables) (defBody s_Ltables) (defScope s_Ltables) .none kV_Ltables dc_Ltables pm_Ltables an_Ltables cd_Ltables ct_Ltables), sl_Ltables⟩)
    (c_Ltables : PySem.W.codeIn K cd_Ltables "_law_tables" = true)
    (k_Ltables : PySem.W.keepIn K (.ref f_Ltables) = true)
    (a_Lhistory : PySem.W.nsIn K mainGlobals "_law_history" = some (some (.ref f_Lhistory)))
    (l_Lhistory : K.lookup f_Lhistory = some ⟨oc_Lhistory, od_Lhistory, .func (PySem.W.fnOf "_law_history" "_law_history" (defArgs s_Lhistory) (defBody s_Lhistory) (defScope s_Lhistory) .none kV_Lhistory dc_Lhistory pm_Lhistory an_Lhistory cd_Lhistory ct_Lhistory), sl_Lhistory⟩)
    (c_Lhistory : PySem.W.codeIn K cd_Lhistory "_law_history" = true)
    (k_Lhistory : PySem.W.keepIn K (.ref f_Lhistory) = true)
    (a_Lclosure : PySem.W.nsIn K mainGlobals "_law_closure" = some (some (.ref f_Lclosure)))
    (l_Lclosure : K.lookup f_Lclosure = some ⟨oc_Lclosure, od_Lclosure, .func (PySem.W.fnOf "_law_closure" "_law_closure" (defArgs s_Lclosure) (defBody s_Lclosure) (defScope s_Lclosure) .none kV_Lclosure dc_Lclosure pm_Lclosure an_Lclosure cd_Lclosure ct_Lclosure), sl_Lclosure⟩)
    (c_Lclosure : PySem.W.codeIn K cd_Lclosure "_law_closure" = true)
    (k_Lclosure : PySem.W.keepIn K (.ref f_Lclosure) = true)
    (a_Lis_list : PySem.W.nsIn K mainGlobals "_law_is_list" = some (some (.ref f_Lis_list)))
    (l_Lis_list : K.lookup f_Lis_list = some ⟨oc_Lis_list, od_Lis_list, .func (PySem.W.fnOf "_law_is_list" "_law_is_list" (defArgs s_Lis_list) (defBody s_Lis_list) (defScope s_Lis_list) .none kV_Lis_list dc_Lis_list pm_Lis_list an_Lis_list cd_Lis_list ct_Lis_list), sl_Lis_list⟩)
    (c_Lis_list : PySem.W.codeIn K cd_Lis_list "_law_is_list" = true)
    (k_Lis_list : PySem.W.keepIn K (.ref f_Lis_list) = true)
    (a_Lwants : PySem.W.nsIn K mainGlobals "_law_wants" = some (some (.ref f_Lwants)))
    (l_Lwants : K.lookup f_Lwants = some ⟨oc_Lwants, od_Lwants, .func (PySem.W.fnOf "_law_wants" "_law_wants" (defArgs s_Lwants) (defBody s_Lwants) (defScope s_Lwants) .none kV_Lwants dc_Lwants pm_Lwants an_Lwants cd_Lwants ct_Lwants), sl_Lwants⟩)
    (c_Lwants : PySem.W.codeIn K cd_Lwants "_law_wants" = true)
    (k_Lwants : PySem.W.keepIn K (.ref f_Lwants) = true)
    (a_Ldict : PySem.W.nsIn K mainGlobals "_law_dict" = some (some (.ref f_Ldict)))
    (l_Ldict : K.lookup f_Ldict = some ⟨oc_Ldict, od_Ldict, .func (PySem.W.fnOf "_law_dict" "_law_dict" (defArgs s_Ldict) (defBody s_Ldict) (defScope s_Ldict) .none kV_Ldict dc_Ldict pm_Ldict an_Ldict cd_Ldict ct_Ldict), sl_Ldict⟩)
    (c_Ldict : PySem.W.codeIn K cd_Ldict "_law_dict" = true)
    (k_Ldict : PySem.W.keepIn K (.ref f_Ldict) = true)
    (a_Lstore : PySem.W.nsIn K mainGlobals "_law_store" = some (some (.ref f_Lstore)))
    (l_Lstore : K.lookup f_Lstore = some ⟨oc_Lstore, od_Lstore, .func (PySem.W.fnOf "_law_store" "_law_store" (defArgs s_Lstore) (defBody s_Lstore) (defScope s_Lstore) .none kV_Lstore dc_Lstore pm_Lstore an_Lstore cd_Lstore ct_Lstore), sl_Lstore⟩)
    (c_Lstore : PySem.W.codeIn K cd_Lstore "_law_store" = true)
    (k_Lstore : PySem.W.keepIn K (.ref f_Lstore) = true)
    (a_Lreceives : PySem.W.nsIn K mainGlobals "_law_receives" = some (some (.ref f_Lreceives)))
    (l_Lreceives : K.lookup f_Lreceives = some ⟨oc_Lreceives, od_Lreceives, .func (PySem.W.fnOf "_law_receives" "_law_receives" (defArgs s_Lreceives) (defBody s_Lreceives) (defScope s_Lreceives) .none kV_Lreceives dc_Lreceives pm_Lreceives an_Lreceives cd_Lreceives ct_Lreceives), sl_Lreceives⟩)
    (c_Lreceives : PySem.W.codeIn K cd_Lreceives "_law_receives" = true)
    (k_Lreceives : PySem.W.keepIn K (.ref f_Lreceives) = true)
    (a_Lis_still : PySem.W.nsIn K mainGlobals "_law_is_still" = some (some (.ref f_Lis_still)))
    (l_Lis_still : K.lookup f_Lis_still = some ⟨oc_Lis_still, od_Lis_still, .func (PySem.W.fnOf "_law_is_still" "_law_is_still" (defArgs s_Lis_still) (defBody s_Lis_still) (defScope s_Lis_still) .none kV_Lis_still dc_Lis_still pm_Lis_still an_Lis_still cd_Lis_still ct_Lis_still), sl_Lis_still⟩)
    (c_Lis_still : PySem.W.codeIn K cd_Lis_still "_law_is_still" = true)
    (k_Lis_still : PySem.W.keepIn K (.ref f_Lis_still) = true)
    (a_Lcomes_by : PySem.W.nsIn K mainGlobals "_law_comes_by" = some (some (.ref f_Lcomes_by)))
    (l_Lcomes_by : K.lookup f_Lcomes_by = some ⟨oc_Lcomes_by, od_Lcomes_by, .func (PySem.W.fnOf "_law_comes_by" "_law_comes_by" (defArgs s_Lcomes_by) (defBody s_Lcomes_by) (defScope s_Lcomes_by) .none kV_Lcomes_by dc_Lcomes_by pm_Lcomes_by an_Lcomes_by cd_Lcomes_by ct_Lcomes_by), sl_Lcomes_by⟩)
    (c_Lcomes_by : PySem.W.codeIn K cd_Lcomes_by "_law_comes_by" = true)
    (k_Lcomes_by : PySem.W.keepIn K (.ref f_Lcomes_by) = true)
    (a_Lhas_no_tips : PySem.W.nsIn K mainGlobals "_law_has_no_tips" = some (some (.ref f_Lhas_no_tips)))
    (l_Lhas_no_tips : K.lookup f_Lhas_no_tips = some ⟨oc_Lhas_no_tips, od_Lhas_no_tips, .func (PySem.W.fnOf "_law_has_no_tips" "_law_has_no_tips" (defArgs s_Lhas_no_tips) (defBody s_Lhas_no_tips) (defScope s_Lhas_no_tips) .none kV_Lhas_no_tips dc_Lhas_no_tips pm_Lhas_no_tips an_Lhas_no_tips cd_Lhas_no_tips ct_Lhas_no_tips), sl_Lhas_no_tips⟩)
    (c_Lhas_no_tips : PySem.W.codeIn K cd_Lhas_no_tips "_law_has_no_tips" = true)
    (k_Lhas_no_tips : PySem.W.keepIn K (.ref f_Lhas_no_tips) = true)
    (a_Lwants_what_went : PySem.W.nsIn K mainGlobals "_law_wants_what_went" = some (some (.ref f_Lwants_what_went)))
    (l_Lwants_what_went : K.lookup f_Lwants_what_went = some ⟨oc_Lwants_what_went, od_Lwants_what_went, .func (PySem.W.fnOf "_law_wants_what_went" "_law_wants_what_went" (defArgs s_Lwants_what_went) (defBody s_Lwants_what_went) (defScope s_Lwants_what_went) .none kV_Lwants_what_went dc_Lwants_what_went pm_Lwants_what_went an_Lwants_what_went cd_Lwants_what_went ct_Lwants_what_went), sl_Lwants_what_went⟩)
    (c_Lwants_what_went : PySem.W.codeIn K cd_Lwants_what_went "_law_wants_what_went" = true)
    (k_Lwants_what_went : PySem.W.keepIn K (.ref f_Lwants_what_went) = true)
    (a_law : PySem.W.nsIn K mainGlobals "law" = some (some (.ref f_law)))
    (l_law : K.lookup f_law = some ⟨oc_law, od_law, .func (PySem.W.fnOf "law" "law" (defArgs s_law) (defBody s_law) (defScope s_law) .none kV_law dc_law pm_law an_law cd_law ct_law), sl_law⟩)
    (c_law : PySem.W.codeIn K cd_law "law" = true)
    (k_law : PySem.W.keepIn K (.ref f_law) = true)
    (pg_Book : PySem.W.plainGet K CB Str.empty = true)
    (hd_Book : PySem.W.hasDictIn K CB = true)
    (po_Book : PySem.W.plainOver K CB = true)
    (sa_Book : PySem.W.findIn K (.ref CB) "__setattr__" = some (some (.builtin "object.__setattr__")))
    (mk_Book : PySem.W.makesIn K CB = true)
    (kc_Book : PySem.W.keepIn K (.ref CB) = true)
    (n_Book_numbers : PySem.W.findIn K (.ref CB) "numbers" = some none)
    (pg_Chunks : PySem.W.plainGet K CC Str.empty = true)
    (hd_Chunks : PySem.W.hasDictIn K CC = true)
    (po_Chunks : PySem.W.plainOver K CC = true)
    (sa_Chunks : PySem.W.findIn K (.ref CC) "__setattr__" = some (some (.builtin "object.__setattr__")))
    (mk_Chunks : PySem.W.makesIn K CC = true)
    (kc_Chunks : PySem.W.keepIn K (.ref CC) = true)
    (n_Chunks_book : PySem.W.findIn K (.ref CC) "book" = some none)
    (n_Chunks_reads : PySem.W.findIn K (.ref CC) "reads" = some none)
    (n_Chunks_texts : PySem.W.findIn K (.ref CC) "texts" = some none)
    (pg_Fetch : PySem.W.plainGet K CF Str.empty = true)
    (hd_Fetch : PySem.W.hasDictIn K CF = true)
    (po_Fetch : PySem.W.plainOver K CF = true)
    (sa_Fetch : PySem.W.findIn K (.ref CF) "__setattr__" = some (some (.builtin "object.__setattr__")))
    (mk_Fetch : PySem.W.makesIn K CF = true)
    (kc_Fetch : PySem.W.keepIn K (.ref CF) = true)
    (n_Fetch_chunks : PySem.W.findIn K (.ref CF) "chunks" = some none)
    (n_Fetch_tips : PySem.W.findIn K (.ref CF) "tips" = some none)
    (n_Fetch_kept : PySem.W.findIn K (.ref CF) "kept" = some none)
    (z_len : PySem.W.nsIn K mainGlobals "len" = some none)
    (z_range : PySem.W.nsIn K mainGlobals "range" = some none)
    (z_int : PySem.W.nsIn K mainGlobals "int" = some none)
    (z_str : PySem.W.nsIn K mainGlobals "str" = some none)
    (z_bool : PySem.W.nsIn K mainGlobals "bool" = some none)
    (z_list : PySem.W.nsIn K mainGlobals "list" = some none)
    (z_tuple : PySem.W.nsIn K mainGlobals "tuple" = some none)
    (z_sorted : PySem.W.nsIn K mainGlobals "sorted" = some none)
    (z_sum : PySem.W.nsIn K mainGlobals "sum" = some none)
    (z_min : PySem.W.nsIn K mainGlobals "min" = some none)
    (z_max : PySem.W.nsIn K mainGlobals "max" = some none)
    (z_ord : PySem.W.nsIn K mainGlobals "ord" = some none)
    (z_isinstance : PySem.W.nsIn K mainGlobals "isinstance" = some none)
    (z_set : PySem.W.nsIn K mainGlobals "set" = some none)
    (x_c_DIGITS : PySem.W.nsIn K mainGlobals nDIGITS = some (some v_c_DIGITS))
    (r_c_DIGITS : RelV (.str "0123456789") v_c_DIGITS)
    (x_c_MOST_DIGITS : PySem.W.nsIn K mainGlobals nMOST_DIGITS = some (some v_c_MOST_DIGITS))
    (r_c_MOST_DIGITS : RelV (.int 60) v_c_MOST_DIGITS)
    (x_c_MOST_SIZE_DIGITS : PySem.W.nsIn K mainGlobals "MOST_SIZE_DIGITS" = some (some v_c_MOST_SIZE_DIGITS))
    (r_c_MOST_SIZE_DIGITS : RelV (.int 6) v_c_MOST_SIZE_DIGITS)
    (x_c_MOST_LEVELS : PySem.W.nsIn K mainGlobals "MOST_LEVELS" = some (some v_c_MOST_LEVELS))
    (r_c_MOST_LEVELS : RelV (.int 12) v_c_MOST_LEVELS)
    : ∃ fd : FuncData, (∀ (s : Shared) (v : Value), BindsTo s fd ⟨[v], []⟩ [("_law_script", v)]) ∧ ∀ base : Heap, K.In base → base.Ns mainGlobals mg → FnOk l.prog w K mg base CX0 25 fa fd ["_law_script"] (spLaw K) := by
  have e := hfa.symm.trans (PySem.W.mg_of X G a_law)
  cases e
  have B : Bl mg := { len := PySem.W.mg_none_of X G z_len, range := PySem.W.mg_none_of X G z_range, int := PySem.W.mg_none_of X G z_int, str := PySem.W.mg_none_of X G z_str, bool := PySem.W.mg_none_of X G z_bool, list := PySem.W.mg_none_of X G z_list, tuple := PySem.W.mg_none_of X G z_tuple, sorted := PySem.W.mg_none_of X G z_sorted, sum := PySem.W.mg_none_of X G z_sum, min := PySem.W.mg_none_of X G z_min, max := PySem.W.mg_none_of X G z_max, ord := PySem.W.mg_none_of X G z_ord, isinstance := PySem.W.mg_none_of X G z_isinstance, set := PySem.W.mg_none_of X G z_set, c_DIGITS := ⟨_, PySem.W.mg_of X G x_c_DIGITS, r_c_DIGITS⟩, c_MOST_DIGITS := ⟨_, PySem.W.mg_of X G x_c_MOST_DIGITS, r_c_MOST_DIGITS⟩, c_MOST_SIZE_DIGITS := ⟨_, PySem.W.mg_of X G x_c_MOST_SIZE_DIGITS, r_c_MOST_SIZE_DIGITS⟩, c_MOST_LEVELS := ⟨_, PySem.W.mg_of X G x_c_MOST_LEVELS, r_c_MOST_LEVELS⟩ }
  have K_Book : Cls K CB := ⟨pg_Book, hd_Book, po_Book, sa_Book⟩
  have TB : TBook K CB := ⟨K_Book, n_Book_numbers⟩
  have K_Chunks : Cls K CC := ⟨pg_Chunks, hd_Chunks, po_Chunks, sa_Chunks⟩
  have TC : TChunks K CC := ⟨K_Chunks, n_Chunks_book, n_Chunks_reads, n_Chunks_texts⟩
  have K_Fetch : Cls K CF := ⟨pg_Fetch, hd_Fetch, po_Fetch, sa_Fetch⟩
  have TF : TFetch K CF := ⟨K_Fetch, n_Fetch_chunks, n_Fetch_tips, n_Fetch_kept⟩
  have F_char_at := fun_mk (st := s_char_at) l_char_at c_char_at k_char_at
  have b_char_at := F_char_at.binds (ps := ["text", "index"]) fun _ _ _ _ _ _ us hl => match us, hl with | [_, _], _ => rfl
  have F_read_digits := fun_mk (st := s_read_digits) l_read_digits c_read_digits k_read_digits
  have b_read_digits := F_read_digits.binds (ps := ["text", "index", "most", "end"]) fun _ _ _ _ _ _ us hl => match us, hl with | [_, _, _, _], _ => rfl
  have F_read_integer := fun_mk (st := s_read_integer) l_read_integer c_read_integer k_read_integer
  have b_read_integer := F_read_integer.binds (ps := ["text", "index"]) fun _ _ _ _ _ _ us hl => match us, hl with | [_, _], _ => rfl
  have F_read_text := fun_mk (st := s_read_text) l_read_text c_read_text k_read_text
  have b_read_text := F_read_text.binds (ps := ["text", "index"]) fun _ _ _ _ _ _ us hl => match us, hl with | [_, _], _ => rfl
  have F_read_item := fun_mk (st := s_read_item) l_read_item c_read_item k_read_item
  have b_read_item := F_read_item.binds (ps := ["text", "index", "level"]) fun _ _ _ _ _ _ us hl => match us, hl with | [_, _, _], _ => rfl
  have F_decode_prefix := fun_mk (st := s_decode_prefix) l_decode_prefix c_decode_prefix k_decode_prefix
  have b_decode_prefix := F_decode_prefix.binds (ps := ["text", "index"]) fun _ _ _ _ _ _ us hl => match us, hl with | [_, _], _ => rfl
  have F_decode := fun_mk (st := s_decode) l_decode c_decode k_decode
  have b_decode := F_decode.binds (ps := ["text"]) fun _ _ _ _ _ _ us hl => match us, hl with | [_], _ => rfl
  have F_children := fun_mk (st := s_children) l_children c_children k_children
  have b_children := F_children.binds (ps := ["text"]) fun _ _ _ _ _ _ us hl => match us, hl with | [_], _ => rfl
  have F_Book_init := fun_mk (st := s_Book_init) l_Book_init c_Book_init k_Book_init
  have b_Book_init := F_Book_init.binds (ps := ["self"]) fun _ _ _ _ _ _ us hl => match us, hl with | [_], _ => rfl
  have F_Book_address := fun_mk (st := s_Book_address) l_Book_address c_Book_address k_Book_address
  have b_Book_address := F_Book_address.binds (ps := ["self", "text"]) fun _ _ _ _ _ _ us hl => match us, hl with | [_, _], _ => rfl
  have F_Book_find := fun_mk (st := s_Book_find) l_Book_find c_Book_find k_Book_find
  have b_Book_find := F_Book_find.binds (ps := ["self", "text"]) fun _ _ _ _ _ _ us hl => match us, hl with | [_, _], _ => rfl
  have F_Chunks_init := fun_mk (st := s_Chunks_init) l_Chunks_init c_Chunks_init k_Chunks_init
  have b_Chunks_init := F_Chunks_init.binds (ps := ["self", "book"]) fun _ _ _ _ _ _ us hl => match us, hl with | [_, _], _ => rfl
  have F_Chunks_put := fun_mk (st := s_Chunks_put) l_Chunks_put c_Chunks_put k_Chunks_put
  have b_Chunks_put := F_Chunks_put.binds (ps := ["self", "text"]) fun _ _ _ _ _ _ us hl => match us, hl with | [_, _], _ => rfl
  have F_Chunks_has := fun_mk (st := s_Chunks_has) l_Chunks_has c_Chunks_has k_Chunks_has
  have b_Chunks_has := F_Chunks_has.binds (ps := ["self", "address"]) fun _ _ _ _ _ _ us hl => match us, hl with | [_, _], _ => rfl
  have F_Chunks_drop := fun_mk (st := s_Chunks_drop) l_Chunks_drop c_Chunks_drop k_Chunks_drop
  have b_Chunks_drop := F_Chunks_drop.binds (ps := ["self", "address"]) fun _ _ _ _ _ _ us hl => match us, hl with | [_, _], _ => rfl
  have F_Chunks_addresses := fun_mk (st := s_Chunks_addresses) l_Chunks_addresses c_Chunks_addresses k_Chunks_addresses
  have b_Chunks_addresses := F_Chunks_addresses.binds (ps := ["self"]) fun _ _ _ _ _ _ us hl => match us, hl with | [_], _ => rfl
  have F_Fetch_init := fun_mk (st := s_Fetch_init) l_Fetch_init c_Fetch_init k_Fetch_init
  have b_Fetch_init := F_Fetch_init.binds (ps := ["self", "chunks", "tips"]) fun _ _ _ _ _ _ us hl => match us, hl with | [_, _, _], _ => rfl
  have F_Fetch_wants := fun_mk (st := s_Fetch_wants) l_Fetch_wants c_Fetch_wants k_Fetch_wants
  have b_Fetch_wants := F_Fetch_wants.binds (ps := ["self"]) fun _ _ _ _ _ _ us hl => match us, hl with | [_], _ => rfl
  have F_Fetch_receive := fun_mk (st := s_Fetch_receive) l_Fetch_receive c_Fetch_receive k_Fetch_receive
  have b_Fetch_receive := F_Fetch_receive.binds (ps := ["self", "address", "text"]) fun _ _ _ _ _ _ us hl => match us, hl with | [_, _, _], _ => rfl
  have F_Fetch_finish := fun_mk (st := s_Fetch_finish) l_Fetch_finish c_Fetch_finish k_Fetch_finish
  have b_Fetch_finish := F_Fetch_finish.binds (ps := ["self"]) fun _ _ _ _ _ _ us hl => match us, hl with | [_], _ => rfl
  have F_Lcell := fun_mk (st := s_Lcell) l_Lcell c_Lcell k_Lcell
  have b_Lcell := F_Lcell.binds (ps := ["_law_script", "_law_k"]) fun _ _ _ _ _ _ us hl => match us, hl with | [_, _], _ => rfl
  have F_Lnumbers := fun_mk (st := s_Lnumbers) l_Lnumbers c_Lnumbers k_Lnumbers
  have b_Lnumbers := F_Lnumbers.binds (ps := ["_law_cell_here", "_law_count"]) fun _ _ _ _ _ _ us hl => match us, hl with | [_, _], _ => rfl
  have F_Ltext := fun_mk (st := s_Ltext) l_Ltext c_Ltext k_Ltext
  have b_Ltext := F_Ltext.binds (ps := ["_law_a", "_law_b"]) fun _ _ _ _ _ _ us hl => match us, hl with | [_, _], _ => rfl
  have F_Lencode := fun_mk (st := s_Lencode) l_Lencode c_Lencode k_Lencode
  have b_Lencode := F_Lencode.binds (ps := [nItem]) fun _ _ _ _ _ _ us hl => match us, hl with | [_], _ => rfl
  have F_Ldigest := fun_mk (st := s_Ldigest) l_Ldigest c_Ldigest k_Ldigest
  have b_Ldigest := F_Ldigest.binds (ps := ["_law_text_here"]) fun _ _ _ _ _ _ us hl => match us, hl with | [_], _ => rfl
  have F_Lends := fun_mk (st := s_Lends) l_Lends c_Lends k_Lends
  have b_Lends := F_Lends.binds (ps := ["_law_level_here", "_law_key", "_law_count"]) fun _ _ _ _ _ _ us hl => match us, hl with | [_, _, _], _ => rfl
  have F_Llevel := fun_mk (st := s_Llevel) l_Llevel c_Llevel k_Llevel
  have b_Llevel := F_Llevel.binds (ps := ["_law_book", "_law_level_here", "_law_entries_here", "_law_texts"]) fun _ _ _ _ _ _ us hl => match us, hl with | [_, _, _, _], _ => rfl
  have F_Ltree := fun_mk (st := s_Ltree) l_Ltree c_Ltree k_Ltree
  have b_Ltree := F_Ltree.binds (ps := ["_law_book", "_law_entries_here", "_law_texts"]) fun _ _ _ _ _ _ us hl => match us, hl with | [_, _, _], _ => rfl
  have F_Lstate := fun_mk (st := s_Lstate) l_Lstate c_Lstate k_Lstate
  have b_Lstate := F_Lstate.binds (ps := ["_law_book", "_law_tables_here", "_law_texts"]) fun _ _ _ _ _ _ us hl => match us, hl with | [_, _, _], _ => rfl
  have F_Lcommit := fun_mk (st := s_Lcommit) l_Lcommit c_Lcommit k_Lcommit
  have b_Lcommit := F_Lcommit.binds (ps := ["_law_book", "_law_state_here", "_law_parents", "_law_message", "_law_texts"]) fun _ _ _ _ _ _ us hl => match us, hl with | [_, _, _, _, _], _ => rfl
  have F_Lentries := fun_mk (st := s_Lentries) l_Lentries c_Lentries k_Lentries
  have b_Lentries := F_Lentries.binds (ps := ["_law_cell_here", "_law_many"]) fun _ _ _ _ _ _ us hl => match us, hl with | [_, _], _ => rfl
  have F_Ltables := fun_mk (st := s_Ltables) l_Ltables c_Ltables k_Ltables
  have b_Ltables := F_Ltables.binds (ps := ["_law_cell_here"]) fun _ _ _ _ _ _ us hl => match us, hl with | [_], _ => rfl
  have F_Lhistory := fun_mk (st := s_Lhistory) l_Lhistory c_Lhistory k_Lhistory
  have b_Lhistory := F_Lhistory.binds (ps := ["_law_book", "_law_script", "_law_first", "_law_count", "_law_texts"]) fun _ _ _ _ _ _ us hl => match us, hl with | [_, _, _, _, _], _ => rfl
  have F_Lclosure := fun_mk (st := s_Lclosure) l_Lclosure c_Lclosure k_Lclosure
  have b_Lclosure := F_Lclosure.binds (ps := ["_law_texts", "_law_addresses"]) fun _ _ _ _ _ _ us hl => match us, hl with | [_, _], _ => rfl
  have F_Lis_list := fun_mk (st := s_Lis_list) l_Lis_list c_Lis_list k_Lis_list
  have b_Lis_list := F_Lis_list.binds (ps := ["_law_actual", "_law_due"]) fun _ _ _ _ _ _ us hl => match us, hl with | [_, _], _ => rfl
  have F_Lwants := fun_mk (st := s_Lwants) l_Lwants c_Lwants k_Lwants
  have b_Lwants := F_Lwants.binds (ps := ["_law_texts", "_law_tips", "_law_held", "_law_kept"]) fun _ _ _ _ _ _ us hl => match us, hl with | [_, _, _, _], _ => rfl
  have F_Ldict := fun_mk (st := s_Ldict) l_Ldict c_Ldict k_Ldict
  have b_Ldict := F_Ldict.binds (ps := ["_law_addresses"]) fun _ _ _ _ _ _ us hl => match us, hl with | [_], _ => rfl
  have F_Lstore := fun_mk (st := s_Lstore) l_Lstore c_Lstore k_Lstore
  have b_Lstore := F_Lstore.binds (ps := ["_law_book", "_law_texts", "_law_addresses"]) fun _ _ _ _ _ _ us hl => match us, hl with | [_, _, _], _ => rfl
  have F_Lreceives := fun_mk (st := s_Lreceives) l_Lreceives c_Lreceives k_Lreceives
  have b_Lreceives := F_Lreceives.binds (ps := ["_law_fetch", "_law_address", "_law_text_here", "_law_due"]) fun _ _ _ _ _ _ us hl => match us, hl with | [_, _, _, _], _ => rfl
  have F_Lis_still := fun_mk (st := s_Lis_still) l_Lis_still c_Lis_still k_Lis_still
  have b_Lis_still := F_Lis_still.binds (ps := ["_law_fetch", "_law_chunks", "_law_held", "_law_wanted"]) fun _ _ _ _ _ _ us hl => match us, hl with | [_, _, _, _], _ => rfl
  have F_Lcomes_by := fun_mk (st := s_Lcomes_by) l_Lcomes_by c_Lcomes_by k_Lcomes_by
  have b_Lcomes_by := F_Lcomes_by.binds (ps := ["_law_fetch", "_law_chunks", "_law_texts", "_law_held", "_law_address"]) fun _ _ _ _ _ _ us hl => match us, hl with | [_, _, _, _, _], _ => rfl
  have F_Lhas_no_tips := fun_mk (st := s_Lhas_no_tips) l_Lhas_no_tips c_Lhas_no_tips k_Lhas_no_tips
  have b_Lhas_no_tips := F_Lhas_no_tips.binds (ps := ["_law_chunks"]) fun _ _ _ _ _ _ us hl => match us, hl with | [_], _ => rfl
  have F_Lwants_what_went := fun_mk (st := s_Lwants_what_went) l_Lwants_what_went c_Lwants_what_went k_Lwants_what_went
  have b_Lwants_what_went := F_Lwants_what_went.binds (ps := ["_law_fetch", "_law_chunks", "_law_texts", "_law_tips", "_law_due", "_law_kept"]) fun _ _ _ _ _ _ us hl => match us, hl with | [_, _, _, _, _, _], _ => rfl
  have F_law := fun_mk (st := s_law) l_law c_law k_law
  refine ⟨PySem.W.fnOf "law" "law" (defArgs s_law) (defBody s_law) (defScope s_law) .none kV_law dc_law pm_law an_law cd_law ct_law, fun s v => .of_eq rfl, fun base _ _ => ?_⟩
  have G_char_at := ok_char_at (P := l.prog) (w := w) (mg := mg) (base := base) F_char_at B
  have D_char_at := mkDef F_char_at (PySem.W.mg_of X G a_char_at) b_char_at G_char_at
  have G_read_digits := ok_read_digits (P := l.prog) (w := w) (mg := mg) (base := base) F_read_digits B D_char_at
  have D_read_digits := mkDef F_read_digits (PySem.W.mg_of X G a_read_digits) b_read_digits G_read_digits
  have G_read_integer := ok_read_integer (P := l.prog) (w := w) (mg := mg) (base := base) F_read_integer B D_char_at D_read_digits
  have D_read_integer := mkDef F_read_integer (PySem.W.mg_of X G a_read_integer) b_read_integer G_read_integer
  have G_read_text := ok_read_text (P := l.prog) (w := w) (mg := mg) (base := base) F_read_text B D_read_digits
  have D_read_text := mkDef F_read_text (PySem.W.mg_of X G a_read_text) b_read_text G_read_text
  have G_read_item := item_all (P := l.prog) (w := w) (mg := mg) (base := base) F_read_item (PySem.W.mg_of X G a_read_item) b_read_item B D_char_at D_read_integer D_read_text 13
  have D_read_item := mkDef F_read_item (PySem.W.mg_of X G a_read_item) b_read_item G_read_item
  have G_decode_prefix := ok_decode_prefix (P := l.prog) (w := w) (mg := mg) (base := base) F_decode_prefix D_read_item
  have D_decode_prefix := mkDef F_decode_prefix (PySem.W.mg_of X G a_decode_prefix) b_decode_prefix G_decode_prefix
  have G_decode := ok_decode (P := l.prog) (w := w) (mg := mg) (base := base) F_decode B D_decode_prefix
  have D_decode := mkDef F_decode (PySem.W.mg_of X G a_decode) b_decode G_decode
  have G_children := ok_children (P := l.prog) (w := w) (mg := mg) (base := base) F_children B D_decode
  have D_children := mkDef F_children (PySem.W.mg_of X G a_children) b_children G_children
  have G_Book_init := ok_book_init (P := l.prog) (w := w) (mg := mg) (base := base) F_Book_init TB
  have C_Book : CDef l.prog w K mg base _ "Book" CB ["self"] _ := ⟨_, _, G_Book_init, ⟨mk_Book, a_Book_init, i_Book_init, kc_Book⟩, PySem.W.mg_of X G g_Book, b_Book_init⟩
  have G_Book_address := ok_book_address (P := l.prog) (w := w) (mg := mg) (base := base) F_Book_address B TB
  have M_Book_address : MDef l.prog w K mg base _ CB "address" ["self", "text"] _ := ⟨K_Book, _, _, G_Book_address, ⟨a_Book_address, i_Book_address, k_Book_address⟩, b_Book_address⟩
  have G_Book_find := ok_book_find (P := l.prog) (w := w) (mg := mg) (base := base) F_Book_find TB
  have M_Book_find : MDef l.prog w K mg base _ CB "find" ["self", "text"] _ := ⟨K_Book, _, _, G_Book_find, ⟨a_Book_find, i_Book_find, k_Book_find⟩, b_Book_find⟩
  have G_Chunks_init := ok_ch_init (P := l.prog) (w := w) (mg := mg) (base := base) F_Chunks_init TC
  have C_Chunks : CDef l.prog w K mg base _ "Chunks" CC ["self", "book"] _ := ⟨_, _, G_Chunks_init, ⟨mk_Chunks, a_Chunks_init, i_Chunks_init, kc_Chunks⟩, PySem.W.mg_of X G g_Chunks, b_Chunks_init⟩
  have G_Chunks_put := ok_put (P := l.prog) (w := w) (mg := mg) (base := base) F_Chunks_put TC M_Book_address
  have M_Chunks_put : MDef l.prog w K mg base _ CC "put" ["self", "text"] _ := ⟨K_Chunks, _, _, G_Chunks_put, ⟨a_Chunks_put, i_Chunks_put, k_Chunks_put⟩, b_Chunks_put⟩
  have G_Chunks_has := ok_has (P := l.prog) (w := w) (mg := mg) (base := base) F_Chunks_has TC
  have M_Chunks_has : MDef l.prog w K mg base _ CC "has" ["self", "address"] _ := ⟨K_Chunks, _, _, G_Chunks_has, ⟨a_Chunks_has, i_Chunks_has, k_Chunks_has⟩, b_Chunks_has⟩
  have G_Chunks_drop := ok_drop (P := l.prog) (w := w) (mg := mg) (base := base) F_Chunks_drop B TC
  have M_Chunks_drop : MDef l.prog w K mg base _ CC "drop" ["self", "address"] _ := ⟨K_Chunks, _, _, G_Chunks_drop, ⟨a_Chunks_drop, i_Chunks_drop, k_Chunks_drop⟩, b_Chunks_drop⟩
  have G_Chunks_addresses := ok_addresses (P := l.prog) (w := w) (mg := mg) (base := base) F_Chunks_addresses B TC
  have M_Chunks_addresses : MDef l.prog w K mg base _ CC "addresses" ["self"] _ := ⟨K_Chunks, _, _, G_Chunks_addresses, ⟨a_Chunks_addresses, i_Chunks_addresses, k_Chunks_addresses⟩, b_Chunks_addresses⟩
  have G_Fetch_init := ok_fe_init (P := l.prog) (w := w) (mg := mg) (base := base) F_Fetch_init B TF
  have C_Fetch : CDef l.prog w K mg base _ "Fetch" CF ["self", "chunks", "tips"] _ := ⟨_, _, G_Fetch_init, ⟨mk_Fetch, a_Fetch_init, i_Fetch_init, kc_Fetch⟩, PySem.W.mg_of X G g_Fetch, b_Fetch_init⟩
  have G_Fetch_wants := ok_fe_wants (P := l.prog) (w := w) (mg := mg) (base := base) F_Fetch_wants B TF M_Chunks_has D_children
  have M_Fetch_wants : MDef l.prog w K mg base _ CF "wants" ["self"] _ := ⟨K_Fetch, _, _, G_Fetch_wants, ⟨a_Fetch_wants, i_Fetch_wants, k_Fetch_wants⟩, b_Fetch_wants⟩
  have G_Fetch_receive := ok_fe_receive (P := l.prog) (w := w) (mg := mg) (base := base) F_Fetch_receive B TF TC M_Fetch_wants M_Book_find
  have M_Fetch_receive : MDef l.prog w K mg base _ CF "receive" ["self", "address", "text"] _ := ⟨K_Fetch, _, _, G_Fetch_receive, ⟨a_Fetch_receive, i_Fetch_receive, k_Fetch_receive⟩, b_Fetch_receive⟩
  have G_Fetch_finish := ok_fe_finish (P := l.prog) (w := w) (mg := mg) (base := base) F_Fetch_finish B TF TC M_Fetch_wants M_Chunks_put
  have M_Fetch_finish : MDef l.prog w K mg base _ CF "finish" ["self"] _ := ⟨K_Fetch, _, _, G_Fetch_finish, ⟨a_Fetch_finish, i_Fetch_finish, k_Fetch_finish⟩, b_Fetch_finish⟩
  have G_Lcell := ok_lcell (P := l.prog) (w := w) (mg := mg) (base := base) F_Lcell B
  have D_Lcell := mkDef F_Lcell (PySem.W.mg_of X G a_Lcell) b_Lcell G_Lcell
  have G_Lnumbers := ok_lnumbers (P := l.prog) (w := w) (mg := mg) (base := base) F_Lnumbers B
  have D_Lnumbers := mkDef F_Lnumbers (PySem.W.mg_of X G a_Lnumbers) b_Lnumbers G_Lnumbers
  have G_Ltext := ok_ltext (P := l.prog) (w := w) (mg := mg) (base := base) F_Ltext B
  have D_Ltext := mkDef F_Ltext (PySem.W.mg_of X G a_Ltext) b_Ltext G_Ltext
  have G_Lencode := enc_all (P := l.prog) (w := w) (mg := mg) (base := base) F_Lencode (PySem.W.mg_of X G a_Lencode) b_Lencode B 10
  have D_Lencode := mkDef F_Lencode (PySem.W.mg_of X G a_Lencode) b_Lencode G_Lencode
  have G_Ldigest := ok_ldigest (P := l.prog) (w := w) (mg := mg) (base := base) F_Ldigest B
  have D_Ldigest := mkDef F_Ldigest (PySem.W.mg_of X G a_Ldigest) b_Ldigest G_Ldigest
  have G_Lends := ok_lends (P := l.prog) (w := w) (mg := mg) (base := base) F_Lends B D_Lencode D_Ldigest
  have D_Lends := mkDef F_Lends (PySem.W.mg_of X G a_Lends) b_Lends G_Lends
  have G_Llevel := ok_llevel (P := l.prog) (w := w) (mg := mg) (base := base) F_Llevel B D_Lencode D_Lends M_Book_address
  have D_Llevel := mkDef F_Llevel (PySem.W.mg_of X G a_Llevel) b_Llevel G_Llevel
  have G_Ltree := ok_ltree (P := l.prog) (w := w) (mg := mg) (base := base) F_Ltree B D_Lencode M_Book_address D_Llevel
  have D_Ltree := mkDef F_Ltree (PySem.W.mg_of X G a_Ltree) b_Ltree G_Ltree
  have G_Lstate := ok_lstate (P := l.prog) (w := w) (mg := mg) (base := base) F_Lstate B D_Lencode M_Book_address D_Ltree
  have D_Lstate := mkDef F_Lstate (PySem.W.mg_of X G a_Lstate) b_Lstate G_Lstate
  have G_Lcommit := ok_lcommit (P := l.prog) (w := w) (mg := mg) (base := base) F_Lcommit B D_Lencode M_Book_address
  have D_Lcommit := mkDef F_Lcommit (PySem.W.mg_of X G a_Lcommit) b_Lcommit G_Lcommit
  have G_Lentries := ok_lentries (P := l.prog) (w := w) (mg := mg) (base := base) F_Lentries B D_Lnumbers D_Ltext
  have D_Lentries := mkDef F_Lentries (PySem.W.mg_of X G a_Lentries) b_Lentries G_Lentries
  have G_Ltables := ok_ltables (P := l.prog) (w := w) (mg := mg) (base := base) F_Ltables B D_Lnumbers D_Lentries
  have D_Ltables := mkDef F_Ltables (PySem.W.mg_of X G a_Ltables) b_Ltables G_Ltables
  have G_Lhistory := ok_lhistory (P := l.prog) (w := w) (mg := mg) (base := base) F_Lhistory B D_Lcell D_Lnumbers D_Lstate D_Ltables D_Lcommit
  have D_Lhistory := mkDef F_Lhistory (PySem.W.mg_of X G a_Lhistory) b_Lhistory G_Lhistory
  have G_Lclosure := ok_lclosure (P := l.prog) (w := w) (mg := mg) (base := base) (C := CB) F_Lclosure B
  have D_Lclosure := mkDef F_Lclosure (PySem.W.mg_of X G a_Lclosure) b_Lclosure G_Lclosure
  have G_Lis_list := ok_lis_list (P := l.prog) (w := w) (mg := mg) (base := base) F_Lis_list B
  have D_Lis_list := mkDef F_Lis_list (PySem.W.mg_of X G a_Lis_list) b_Lis_list G_Lis_list
  have G_Lwants := ok_lwants (P := l.prog) (w := w) (mg := mg) (base := base) (C := CB) F_Lwants B
  have D_Lwants := mkDef F_Lwants (PySem.W.mg_of X G a_Lwants) b_Lwants G_Lwants
  have G_Ldict := ok_ldict (P := l.prog) (w := w) (mg := mg) (base := base) F_Ldict B
  have D_Ldict := mkDef F_Ldict (PySem.W.mg_of X G a_Ldict) b_Ldict G_Ldict
  have G_Lstore := ok_lstore (P := l.prog) (w := w) (mg := mg) (base := base) F_Lstore B C_Chunks M_Chunks_put
  have D_Lstore := mkDef F_Lstore (PySem.W.mg_of X G a_Lstore) b_Lstore G_Lstore
  have G_Lreceives := ok_lreceives (P := l.prog) (w := w) (mg := mg) (base := base) F_Lreceives B M_Fetch_receive
  have D_Lreceives := mkDef F_Lreceives (PySem.W.mg_of X G a_Lreceives) b_Lreceives G_Lreceives
  have G_Lis_still := ok_lis_still (P := l.prog) (w := w) (mg := mg) (base := base) F_Lis_still B D_Lis_list M_Fetch_wants M_Chunks_addresses M_Fetch_finish
  have D_Lis_still := mkDef F_Lis_still (PySem.W.mg_of X G a_Lis_still) b_Lis_still G_Lis_still
  have G_Lcomes_by := ok_lcomes_by (P := l.prog) (w := w) (mg := mg) (base := base) F_Lcomes_by B D_Lreceives M_Chunks_put
  have D_Lcomes_by := mkDef F_Lcomes_by (PySem.W.mg_of X G a_Lcomes_by) b_Lcomes_by G_Lcomes_by
  have G_Lhas_no_tips := ok_lno_tips (P := l.prog) (w := w) (mg := mg) (base := base) F_Lhas_no_tips B C_Fetch D_Lis_list M_Fetch_wants M_Fetch_finish
  have D_Lhas_no_tips := mkDef F_Lhas_no_tips (PySem.W.mg_of X G a_Lhas_no_tips) b_Lhas_no_tips G_Lhas_no_tips
  have G_Lwants_what_went := ok_lwent (P := l.prog) (w := w) (mg := mg) (base := base) F_Lwants_what_went B D_Lreceives D_Ldict D_Lis_list D_Lwants M_Chunks_drop M_Chunks_addresses M_Fetch_wants M_Fetch_finish
  have D_Lwants_what_went := mkDef F_Lwants_what_went (PySem.W.mg_of X G a_Lwants_what_went) b_Lwants_what_went G_Lwants_what_went
  exact ok_law (P := l.prog) (w := w) (mg := mg) (base := base) F_law B TB TC TF C_Book C_Fetch D_Lhistory D_Lcell D_Lnumbers D_Lwants D_Lis_list D_Lclosure D_Ldict D_Lstore D_Lreceives D_Lis_still D_Lcomes_by D_Lhas_no_tips D_Lwants_what_went M_Chunks_drop M_Chunks_addresses M_Fetch_wants M_Fetch_finish
theorem walk {l : PySem.W.OpenLaw} {q : Program} {loose : List Str} {XP : (Str → Option Value) → Heap → Prop} {YP : World → Heap → Prop} {d : DefRec} {K : Params → PySem.W.Frag} (hn : l.most = some 63) (hdf : d.params.defaults = [])
    (hY : ∀ (w : World) (h : Heap), YP w h → (K w.params).In h)
    (F : ∀ (w : World) (mg : Str → Option Value) (fa : Addr) (h : Heap), (K w.params).In h → h.Ns mainGlobals mg → mg d.name = some (.ref fa) →
      ∃ fd : FuncData, (∀ (s : Shared) (u : Value), BindsTo s fd ⟨[u], []⟩ [("_law_script", u)]) ∧ ∀ base : Heap, (K w.params).In base → base.Ns mainGlobals mg → FnOk l.prog w (K w.params) mg base CX0 25 fa fd ["_law_script"] (spLaw (K w.params))) :
    PySem.W.WalkO q loose XP YP l.row.toRowW d [] (fun f vs => PySem.call f vs) :=
  L2.walk_of (n := 63) (k := 25) (x := "_law_script") (CX := fun _ => CX0) (sp := fun w => spLaw (K w.params)) hn (by decide) hdf ⟨rfl, by decide, by decide⟩ hY F (fun _ _ a ns hl _ hS => ⟨a, ns, rfl, hS, fun _ => rfl⟩) fun _ _ _ _ _ z => z
end My
set_option maxRecDepth 100000
open PySem PySem.W PyProof.Rows
set_option maxHeartbeats 0 in
theorem PySem.Challenge.cw_versiontables_k75_fetch_wants_holds : PySem.Challenge.rw_versiontables_k75_fetch_wants.Holds := by
  w_on; o_law; k_head; (case hw => w_witness2)
  k_fill
  refine My.walk (l := PySem.Challenge.rw_versiontables_k75_fetch_wants) rfl rfl (fun w h Y => PySem.W.kIn_of Y) ?F
  case F =>
    intro w mg fa h KX G hmg
    refine' My.all_mk KX G hmg ?g_Book ?g_Chunks ?g_Fetch ?a_char_at ?l_char_at ?c_char_at ?k_char_at ?a_read_digits ?l_read_digits ?c_read_digits ?k_read_digits ?a_read_integer ?l_read_integer ?c_read_integer ?k_read_integer ?a_read_text ?l_read_text ?c_read_text ?k_read_text ?a_read_item ?l_read_item ?c_read_item ?k_read_item ?a_decode_prefix ?l_decode_prefix ?c_decode_prefix ?k_decode_prefix ?a_decode ?l_decode ?c_decode ?k_decode ?a_children ?l_children ?c_children ?k_children ?a_Book_init ?i_Book_init ?l_Book_init ?c_Book_init ?k_Book_init ?a_Book_address ?i_Book_address ?l_Book_address ?c_Book_address ?k_Book_address ?a_Book_find ?i_Book_find ?l_Book_find ?c_Book_find ?k_Book_find ?a_Chunks_init ?i_Chunks_init ?l_Chunks_init ?c_Chunks_init ?k_Chunks_init ?a_Chunks_put ?i_Chunks_put ?l_Chunks_put ?c_Chunks_put ?k_Chunks_put ?a_Chunks_has ?i_Chunks_has ?l_Chunks_has ?c_Chunks_has ?k_Chunks_has ?a_Chunks_drop ?i_Chunks_drop ?l_Chunks_drop ?c_Chunks_drop ?k_Chunks_drop ?a_Chunks_addresses ?i_Chunks_addresses ?l_Chunks_addresses ?c_Chunks_addresses ?k_Chunks_addresses ?a_Fetch_init ?i_Fetch_init ?l_Fetch_init ?c_Fetch_init ?k_Fetch_init ?a_Fetch_wants ?i_Fetch_wants ?l_Fetch_wants ?c_Fetch_wants ?k_Fetch_wants ?a_Fetch_receive ?i_Fetch_receive ?l_Fetch_receive ?c_Fetch_receive ?k_Fetch_receive ?a_Fetch_finish ?i_Fetch_finish ?l_Fetch_finish ?c_Fetch_finish ?k_Fetch_finish ?a_Lcell ?l_Lcell ?c_Lcell ?k_Lcell ?a_Lnumbers ?l_Lnumbers ?c_Lnumbers ?k_Lnumbers ?a_Ltext ?l_Ltext ?c_Ltext ?k_Ltext ?a_Lencode ?l_Lencode ?c_Lencode ?k_Lencode ?a_Ldigest ?l_Ldigest ?c_Ldigest ?k_Ldigest ?a_Lends ?l_Lends ?c_Lends ?k_Lends ?a_Llevel ?l_Llevel ?c_Llevel ?k_Llevel ?a_Ltree ?l_Ltree ?c_Ltree ?k_Ltree ?a_Lstate ?l_Lstate ?c_Lstate ?k_Lstate ?a_Lcommit ?l_Lcommit ?c_Lcommit ?k_Lcommit ?a_Lentries ?l_Lentries ?c_Lentries ?k_Lentries ?a_Ltables ?l_Ltables ?c_Ltables ?k_Ltables ?a_Lhistory ?l_Lhistory ?c_Lhistory ?k_Lhistory ?a_Lclosure ?l_Lclosure ?c_Lclosure ?k_Lclosure ?a_Lis_list ?l_Lis_list ?c_Lis_list ?k_Lis_list ?a_Lwants ?l_Lwants ?c_Lwants ?k_Lwants ?a_Ldict ?l_Ldict ?c_Ldict ?k_Ldict ?a_Lstore ?l_Lstore ?c_Lstore ?k_Lstore ?a_Lreceives ?l_Lreceives ?c_Lreceives ?k_Lreceives ?a_Lis_still ?l_Lis_still ?c_Lis_still ?k_Lis_still ?a_Lcomes_by ?l_Lcomes_by ?c_Lcomes_by ?k_Lcomes_by ?a_Lhas_no_tips ?l_Lhas_no_tips ?c_Lhas_no_tips ?k_Lhas_no_tips ?a_Lwants_what_went ?l_Lwants_what_went ?c_Lwants_what_went ?k_Lwants_what_went ?a_law ?l_law ?c_law ?k_law ?pg_Book ?hd_Book ?po_Book ?sa_Book ?mk_Book ?kc_Book ?n_Book_numbers ?pg_Chunks ?hd_Chunks ?po_Chunks ?sa_Chunks ?mk_Chunks ?kc_Chunks ?n_Chunks_book ?n_Chunks_reads ?n_Chunks_texts ?pg_Fetch ?hd_Fetch ?po_Fetch ?sa_Fetch ?mk_Fetch ?kc_Fetch ?n_Fetch_chunks ?n_Fetch_tips ?n_Fetch_kept ?z_len ?z_range ?z_int ?z_str ?z_bool ?z_list ?z_tuple ?z_sorted ?z_sum ?z_min ?z_max ?z_ord ?z_isinstance ?z_set ?x_c_DIGITS ?r_c_DIGITS ?x_c_MOST_DIGITS ?r_c_MOST_DIGITS ?x_c_MOST_SIZE_DIGITS ?r_c_MOST_SIZE_DIGITS ?x_c_MOST_LEVELS ?r_c_MOST_LEVELS
    (case g_Book => k_is)
    (case g_Chunks => k_is)
    (case g_Fetch => k_is)
    (case a_char_at => k_is)
    (case l_char_at => k_is)
    (case c_char_at => k_is)
    (case k_char_at => k_is)
    (case a_read_digits => k_is)
    (case l_read_digits => k_is)
    (case c_read_digits => k_is)
    (case k_read_digits => k_is)
    (case a_read_integer => k_is)
    (case l_read_integer => k_is)
    (case c_read_integer => k_is)
    (case k_read_integer => k_is)
    (case a_read_text => k_is)
    (case l_read_text => k_is)
    (case c_read_text => k_is)
    (case k_read_text => k_is)
    (case a_read_item => k_is)
    (case l_read_item => k_is)
    (case c_read_item => k_is)
    (case k_read_item => k_is)
    (case a_decode_prefix => k_is)
    (case l_decode_prefix => k_is)
    (case c_decode_prefix => k_is)
    (case k_decode_prefix => k_is)
    (case a_decode => k_is)
    (case l_decode => k_is)
    (case c_decode => k_is)
    (case k_decode => k_is)
    (case a_children => k_is)
    (case l_children => k_is)
    (case c_children => k_is)
    (case k_children => k_is)
    (case a_Book_init => k_is)
    (case i_Book_init => k_is)
    (case l_Book_init => k_is)
    (case c_Book_init => k_is)
    (case k_Book_init => k_is)
    (case a_Book_address => k_is)
    (case i_Book_address => k_is)
    (case l_Book_address => k_is)
    (case c_Book_address => k_is)
    (case k_Book_address => k_is)
    (case a_Book_find => k_is)
    (case i_Book_find => k_is)
    (case l_Book_find => k_is)
    (case c_Book_find => k_is)
    (case k_Book_find => k_is)
    (case a_Chunks_init => k_is)
    (case i_Chunks_init => k_is)
    (case l_Chunks_init => k_is)
    (case c_Chunks_init => k_is)
    (case k_Chunks_init => k_is)
    (case a_Chunks_put => k_is)
    (case i_Chunks_put => k_is)
    (case l_Chunks_put => k_is)
    (case c_Chunks_put => k_is)
    (case k_Chunks_put => k_is)
    (case a_Chunks_has => k_is)
    (case i_Chunks_has => k_is)
    (case l_Chunks_has => k_is)
    (case c_Chunks_has => k_is)
    (case k_Chunks_has => k_is)
    (case a_Chunks_drop => k_is)
    (case i_Chunks_drop => k_is)
    (case l_Chunks_drop => k_is)
    (case c_Chunks_drop => k_is)
    (case k_Chunks_drop => k_is)
    (case a_Chunks_addresses => k_is)
    (case i_Chunks_addresses => k_is)
    (case l_Chunks_addresses => k_is)
    (case c_Chunks_addresses => k_is)
    (case k_Chunks_addresses => k_is)
    (case a_Fetch_init => k_is)
    (case i_Fetch_init => k_is)
    (case l_Fetch_init => k_is)
    (case c_Fetch_init => k_is)
    (case k_Fetch_init => k_is)
    (case a_Fetch_wants => k_is)
    (case i_Fetch_wants => k_is)
    (case l_Fetch_wants => k_is)
    (case c_Fetch_wants => k_is)
    (case k_Fetch_wants => k_is)
    (case a_Fetch_receive => k_is)
    (case i_Fetch_receive => k_is)
    (case l_Fetch_receive => k_is)
    (case c_Fetch_receive => k_is)
    (case k_Fetch_receive => k_is)
    (case a_Fetch_finish => k_is)
    (case i_Fetch_finish => k_is)
    (case l_Fetch_finish => k_is)
    (case c_Fetch_finish => k_is)
    (case k_Fetch_finish => k_is)
    (case a_Lcell => k_is)
    (case l_Lcell => k_is)
    (case c_Lcell => k_is)
    (case k_Lcell => k_is)
    (case a_Lnumbers => k_is)
    (case l_Lnumbers => k_is)
    (case c_Lnumbers => k_is)
    (case k_Lnumbers => k_is)
    (case a_Ltext => k_is)
    (case l_Ltext => k_is)
    (case c_Ltext => k_is)
    (case k_Ltext => k_is)
    (case a_Lencode => k_is)
    (case l_Lencode => k_is)
    (case c_Lencode => k_is)
    (case k_Lencode => k_is)
    (case a_Ldigest => k_is)
    (case l_Ldigest => k_is)
    (case c_Ldigest => k_is)
    (case k_Ldigest => k_is)
    (case a_Lends => k_is)
    (case l_Lends => k_is)
    (case c_Lends => k_is)
    (case k_Lends => k_is)
    (case a_Llevel => k_is)
    (case l_Llevel => k_is)
    (case c_Llevel => k_is)
    (case k_Llevel => k_is)
    (case a_Ltree => k_is)
    (case l_Ltree => k_is)
    (case c_Ltree => k_is)
    (case k_Ltree => k_is)
    (case a_Lstate => k_is)
    (case l_Lstate => k_is)
    (case c_Lstate => k_is)
    (case k_Lstate => k_is)
    (case a_Lcommit => k_is)
    (case l_Lcommit => k_is)
    (case c_Lcommit => k_is)
    (case k_Lcommit => k_is)
    (case a_Lentries => k_is)
    (case l_Lentries => k_is)
    (case c_Lentries => k_is)
    (case k_Lentries => k_is)
    (case a_Ltables => k_is)
    (case l_Ltables => k_is)
    (case c_Ltables => k_is)
    (case k_Ltables => k_is)
    (case a_Lhistory => k_is)
    (case l_Lhistory => k_is)
    (case c_Lhistory => k_is)
    (case k_Lhistory => k_is)
    (case a_Lclosure => k_is)
    (case l_Lclosure => k_is)
    (case c_Lclosure => k_is)
    (case k_Lclosure => k_is)
    (case a_Lis_list => k_is)
    (case l_Lis_list => k_is)
    (case c_Lis_list => k_is)
    (case k_Lis_list => k_is)
    (case a_Lwants => k_is)
    (case l_Lwants => k_is)
    (case c_Lwants => k_is)
    (case k_Lwants => k_is)
    (case a_Ldict => k_is)
    (case l_Ldict => k_is)
    (case c_Ldict => k_is)
    (case k_Ldict => k_is)
    (case a_Lstore => k_is)
    (case l_Lstore => k_is)
    (case c_Lstore => k_is)
    (case k_Lstore => k_is)
    (case a_Lreceives => k_is)
    (case l_Lreceives => k_is)
    (case c_Lreceives => k_is)
    (case k_Lreceives => k_is)
    (case a_Lis_still => k_is)
    (case l_Lis_still => k_is)
    (case c_Lis_still => k_is)
    (case k_Lis_still => k_is)
    (case a_Lcomes_by => k_is)
    (case l_Lcomes_by => k_is)
    (case c_Lcomes_by => k_is)
    (case k_Lcomes_by => k_is)
    (case a_Lhas_no_tips => k_is)
    (case l_Lhas_no_tips => k_is)
    (case c_Lhas_no_tips => k_is)
    (case k_Lhas_no_tips => k_is)
    (case a_Lwants_what_went => k_is)
    (case l_Lwants_what_went => k_is)
    (case c_Lwants_what_went => k_is)
    (case k_Lwants_what_went => k_is)
    (case a_law => k_is)
    (case l_law => k_is)
    (case c_law => k_is)
    (case k_law => k_is)
    (case pg_Book => k_is)
    (case hd_Book => k_is)
    (case po_Book => k_is)
    (case sa_Book => k_is)
    (case mk_Book => k_is)
    (case kc_Book => k_is)
    (case n_Book_numbers => k_is)
    (case pg_Chunks => k_is)
    (case hd_Chunks => k_is)
    (case po_Chunks => k_is)
    (case sa_Chunks => k_is)
    (case mk_Chunks => k_is)
    (case kc_Chunks => k_is)
    (case n_Chunks_book => k_is)
    (case n_Chunks_reads => k_is)
    (case n_Chunks_texts => k_is)
    (case pg_Fetch => k_is)
    (case hd_Fetch => k_is)
    (case po_Fetch => k_is)
    (case sa_Fetch => k_is)
    (case mk_Fetch => k_is)
    (case kc_Fetch => k_is)
    (case n_Fetch_chunks => k_is)
    (case n_Fetch_tips => k_is)
    (case n_Fetch_kept => k_is)
    (case z_len => k_is)
    (case z_range => k_is)
    (case z_int => k_is)
    (case z_str => k_is)
    (case z_bool => k_is)
    (case z_list => k_is)
    (case z_tuple => k_is)
    (case z_sorted => k_is)
    (case z_sum => k_is)
    (case z_min => k_is)
    (case z_max => k_is)
    (case z_ord => k_is)
    (case z_isinstance => k_is)
    (case z_set => k_is)
    (case x_c_DIGITS => k_is)
    (case r_c_DIGITS => exact ⟨_, rfl⟩)
    (case x_c_MOST_DIGITS => k_is)
    (case r_c_MOST_DIGITS => exact ⟨_, rfl⟩)
    (case x_c_MOST_SIZE_DIGITS => k_is)
    (case r_c_MOST_SIZE_DIGITS => exact ⟨_, rfl⟩)
    (case x_c_MOST_LEVELS => k_is)
    (case r_c_MOST_LEVELS => exact ⟨_, rfl⟩)
#print axioms PySem.Challenge.cw_versiontables_k75_fetch_wants_holds
