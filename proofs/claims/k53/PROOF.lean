import PyProof.Rows.All
import Wide.All
import OpenK.AllK
import Wide.FinOn
import HandS.ForMost
import HandS.IsInst
import HandS.Star
import HandS.TupAny
import HandS.NoneIn
import HandS.Style
import HandS.Lambda
import HandS.Nested
import HandS.EndTab
import HandS.RaiseMore
import HandS.Conv
import HandS.TupSets
import HandS.DictComp
import HandS.SetKeys
import HandS.Walk
import HandS.Zip
import HandS.Strs
import KE.KDictKeyed
import KE.SortData
import PySem.Challenge.RW_lateslips_k53_whole_number_faults
import KE.GoesMore
import HandS.CallLocal
import KE.KNestM
set_option Elab.async false
set_option maxRecDepth 100000
set_option maxHeartbeats
                                                            4000000
namespace K53
open PySem L2

/-! ### the text by places -/
def top (i : Nat) : Stmt := PySem.Challenge.pw_lateslips_k53_whole_number_faults.main.body.getD i (.Pass ⟨0, 0, 0, 0⟩)
abbrev sIsInt : Stmt := top 5
abbrev sIsNum : Stmt := top 6
abbrev sIsIdx : Stmt := top 7
abbrev sIsSeq : Stmt := top 8
abbrev sInit : Stmt := inClass (top 10) 0
abbrev sFound : Stmt := inClass (top 10) 2
abbrev sDoes : Stmt := inClass (top 10) 3
abbrev sLed : Stmt := top 11
abbrev sFours : Stmt := top 13
abbrev sExN : Stmt := top 14
abbrev sNumF : Stmt := top 16
abbrev sIsRow : Stmt := top 17
abbrev sIsNF : Stmt := top 18
abbrev sAreSt : Stmt := top 20
abbrev sChk : Stmt := top 21
abbrev sStarts : Stmt := top 22
abbrev sNexts : Stmt := top 23
abbrev sExC : Stmt := top 24
abbrev sSeen : Stmt := top 26
abbrev sFault : Stmt := top 27
abbrev sLate : Stmt := top 28
abbrev sBlind : Stmt := top 29
abbrev sDraw : Stmt := top 31
abbrev sAny : Stmt := top 32
abbrev sOf : Stmt := top 33
abbrev sMixed : Stmt := top 34
abbrev sColumns : Stmt := top 35
abbrev sColumn : Stmt := top 36
abbrev sMach : Stmt := top 37
abbrev sLLed : Stmt := top 38
abbrev sLRow : Stmt := top 39
abbrev sShort : Stmt := top 40
abbrev sLIsF : Stmt := top 41
abbrev sNear : Stmt := top 42
abbrev sLaw : Stmt := top 43

/-! ### what the walk asks of the names that the module doesn't bind -/
structure Txt (mg : Str → Option Value) : Prop where
  isi : mg "isinstance" = none
  int : mg "int" = none
  bool : mg "bool" = none
  list : mg "list" = none
  tuple : mg "tuple" = none
  len : mg "len" = none
  enum : mg "enumerate" = none
  all : mg "all" = none
  range : mg "range" = none
  sorted : mg "sorted" = none
  set : mg "set" = none
  max : mg "max" = none
  min : mg "min" = none
  repr : mg "repr" = none
  abs : mg "abs" = none

/-! ### a def as a constant of the module -/
structure Df (P : Program) (w : World) (K : PySem.W.Frag) (mg : Str → Option Value) (base : Heap) (k : Nat) (x : Str) (ps : List Str) (sp : Sp) : Prop where
  ex : ∃ (f : Addr) (fd : FuncData), FnOk P w K mg base CX0 k f fd ps sp ∧ mg x = some (.ref f) ∧ PySem.W.keepIn K (.ref f) = true ∧ Binds K fd ps []

section
variable {X : Cx} {k j : Nat} {x : Str} {ps : List Str} {sp : Sp} {p pos : Pos} {e : Expr} {es : List Expr} {t : TA}
theorem pe_df (c : Df X.prog X.w X.K X.mg X.base k x ps sp) (hr : Room j X.A) (hk : k ≤ j) (hg : Gl X x) (ha : PA X (e :: es) t)
    (hdb : (x == ("__debug__" : Str)) = false := by decide) (he : starEach (e :: es)
                                                                X.env = (false, eval e X.env) :: starEach es X.env := by rfl)
    (hpl : (backTo pos (starEach es X.env)).any (·.1) = false := by rfl) : PE X (.Call (.Name x p) (e :: es) [] pos) (tCall sp [] E0 t) := by
  obtain ⟨f, fd, F, hm, kp, b⟩ := c.ex
  exact pe_call F (hr.mono hk) hg hm kp b .nil pass0 ha hdb he hpl
end

/-! ### what stays -/
/-- all that was tracked, but what stands at l, is as it was -/
def Kp (l : List Addr) (H H' : Hp) : Prop := ∀ b o, H b = some o → b ∉ l → H' b = some o
theorem Kp.refl (l : List Addr) (H : Hp) : Kp l H H := fun _ _ h _ => h
theorem Kp.trans {l : List Addr} {H H1 H2 : Hp} (a : Kp l H H1) (b : Kp l H1 H2) : Kp l H H2 := fun c o h n => b c o (a c o h n) n
theorem Kp.mono {l l' : List Addr} {H H' : Hp} (a : Kp l H H') (h : ∀ b ∈ l, b ∈ l') : Kp l' H H' := fun c o e n => a c o e fun z => n (h c z)
theorem Kp.of_same {l : List Addr} {H H' : Hp} (a : Same H H') : Kp l H H' := fun c o e _ => a c o e
theorem Kp.upd {l : List Addr} {H H1 : Hp} {p : Addr} {o : HO} (a : Kp l H H1) (h : p ∈ l ∨ H1 p = none) : Kp l H (L2.upd H1 p o) := fun c u e n => by
  have e1 := a c u e n
  have ne : c ≠ p := fun z => by
    rcases h with h | h
    · exact n (by rw [z]; exact h)
    · rw [z, h] at e1
      cases e1
  rw [upd_ne ne]
  exact e1
theorem same_new {H H1 : Hp} {p : Addr} {o : HO} (a : Same H H1) (h : H1 p = none) : Same H (L2.upd H1 p o) := fun c u e => by
  have e1 := a c u e
  rw [upd_ne (ne_of_none e1 h)]
  exact e1
theorem Same.at {H H' : Hp} (a : Same H H') {b : Addr} {o : HO} (h : H b = some o) : H' b = some o := a b o h
theorem Kp.free {l : List Addr} {H H' : Hp} (a : Kp l H H') {p : Addr} (h : H' p = none) (n : p ∉ l) : H p = none := by
  cases e : H p with
  | none => rfl
  | some o =>
    have q := a p o e n
    rw [h] at q
    cases q

/-! ### tuples and lists of tuples in the heap -/
def nts (xs : List Nat) : List V := xs.map fun x : Nat => V.int (x : Int)
theorem nts_get {xs : List Nat} {i : Nat} {x : Nat} (h : xs[i]? = some x) : (nts xs)[i]? = some (V.int (x : Int)) := by
  unfold nts
  rw [List.getElem?_map,
                                                              h] <;> rfl
theorem nts_len (xs : List Nat) : (nts xs).length = xs.length := List.length_map _
/-- at the addresses rs stand tuples of these numbers -/
abbrev TupsAt (H : Hp) (rs : List Addr) (st : List (List Nat)) : Prop := Paired (fun r row => H r = some (.tup (nts row))) rs st
abbrev ListsAt (H : Hp) (rs : List Addr) (st : List (List Nat)) : Prop := Paired (fun r row => H r = some (.lst (nts row))) rs st
theorem Paired.get2 {A B : Type} {F : A → B → Prop} : ∀ {xs : List A} {ys : List B} {i : Nat} {y : B}, Paired F xs ys → ys[i]? = some y → ∃ x, xs[i]? = some x ∧ F x y
  | _, _, _, _, .nil, e
                                                              => by simp at e
  | _, _, 0, y, .cons r _, e => by
    rw [List.getElem?_cons_zero] at e
    cases e
    exact ⟨_, rfl, r⟩
  | _, _, i + 1, y, .cons _ t, e => by
    rw [List.getElem?_cons_succ] at e
    obtain ⟨x, h1, h2⟩ := Paired.get2 t e
    exact ⟨x, by rw [List.getElem?_cons_succ]; exact h1, h2⟩
theorem Paired.get1 {A B : Type} {F : A → B → Prop} : ∀ {xs : List A} {ys : List B} {i : Nat} {x : A}, Paired F xs ys → xs[i]? = some x → ∃ y, ys[i]? = some y ∧ F x y
  | _, _, _, _, .nil, e
                                                              => by simp at e
  | _, _, 0, y, .cons r _, e => by
    rw [List.getElem?_cons_zero] at e
    cases e
    exact ⟨_, rfl, r⟩
  | _, _, i + 1, y, .cons _ t, e => by
    rw [List.getElem?_cons_succ] at e
    obtain ⟨x, h1, h2⟩ := Paired.get1 t e
    exact ⟨x, by rw [List.getElem?_cons_succ]; exact h1, h2⟩
theorem Paired.len {A B : Type} {F : A → B → Prop} : ∀ {xs : List A} {ys : List B}, Paired F xs ys → xs.length = ys.length
  | _, _, .nil => rfl
  | _, _, .cons _ t => by rw [List.length_cons, List.length_cons, Paired.len t]
theorem Paired.imp {A B : Type} {F G : A → B → Prop} : ∀ {xs : List A} {ys : List B}, Paired F xs ys → (∀ x y, x ∈ xs → F x y → G x y) → Paired G xs ys
  | _, _, .nil, _ => .nil
  | _, _, .cons r t, h => .cons (h _ _ List.mem_cons_self r) (Paired.imp t fun x y hx => h x y (List.mem_cons_of_mem _ hx))
theorem Paired.snoc {A B : Type} {F : A → B → Prop} : ∀ {xs : List A} {ys : List B} {x : A} {y : B}, Paired F xs ys → F x y → Paired F (xs ++ [x]) (ys ++ [y])
  | _, _, _, _, .nil, h
                                                              => .cons h .nil
  | _, _, _, _, .cons r t, h => .cons r (Paired.snoc t h)
theorem TupsAt.same {H H' : Hp} {rs : List Addr} {st : List (List Nat)} (h : TupsAt H rs st) (s : Same H H') : TupsAt H' rs st := Paired.imp h fun _ _ _ e => s _ _ e
theorem ListsAt.same {H H' : Hp} {rs : List Addr} {st : List (List Nat)} (h : ListsAt H rs st) (s : Same H H') : ListsAt H' rs st := Paired.imp h fun _ _ _ e => s _ _ e
end K53
namespace K53

/-! ### machines -/
structure Mc where
  c : Nat
  st : List (List Nat)
def Mc.n (m : Mc) : Nat := m.st.length
def Mc.to (m : Mc) (s a : Nat) : Nat := (m.st.getD s []).getD a 0
def Mc.led (m : Mc) (s : Nat) (u : List Nat) : Nat := u.foldl (fun s a => m.to s a) s
structure Mc.Ok (m : Mc) : Prop where
  c1 : 1 ≤ m.c
  c3 : m.c ≤ 3
  n1 : 1 ≤ m.st.length
  n4 : m.st.length ≤ 4
  row : ∀ r ∈ m.st, r.length = m.c ∧ ∀ x ∈ r, x < m.st.length

theorem Mc.Ok.to_lt {m : Mc} (h : m.Ok) {s a : Nat} (hs : s < m.n) (ha : a < m.c) : m.to s a < m.n := by
  unfold Mc.to
  have hs' : s < m.st.length := hs
  have e1 : m.st.getD s [] = m.st[s] := by simp [List.getD, List.getElem?_eq_getElem hs']
  rw [e1]
  have hr := h.row m.st[s] (List.getElem_mem hs')
  have ha' : a < (m.st[s]).length := by rw [hr.1]; exact ha
  have e2 : (m.st[s]).getD a 0 = (m.st[s])[a] := by simp [List.getD, List.getElem?_eq_getElem ha']
  rw [e2]
  exact hr.2 _ (List.getElem_mem ha')

theorem Mc.led_nil (m : Mc) (s : Nat) : m.led s [] = s := rfl
theorem Mc.led_cons (m : Mc) (s a : Nat) (u : List Nat) : m.led s (a :: u) = m.led (m.to s a) u := rfl
theorem Mc.led_snoc (m : Mc) (s a : Nat) (u : List Nat) : m.led s (u ++ [a]) = m.to (m.led s u) a := by
  unfold Mc.led
  rw [List.foldl_append]
  rfl
theorem Mc.led_append (m : Mc) (s : Nat) (u v : List Nat) : m.led s (u ++ v) = m.led (m.led s u) v := by
  unfold Mc.led
  rw [List.foldl_append]
def RowOk (m : Mc) (u : List Nat) : Prop := ∀ a ∈ u, a < m.c
theorem RowOk.nil (m : Mc) : RowOk m [] := fun _ h => by cases h
theorem RowOk.snoc {m : Mc} {u : List Nat} {a : Nat} (h : RowOk m u) (ha : a < m.c) : RowOk m (u ++ [a]) := fun x hx => by
  rcases List.mem_append.mp
                                                              hx with h1 | h1
  · exact h x h1
  · rw [List.mem_singleton.mp h1]; exact ha
theorem Mc.Ok.led_lt {m : Mc} (h : m.Ok) : ∀ {u : List Nat} {s : Nat}, s < m.n → RowOk m u → m.led s u < m.n
  | [], _, hs, _ => hs
  | a :: u, s, hs, hu => by
    rw [Mc.led_cons]
    exact h.led_lt (h.to_lt hs (hu a List.mem_cons_self)) fun x hx => hu x (List.mem_cons_of_mem _ hx)

/-! ### number faults -/
structure Wit where
  s : Nat
  t : Nat
  x : Nat
  u : List Nat
  w : List Nat
abbrev Four := Nat × Nat × Nat × Nat
def fourOf (m : Mc) (v : Wit) : Four := (m.led v.s v.u, m.led v.t v.w, m.led (m.to v.s v.x) v.u, m.led (m.to v.t v.x) v.w)
structure Wit.Good (m : Mc) (v : Wit) (k : Nat) : Prop where
  s : v.s < m.n
  t : v.t < m.n
  x : v.x < m.c
  u : RowOk m v.u
  w : RowOk m v.w
  lu : v.u.length = k
  lw : v.w.length = k
/-- v leads to f by rows of k commands -/
def Rch (m : Mc) (f : Four) (v : Wit) (k : Nat) : Prop := v.Good m k ∧ fourOf m v = f
def Bad (f : Four) : Prop := f.1 = f.2.1 ∧ f.2.2.1 ≠ f.2.2.2
instance (f : Four) : Decidable (Bad f) := by unfold Bad; infer_instance
def FaultBy (m : Mc) (v : Wit) (k : Nat) : Prop := v.Good m k ∧ Bad (fourOf m v)
def Fault (m : Mc) (k : Nat) : Prop := ∃ v, FaultBy m v k
def succF (m : Mc) (f : Four) (a b : Nat) : Four := (m.to f.1 a, m.to f.2.1 b, m.to f.2.2.1 a, m.to f.2.2.2 b)
def Wit.snoc (v : Wit) (a b : Nat) : Wit := ⟨v.s, v.t, v.x, v.u ++ [a], v.w ++ [b]⟩
theorem fourOf_snoc (m : Mc) (v : Wit) (a b : Nat) : fourOf m (v.snoc a b) = succF m (fourOf m v) a b := by
  simp [fourOf, Wit.snoc, succF, Mc.led_snoc]
theorem Rch.snoc {m : Mc} {f : Four} {v : Wit} {k a b : Nat} (h : Rch m f v k) (ha : a < m.c) (hb : b < m.c) : Rch m (succF m f a b) (v.snoc a b) (k + 1) := by
  obtain ⟨g, e⟩ := h
  refine ⟨⟨g.s, g.t, g.x, g.u.snoc ha, g.w.snoc hb, ?_, ?_⟩, ?_⟩
  · show (v.u ++ [a]).length = k + 1
    rw [List.length_append, g.lu]; rfl
  · show (v.w ++ [b]).length = k + 1
    rw [List.length_append, g.lw]; rfl
  · rw [fourOf_snoc, e]
theorem snoc_of_len {u : List Nat} {k : Nat} (h : u.length = k + 1) : ∃ u' a, u = u' ++ [a] ∧ u'.length = k := by
  have hne : u ≠ [] := by intro e; rw [e] at h; cases h
  refine ⟨u.dropLast, u.getLast hne, (List.dropLast_concat_getLast hne).symm, ?_⟩
  rw [List.length_dropLast, h]; rfl
theorem Rch.unsnoc {m : Mc} {f : Four} {v : Wit} {k : Nat} (h : Rch m f v (k + 1)) : ∃ f' v' a b, a < m.c ∧ b < m.c ∧ Rch m f' v' k ∧ f = succF m f' a b := by
  obtain ⟨g, e⟩ := h
  obtain ⟨u', a, eu, lu⟩ := snoc_of_len g.lu
  obtain ⟨w', b, ew, lw⟩ := snoc_of_len g.lw
  have ha : a < m.c := g.u a (by rw [eu]; simp)
  have hb : b < m.c := g.w b (by rw [ew]; simp)
  refine ⟨fourOf m ⟨v.s, v.t, v.x, u', w'⟩, ⟨v.s, v.t, v.x, u', w'⟩, a, b, ha, hb, ⟨⟨g.s, g.t, g.x, ?_, ?_, lu, lw⟩, rfl⟩, ?_⟩
  · intro z hz; exact g.u z (by rw [eu]; exact List.mem_append_left _ hz)
  · intro z hz; exact g.w z (by rw [ew]; exact List.mem_append_left _ hz)
  · rw [← e, ← fourOf_snoc]
    show fourOf m v = fourOf m ⟨v.s, v.t, v.x, u' ++ [a], w' ++ [b]⟩
    rw [← eu, ← ew]
/-- any level from k on may be lowered if what is reached at k is reached before -/
theorem low {m : Mc} {k : Nat} (h : ∀ f v, Rch m f v k → ∃ j v', j < k ∧ Rch m f v' j) : ∀ (i : Nat) f v, Rch m f v (k + i) → ∃ j v', j < k + i ∧ Rch m f v' j
  | 0, f, v, r => h f v r
  | i + 1, f, v, r => by
    obtain ⟨f', v', a, b, ha, hb, r', e⟩ := Rch.unsnoc (k := k + i) r
    obtain ⟨j, v'', hj, r''⟩ := low h i f' v' r'
    refine ⟨j + 1, v''.snoc a b, by omega, ?_⟩
    rw [e]
    exact r''.snoc ha hb
theorem nofault_of_low {m : Mc} {k : Nat} (h : ∀ f v, Rch m f v k → ∃ j v', j < k ∧ Rch m f v' j) (h0 : ∀ j, j < k → ¬ Fault m j) : ∀ j, ¬ Fault m j := by
  intro j
  induction j using Nat.strongRecOn with
  | _ j ih =>
    rintro ⟨v, g, b⟩
    by_cases hj : j < k
    · exact h0 j hj ⟨v, g, b⟩
    · obtain ⟨i, rfl⟩ : ∃ i, j = k + i := ⟨j - k, by omega⟩
      obtain ⟨j', v', hj', g', e'⟩ := low h i (fourOf m v) v ⟨g, rfl⟩
      exact ih j' hj' ⟨v', g', by rw [e']; exact b⟩

/-! ### the search by levels -/
abbrev Met := List (Four × Wit)
/-- at the head of a level -/
structure Lev (m : Mc) (k : Nat) (met : Met) (fresh : List Four) : Prop where
  sound : ∀ p ∈ met, ∃ j, j ≤ k ∧ Rch m p.1 p.2 j
  full : ∀ j f v, j ≤ k → Rch m f v j → f ∈ met.map (·.1)
  front : ∀ f ∈ fresh, ∃ v, (f, v) ∈ met ∧ Rch m f v k
  new : ∀ f v, Rch m f v k → f ∈ fresh ∨ ∃ j v', j < k ∧ Rch m f v' j
  none : ∀ j, j ≤ k → ¬ Fault m j
  nd : (met.map (·.1)).Nodup
/-- within a level: done: the fours and commands that were looked at -/
structure Mid (m : Mc) (k : Nat) (met : Met) (met' : Met) (later : List Four) (done : Four → Nat → Nat → Prop) : Prop where
  keys : met'.map (·.1) = met.map (·.1) ++ later
  old : ∀ p ∈ met, p ∈ met'
  sound : ∀ p ∈ met', ∃ j, j ≤ k + 1 ∧ Rch m p.1 p.2 j
  front : ∀ f ∈ later, ∃ v, (f, v) ∈ met' ∧ Rch m f v (k + 1)
  seen : ∀ f a b, done f a b → succF m f a b ∈ met'.map (·.1) ∧ ¬ Bad (succF m f a b)
  nd : (met'.map (·.1)).Nodup
theorem Mid.start {m : Mc} {k : Nat} {met : Met} {fresh : List Four} (L : Lev m k met fresh) : Mid m k met met [] (fun _ _ _ => False) :=
  ⟨by simp, fun _ h => h, fun p hp => (L.sound p hp).elim fun j h => ⟨j, Nat.le_succ_of_le h.1, h.2⟩, fun _ h => absurd h (by simp), fun _ _ _ h => False.elim h, L.nd⟩
theorem Mid.mono {m : Mc} {k : Nat} {met met' : Met} {later : List Four} {d d' : Four → Nat → Nat → Prop} (M : Mid m k met met' later d) (h : ∀ f a b, d' f a b → d f a b) : Mid m k met met' later d' :=
  ⟨M.keys, M.old, M.sound, M.front, fun f a b q => M.seen f a b (h f a b q), M.nd⟩
/-- the four was met -/
theorem Mid.same {m : Mc} {k : Nat} {met met' : Met} {later : List Four} {d d' : Four → Nat → Nat → Prop} {f0 : Four} {a0 b0 : Nat} (M : Mid m k met met' later d)
    (hd : ∀ f a b, d' f a b → d f a b ∨ (f = f0 ∧ a = a0 ∧ b = b0)) (hb : ¬ Bad (succF m f0 a0 b0)) (hm : succF m f0 a0 b0 ∈ met'.map (·.1)) : Mid m k met met' later d' :=
  ⟨M.keys, M.old, M.sound, M.front, fun f a b q => by
    rcases hd f a b q with h | ⟨h1, h2, h3⟩
    · exact M.seen f a b h
    · rw [h1, h2, h3]; exact ⟨hm, hb⟩, M.nd⟩
/-- the four is new -/
theorem Mid.add {m : Mc} {k : Nat} {met met' : Met} {later : List Four} {d d' : Four → Nat → Nat → Prop} {f0 : Four} {v0 : Wit} {a0 b0 : Nat} (M : Mid m k met met' later d)
    (hd : ∀ f a b, d' f a b → d f a b ∨ (f = f0 ∧ a = a0 ∧ b = b0)) (hb : ¬ Bad (succF m f0 a0 b0)) (hm : succF m f0 a0 b0 ∉ met'.map (·.1)) (r : Rch m f0 v0 k) (ha : a0 < m.c) (hb0 : b0 < m.c) :
    Mid m k met (met' ++ [(succF m f0 a0 b0, v0.snoc a0 b0)]) (later ++ [succF m f0 a0 b0]) d' := by
  have rs := r.snoc ha hb0
  refine ⟨by simp [M.keys], fun p hp => List.mem_append_left _ (M.old p hp), fun p hp => ?_, fun f hf => ?_, fun f a b q => ?_, ?_⟩
  · rcases List.mem_append.mp
                                                              hp with h | h
    · exact M.sound p h
    · rw [List.mem_singleton.mp h]; exact ⟨k + 1, Nat.le_refl _, rs⟩
  · rcases List.mem_append.mp hf with h | h
    · obtain ⟨v, h1, h2⟩ := M.front f h
      exact ⟨v, List.mem_append_left _ h1, h2⟩
    · rw [List.mem_singleton.mp h]
      exact ⟨_, List.mem_append_right _ List.mem_cons_self, rs⟩
  · rw [List.map_append]
    rcases hd f a b q with h | ⟨h1, h2, h3⟩
    · obtain ⟨h1, h2⟩ := M.seen f a b h
      exact ⟨List.mem_append_left _ h1, h2⟩
    · rw [h1, h2, h3]
      exact ⟨List.mem_append_right _ (by simp), hb⟩
  · rw [List.map_append]
    refine List.nodup_append.mpr ⟨M.nd, by simp, fun x hx y hy e => ?_⟩
    simp at hy
    rw [e, hy] at hx
    exact hm hx
/-- the next level -/
theorem Mid.next {m : Mc} {k : Nat} {met met' : Met} {fresh later : List Four} {d : Four → Nat → Nat → Prop} (L : Lev m k met fresh) (M : Mid m k met met' later d) (hd : ∀ f ∈ fresh, ∀ a b, a < m.c → b < m.c → d f a b) : Lev m (k + 1) met' later := by
  have key : ∀ f v, Rch m f v (k + 1) → (f ∈ met'.map (·.1) ∧ ¬ Bad f) ∨ ∃ j v', j ≤ k ∧ Rch m f v' j := fun f v r => by
    obtain ⟨f', v', a, b, ha, hb, r', e⟩ := r.unsnoc
    rcases L.new f' v' r' with h | ⟨j, v'', hj, r''⟩
    · left
      rw [e]
      exact M.seen f' a b (hd f' h a b ha hb)
    · right
      exact ⟨j + 1, v''.snoc a b, by omega, by rw [e]; exact r''.snoc ha hb⟩
  have inOld : ∀ f, f ∈ met.map (·.1) → f ∈ met'.map (·.1) := fun f h => by rw [M.keys]; exact List.mem_append_left _ h
  refine ⟨M.sound, fun j f v hj r => ?_, M.front, fun f v r => ?_, fun j hj => ?_, M.nd⟩
  · by_cases h : j ≤ k
    · exact inOld f (L.full j f v h r)
    · have : j = k +
                                                                1 := by omega
      subst this
      rcases key f v r with ⟨h, _⟩ | ⟨j, v', hj', r'⟩
      · exact h
      · exact inOld f (L.full j f v' hj' r')
  · have hk : f ∈ met'.map (·.1) := by
      rcases key f v r with ⟨h, _⟩ | ⟨j, v', hj', r'⟩
      · exact h
      · exact inOld f (L.full j f v' hj' r')
    rw [M.keys] at hk
    rcases List.mem_append.mp hk with h | h
    · right
      obtain ⟨p, hp, e⟩ :=
                                                                  List.mem_map.mp h
      obtain ⟨j, hj, r'⟩ := L.sound p hp
      exact ⟨j, p.2, by omega, by rw [← e]; exact r'⟩
    · exact .inl h
  · by_cases h : j ≤ k
    · exact L.none j h
    · have : j = k +
                                                                1 := by omega
      subst this
      rintro ⟨v, g, b⟩
      rcases key (fourOf m v) v ⟨g, rfl⟩ with ⟨_, h2⟩ | ⟨j', v', hj', g', e'⟩
      · exact h2 b
      · exact L.none j' hj' ⟨v', g', by rw [e']; exact b⟩
/-- nothing fresh: no fault at all -/
theorem Lev.done {m : Mc} {k : Nat} {met : Met} (L : Lev m k met []) : ∀ j, ¬ Fault m j := by
  refine nofault_of_low (k := k) (fun f v r => ?_) fun j hj => L.none j (by omega)
  rcases L.new f v r with h | h
  · cases h
  · exact h
/-- the fault told is one with rows as short as any has -/
theorem Lev.found {m : Mc} {k : Nat} {met : Met} {fresh : List Four} {f : Four} {v : Wit} {a b : Nat} (L : Lev m k met fresh) (r : Rch m f v k) (ha : a < m.c) (hb : b < m.c) (h : Bad (succF m f a b)) :
    FaultBy m (v.snoc a b) (k + 1) ∧ ∀ j, j < k + 1 → ¬ Fault m j := by
  obtain ⟨g, e⟩ := r.snoc ha hb
  exact ⟨⟨g, by rw [e]; exact h⟩, fun j hj => L.none j (by omega)⟩
/-- the beginning -/
theorem Lev.first {m : Mc} {met : Met} {fresh : List Four} (hf : fresh = met.map (·.1)) (h1 : ∀ p ∈ met, Rch m p.1 p.2 0) (h2 : ∀ s t x, s < m.n → t < m.n → x < m.c → (s, t, m.to s x, m.to t x) ∈ met.map (·.1)) (nd : (met.map (·.1)).Nodup) : Lev m 0 met fresh := by
  have nil : ∀ {u : List Nat}, u.length = 0 → u = [] := fun h => List.length_eq_zero_iff.mp h
  have full : ∀ f v, Rch m f v 0 → f ∈ met.map (·.1) := fun f v ⟨g, e⟩ => by
    have e1 : f = (v.s, v.t, m.to v.s v.x, m.to v.t v.x) := by
      rw [← e]
      simp [fourOf, nil g.lu, nil g.lw, Mc.led_nil]
    rw [e1]
    exact h2 _ _ _ g.s g.t g.x
  refine ⟨fun p hp => ⟨0, Nat.le_refl _, h1 p hp⟩, fun j f v hj r => ?_, fun f hm => ?_, fun f v r => ?_, fun j hj => ?_, nd⟩
  · have : j = 0 := by omega
    subst this
    exact full f v r
  · rw [hf] at hm
    obtain ⟨p, hp, e⟩ :=
                                                                List.mem_map.mp hm
    exact ⟨p.2, by rw [← e]; exact hp, by rw [← e]; exact h1 p hp⟩
  · rw [hf]; exact .inl (full f v r)
  · have : j = 0 := by omega
    subst this
    rintro ⟨v, g, b1, b2⟩
    simp only [fourOf, nil g.lu, nil g.lw, Mc.led_nil] at b1 b2
    rw [b1] at b2
    exact b2 rfl

/-! ### so many unlike numbers -/
theorem nodup_le : ∀ (N : Nat) (l : List Nat), l.Nodup → (∀ x ∈ l, x < N) → l.length ≤ N
  | 0, l, _, h => by
    cases l with
    | nil => exact Nat.le_refl _
    | cons x _ => exact absurd (h x List.mem_cons_self) (Nat.not_lt_zero _)
  | N + 1, l, nd, h => by
    have h1 := nodup_le N (l.erase N) (nd.erase _) fun x hx => by
      have h2 := h x (List.mem_of_mem_erase hx)
      have h3 : x ≠ N := fun e => by
        rw [e] at hx
        exact (List.Nodup.mem_erase_iff nd).mp hx |>.1 rfl
      omega
    have h2 : l.length ≤ (l.erase N).length + 1 := by
      rw [List.length_erase]
      split <;> omega
    omega
theorem nodup_map_le {α : Type} (N : Nat) (g : α → Nat) (l : List α) (nd : l.Nodup) (inj : ∀ x ∈ l, ∀ y ∈ l, g x = g y → x = y) (h : ∀ x ∈ l, g x < N) : l.length ≤ N := by
  have e : (l.map g).length = l.length := List.length_map _
  rw [← e]
  refine nodup_le N _ ?_ fun x hx => ?_
  · induction l with
    | nil => simp
    | cons a r ih =>
      rw [List.map_cons]
      obtain ⟨n1, n2⟩ :=
                                                                  List.nodup_cons.mp nd
      refine List.nodup_cons.mpr ⟨fun hm => ?_, ih n2 (fun x hx y hy => inj x (List.mem_cons_of_mem _ hx) y (List.mem_cons_of_mem _ hy)) (fun x hx => h x (List.mem_cons_of_mem _ hx)) (List.length_map _)⟩
      obtain ⟨y, hy, e⟩ := List.mem_map.mp hm
      have := inj a List.mem_cons_self y (List.mem_cons_of_mem _ hy) e.symm
      rw [this] at n1
      exact n1 hy
  · obtain ⟨y, hy, e⟩ := List.mem_map.mp hx
    rw [← e]; exact h y hy
/-- fours of four states: no more than 256 -/
theorem fours_le {l : List Four} (nd : l.Nodup) (h : ∀ f ∈ l, f.1 < 4 ∧ f.2.1 < 4 ∧ f.2.2.1 < 4 ∧ f.2.2.2 < 4) : l.length ≤ 256 := by
  refine nodup_map_le 256 (fun f => f.1 * 64 + f.2.1 * 16 + f.2.2.1 * 4 + f.2.2.2) l nd (fun x hx y hy e => ?_) fun x hx => ?_
  · obtain ⟨x1, x2, x3, x4⟩ := x
    obtain ⟨y1, y2, y3, y4⟩ := y
    have h1 := h _ hx
    have h2 := h _ hy
    simp only at h1 h2 e
    have : x1 = y1 ∧ x2 = y2 ∧ x3 = y3 ∧ x4 = y4 := by omega
    obtain ⟨rfl, rfl, rfl, rfl⟩ := this
    rfl
  · have h1 := h _ hx
    show x.1 * 64 + x.2.1 * 16 + x.2.2.1 * 4 + x.2.2.2 < 256
    omega
theorem Rch.lt4 {m : Mc} (ok : m.Ok) {f : Four} {v : Wit} {k : Nat} (r : Rch m f v k) : f.1 < 4 ∧ f.2.1 < 4 ∧ f.2.2.1 < 4 ∧ f.2.2.2 < 4 := by
  obtain ⟨g, e⟩ := r
  have hn : m.n ≤ 4 := ok.n4
  have h1 := ok.led_lt g.s g.u
  have h2 := ok.led_lt g.t g.w
  have h3 := ok.led_lt (ok.to_lt g.s g.x) g.u
  have h4 := ok.led_lt (ok.to_lt g.t g.x) g.w
  rw [← e]
  simp only [fourOf]
  omega
theorem Rch.ltn {m : Mc} (ok : m.Ok) {f : Four} {v : Wit} {k : Nat} (r : Rch m f v k) : f.1 < m.n ∧ f.2.1 < m.n ∧ f.2.2.1 < m.n ∧ f.2.2.2 < m.n := by
  obtain ⟨g, e⟩ := r
  rw [← e]
  exact ⟨ok.led_lt g.s g.u, ok.led_lt g.t g.w, ok.led_lt (ok.to_lt g.s g.x) g.u, ok.led_lt (ok.to_lt g.t g.x) g.w⟩
end K53
namespace K53
open PySem PySem.Spec
                                                            PyProof.Rows L2

/-! ### repr of a bool -/
def bTxt (b : Bool) : Str := if b then "True" else "False"
theorem bTxt_inj {a b : Bool} : decide (V.str (bTxt a) = V.str (bTxt b)) = decide (a = b) := by
  cases a <;> cases b <;> decide +kernel
section
variable {X : Cx}
theorem call_repr_bl : CallR X (.builtin "repr") (fun xs H Q => ∃ b, xs = [.bl b] ∧ Q (.str (bTxt b)) H) := by
  intro pins s st H xs us Q I r h
  obtain ⟨b, e, q⟩ := h
  subst e
  obtain ⟨u, e1, r1⟩ := vals1 r
  subst e1
  have e2 : u = Value.bool b := r1
  subst e2
  exact PySem.P.repr_of_bool ⟨.str (bTxt b), H, I.tok _, ⟨_, rfl⟩, q⟩
end

/-! ### len(set(xs)), ints of which some may be alike -/
theorem dedup_fold : ∀ (l acc : List Int), acc.Nodup → ((acc ++ l).Nodup → l.foldl step_dedup acc = acc ++ l) ∧ (¬ (acc ++ l).Nodup → (l.foldl step_dedup acc).length < acc.length + l.length) ∧ (l.foldl step_dedup acc).length ≤ acc.length + l.length
  | [], acc, h => ⟨fun _ => by simp, fun n => absurd (by simpa using h) n, by simp⟩
  | x :: l, acc, h => by
    rw [List.foldl_cons]
    by_cases hx : x ∈ acc
    · have e : step_dedup acc x = acc := by
        unfold step_dedup
        rw [if_pos (List.any_eq_true.mpr ⟨x, hx, by simp⟩)]
      rw [e]
      have ih := (dedup_fold l acc h).2.2
      refine ⟨fun n => ?_, fun _ => by rw [List.length_cons]; omega, by rw [List.length_cons]; omega⟩
      exact absurd rfl ((List.nodup_append.mp n).2.2 x hx x List.mem_cons_self)
    · have e : step_dedup acc x = acc ++ [x] := by
        unfold step_dedup
        rw [if_neg]
        intro c
        obtain ⟨y, hy, e2⟩ := List.any_eq_true.mp c
        exact hx (by rw [← beq_iff_eq.mp e2]; exact hy)
      rw [e]
      have hn : (acc ++ [x]).Nodup := List.nodup_append.mpr ⟨h, by simp, fun a ha b hb z => by rw [List.mem_singleton.mp hb] at z; rw [z] at ha; exact hx ha⟩
      obtain ⟨i1, i2, i3⟩ := dedup_fold l (acc ++ [x]) hn
      have ea : acc ++ [x] ++ l = acc ++ x :: l := by simp
      rw [ea] at i1 i2
      have el : (acc ++ [x]).length + l.length = acc.length + (x :: l).length := by simp; omega
      rw [el] at i2 i3
      exact ⟨i1, i2, i3⟩
theorem met_all (ns : List Int) : firstMet (fun i => ns.getD i 0) ns.length = ns.foldl step_dedup [] := by
  unfold firstMet
  congr 1
  refine List.ext_getElem? fun i => ?_
  rw [List.getElem?_map]
  by_cases h : i < ns.length
  · rw [List.getElem?_range h, List.getElem?_eq_getElem h]
    simp [List.getD,
                                                                List.getElem?_eq_getElem h]
  · rw [List.getElem?_eq_none (by simpa using h), List.getElem?_eq_none (by omega)]
    rfl
def tLenSetG (K : PySem.W.Frag) (ta : TE) : TE := fun st H Q => ta st H fun x H1 => ∃ (l : Addr) (ns : List Int), x = V.ref l ∧ SqL K H1 l (ns.map V.int) ∧ ns.length < 64 ∧
  ∀ n : Nat, (ns.Nodup → n = ns.length) → (¬ ns.Nodup → n < ns.length) → Q (.int (n : Int)) H1
section
variable {X : Cx}
theorem pe_lenSetG {a : Expr} {ta : TE} {p p2 q pos : Pos} (hc : X.calm = true) (hg : Gl X "len") (hm : X.mg "len" = none) (hg2 : Gl X "set") (hm2 : X.mg "set" = none) (ha : PE X a ta)
    (na : starEach [a] X.env = (false, eval a X.env) :: starEach [] X.env := by rfl) : PE X (.Call (.Name "len" p) [.Call (.Name "set" p2) [a] [] q] [] pos) (tLenSetG X.K ta) := by
  constructor
  intro pins s st H Q I h
  refine Call_ ?_
  refine ld_blt I hg hm PySem.boot_len ?_
  refine PyProof.Rows.callWith_builtin1
                                                              (PyProof.Rows.args_cons ?_ rfl) rfl rfl
  refine Call_ ?_
  refine ld_blt I hg2 hm2 PyProof.Rows.boot_set ?_
  refine PyProof.Rows.callWith_type1 (PyProof.Rows.args_cons (thn (ha.run pins s st H _ I h) ?_) na) na rfl
  rintro v s1 ⟨x, H1, I1, r1, l, ns, ex, hq, h1, k⟩
  apply PyProof.Rows.args_nil
  subst ex
  cases r1
  obtain ⟨its, r, pl,
                                                              hz⟩ := I1.list hq
  have hl : its.toArray.size = ns.length := by rw
                                                              [List.size_toArray, ← r.length, List.length_map]
  apply call_set_list (I1.ok.hd hc) pl.isList (ns := ns) (by simpa using r.ints) (by unfold scanBound; omega)
  intro h' tk hS hk
  rw [hl, met_all] at hS
  apply PyProof.Rows.args_nil
  obtain ⟨o, es, ep, t, ho, hex,
                                                              hd, _, _, _, hf, hn⟩ := hS
  have I2 : Inv X pins st H1 { s1 with heap := h', toks := tk } := I1.kept fun b ob eb => hk b ob (Heap.lt_size eb) eb
  obtain ⟨d1, d2, d3⟩ := dedup_fold ns [] List.nodup_nil
  rw [List.nil_append] at d1 d2
  simp only [List.length_nil, Nat.zero_add] at d2 d3
  refine call_len_set ho hex hd hf (by rw [hn]; omega) ⟨.int ((ns.foldl step_dedup []).length : Nat), H1, I2.tok _, ⟨_, by rw [hn]⟩, ?_⟩
  exact k _ (fun nd => by rw [d1 nd]) d2
end

/-! ### a def called by keywords alone -/
section
variable {X : Cx} {k j : Nat} {f : Addr} {fd : FuncData} {ps ks : List Str} {sp : Sp} {x : Str} {p pos : Pos} {kws : List Keyword} {tk : TA} {g : List Value → List Value → List Value} {gV : List V → List V → List V}
def tCallK0 (sp : Sp) (gV : List V → List V → List V) (tk : TA) : TE := fun st H Q => tk st H fun zs H1 => sp (gV [] zs) H1 Q E0
theorem pe_callK0 (F : FnOk X.prog X.w X.K X.mg X.base CX0 k f fd ps sp) (hr : Room j X.A) (hk : k ≤ j) (hg : Gl X x) (hm : X.mg x = some (.ref f)) (kp : PySem.W.keepIn X.K (.ref f) = true) (hb : KBinds X.K fd ps ks g gV)
    (hkw : PK X kws tk) (hall : (backToKw pos (keywordEach kws X.env)).all (·.1.isSome) = true := by rfl) (hks : (backToKw pos (keywordEach kws X.env)).filterMap (·.1) = ks := by rfl)
    (hdb : (x == ("__debug__" : Str)) = false := by decide) (hpl : ((backTo pos (starEach [] X.env)).any (·.1) || (backToKw pos (keywordEach kws X.env)).any (·.1.isNone)) = false := by rfl) :
    PE X (.Call (.Name x p) [] kws pos) (tCallK0 sp gV tk) := by
  constructor
  intro pins s st H Q I h
  apply wpAny_Call_Name_kw
  refine ld_glob I hg hm ?_ hdb
  refine PySem.W.callWith_KW0 (h₀ := X.base) I.ok.mod.kin kp hall (thn (hkw.run pos pins s st H _ I h) ?_) hpl
  rintro ws s2 ⟨zs, H2, I2, rz, q2⟩
  refine ⟨I2.kIn, ?_⟩
  rw [hks]
  exact run_fnk (us := []) (vs := []) F (hr.mono hk) hb pass0 I2 .nil rz q2
end
end K53
namespace K53E
open PySem
open Sem (wp)
open AutoSeq1
                                                            (wpAny_loadPart')
theorem made_enum_tup (l : Addr) (its : Array Value) (n : Nat) (dct : Option Addr) (sl : Array (Option Value)) :
    Meets (Builtin.«enumerate.__new__» ⟨[.type "enumerate", .ref l], []⟩) (fun _ R s => s.heap.get? l = some { cls := .type "tuple", dict := dct, data := .seq its n, slots := sl } ∧
      R (.ok (.ret (.ref (s.heap.push { cls := .type "tuple_iterator", data := .fields #[.ref l, .int 0 0] }).objs.size)))
        { s with heap := (s.heap.push { cls := .type "tuple_iterator", data := .fields #[.ref l, .int 0 0] }).push { cls := .type "enumerate", data := .fields #[.none, .bool false, .ref s.heap.objs.size, rawInt 0, .none, .none] } }) := by
  refine .of_wp ?_
  rintro prog w A R ⟨hp, g, d, tk, os⟩ ⟨hl, hQ⟩
  have hsub := sub_enumerate
  have hT : Heap.IsTuple (Shared.heap ⟨hp, g, d, tk, os⟩) l its := ⟨_, hl, rfl, n, rfl⟩
  wp_walk using
                                                              wpAny_loadPart' hl
  apply wpAny_stack_any
  intro st
  apply wpAny_pure
  split
  · next c _ _ _ _ _ =>
    cases (c == Value.type "enumerate") <;>
    · wp_walk using wpAny_loadPart' hl, wpAny_pyIter_tuple hT
      exact ⟨_, rfl, hQ⟩
  · wp_walk using wpAny_loadPart' hl, wpAny_pyIter_tuple hT
    exact ⟨_, rfl, hQ⟩
theorem called_enum_tup {prog : Program} {w : World} {A : Around} {E : Value → Shared → Prop} {s : Shared} {l : Addr} {its : Array Value} {Q : Value → Shared → Prop} (hT : s.heap.IsTuple l its)
    (k : ∀ h', IsEnum h' (s.heap.objs.size + 1) s.heap.objs.size 0 .none → h'.IsTupleIter s.heap.objs.size l 0 → (∀ b o, s.heap.get? b = some o → h'.get? b = some o) → Q (.ref (s.heap.objs.size + 1)) { s with heap := h' }) :
    wpAny (model prog w) A (call (.type
                                                                "enumerate") [.ref l]) Q E s := by
  rcases hT with ⟨⟨c, dct, dt, sl⟩, hl, hc, n, hd⟩
  simp only at hc hd
  subst hc hd
  refine callType_new F.called_enumerate (by decide) (F.typeCall_enumerate_1 _) (F.newCall_enumerate_1 _) (fun obj => F.args_object_init_2 obj _) F.entry_enumerate_new (made_enum_tup l its n dct sl) ?_
  have z1 : (s.heap.push { cls := .type "tuple_iterator", data := .fields #[.ref l, .int 0 0] }).objs.size = s.heap.objs.size + 1 := Heap.size_push ..
  have he := Heap.get?_push_size (s.heap.push { cls := .type "tuple_iterator", data := .fields #[.ref l, .int 0 0] }) (o := { cls := .type "enumerate", data := .fields #[.none, .bool false, .ref s.heap.objs.size, rawInt 0, .none, .none] }) rfl
  rw [z1] at he
  refine ⟨hl, ?_⟩
  show _ ∧ _
  rw [z1]
  exact ⟨⟨_, he, rfl⟩, k _ he ⟨_, Heap.get?_push_of_some _ (Heap.get?_push_size _ rfl), rfl, rfl⟩ fun b o e => Heap.get?_push_of_some _ (Heap.get?_push_of_some _ e)⟩
end K53E
namespace K53
open PySem PySem.Spec
                                                            PyProof.Rows L2
/-- the tuple at a, each item in a new pair behind its place -/
def IteT (K : PySem.W.Frag) (a : Addr) : It where
  go := fun i H => ∃ (xs : List V) (x : V), SqT K H a xs ∧ xs[i]? = some x
  yld := fun i H v H' => ∃ T x, v = .ref T ∧ H T = none ∧ H' = upd H T (.tup [.int (i : Nat), x]) ∧ ∀ xs, SqT K H a xs → xs[i]? = some x
  stop := fun i H => ∃ xs : List V, SqT K H a xs ∧ xs.length ≤ i
theorem walk_enumT {K : PySem.W.Frag} {a : Addr} {xs : List V} : Walk (IteT K a) xs.length (fun H => SqT K H a xs) (YPair (fun i => some (.int (i : Nat))) (fun i => xs[i]?)) where
  goes := fun i H hi q => ⟨xs, xs[i], q, List.getElem?_eq_getElem hi⟩
  stops := fun H q => ⟨xs, q, Nat.le_refl _⟩
  yields := fun i H v H' _ q ⟨T, x, h1, h2, h3, h4⟩ => ⟨T, .int (i : Nat), x, h1, h2, h3, rfl, h4 xs q⟩
def EnSt (a e it : Addr) (i : Nat) (h : Heap) : Prop := (∃ old, IsEnum h e it ((i : Nat) : Int) old) ∧ h.IsTupleIter it a i ∧ e ≠ it ∧ a ≠ it ∧ e ≠ a
theorem turn_enumT {P : Program} {w : World} {K : PySem.W.Frag} {elts : List Expr} {kk : Nat} {tpos : Pos} (a e it : Addr) : Turn P w K (.Tuple elts kk tpos) (IteT K a) [e, it] e (EnSt a e it) where
  mem := List.mem_cons_self
  obj := by
    rintro i h ⟨⟨old, he⟩, ⟨o, ho, hc, hd⟩, _⟩ b hb
    simp only [List.mem_cons,
                                                                List.not_mem_nil, or_false] at hb
    cases hb with
    | inl z => subst z; exact ⟨_, he, fun v q => by cases q⟩
    | inr z => subst z; exact ⟨o, ho, fun v q => by rw [hd] at q; cases q⟩
  keep := by
    rintro i h h' ⟨⟨old, he⟩, hi, r⟩ k
    exact ⟨⟨old, k e (by simp) _ he⟩, hi.at fun o q => k it (by simp) o q, r⟩
  self := by
    rintro A i s Q E ⟨⟨_, he⟩, _⟩ h
    exact wpAny_pyIter_enum he h
  done := by
    rintro X rfl rfl rfl hc i pins s st H E I hf ⟨⟨old, he⟩, hit, n1, n2, n3⟩ ⟨xs, hq, hx⟩
    obtain ⟨its, rv, p,
                                                                hz⟩ := I.tuple hq
    have hl := rv.length
    obtain ⟨f0, f1, f2, f3, f4,
                                                                f5⟩ := hf it (by simp)
    have hh : X.A.in1.handled = none := I.ok.hd hc
    -- at its end or behind it
    refine wpAny_pyNext_enum_endD (n := i) (fp := [it, a]) (P := fun _ _ => False) (St := fun j h => h.IsTupleIter it a j ∧ h.IsTuple a its.toArray ∧ j = i)
      ⟨fun _ h z => let ⟨o, ho, _⟩ := z.1; ⟨o, ho⟩, fun _ _ _ z k => ⟨z.1.at fun o q => k it (by simp) o q, z.2.1.at fun o q => k a (by simp) o q, z.2.2⟩, fun j s Q E hj z => absurd z.2.2 (Nat.ne_of_lt hj), fun s Q E z hE => wpAny_nextOf_tuple_end hh z.1 z.2.1 (by simp; omega) hE⟩
      he ⟨hit, p, rfl⟩ fun h' eb => ⟨rfl, I.turned (t' := s.toks) (fun b o hb q => eb b o hb q) f0 f1 f3 f4 f5⟩
  item := by
    rintro X rfl rfl rfl hc i pins s st H E I hf ⟨⟨old, he⟩, hit, n1, n2, n3⟩ ⟨xs, x, hq, hx⟩
    obtain ⟨its, rv, p,
                                                                hz⟩ := I.tuple hq
    obtain ⟨u, hu, ru⟩
                                                                := rv.get hx
    have hh : X.A.in1.handled = none := I.ok.hd hc
    have le : e < s.heap.objs.size := Heap.lt_size he
    have li : it < s.heap.objs.size := by obtain ⟨_, q, _⟩ := hit; exact Heap.lt_size q
    have hi : i < its.toArray.size := by
      have q := (List.getElem?_eq_some_iff.mp hu).1
      simpa using q
    refine wpAny_pyNext_enum_itemD (Draws.tuple hh it a n2 its.toArray) he ⟨hit, p⟩ hi n1 (by simp [n1, n3]) fun y h' tk hy ho hst hT hsz hk => ?_
    have ey : y = u := by
      have q : its.toArray[i]? = some u := by simpa using hu
      rw [q] at hy
      exact (Option.some.inj hy).symm
    subst ey
    refine ⟨_, rfl, wpAny_letOwnedTupleGo_enum (s := { s with heap := h', toks := tk + 1 }) ho fun h'' he' sb => ?_⟩
    have hT2 : h''.get? s.heap.objs.size = some { cls := .type "tuple", data := .seq #[.int i tk, y] } := (sb.2 _ (Nat.ne_of_gt le)).trans hT
    have new : ObjOk X.prog X.w (upd H s.heap.objs.size (.tup [.int (i : Nat),
                                                                x])) h'' s.heap.objs.size (.tup [.int (i : Nat), x]) :=
      ⟨(by decide : 2 ≤ sizeLine), [.int i tk, y], .cons ⟨_, rfl⟩ (.cons ru .nil), ⟨_, hT2, rfl, _, rfl⟩⟩
    have kp : ∀ b ob, b ∉ [e, it] → s.heap.get? b = some ob → h''.get? b = some ob := fun b ob hb q => by
      have b1 : b ≠ e := fun z => hb (by simp [z])
      have b2 : b ≠ it := fun z => hb (by simp [z])
      exact (sb.2 b b1).trans (hk b ob b1 b2 q)
    have J := I.turnedNew (t' := tk + 1) (ch := [e, it]) kp hf (Nat.le_refl _) new
    refine ⟨.ref s.heap.objs.size, _, J, rfl, ⟨_, x, rfl, I.hok.fresh (Nat.le_refl _), rfl, fun ys hy => by rw [I.tuple_inj hy hq]; exact hx⟩, ⟨⟨y, ?_⟩, hst.1.at fun o q => (sb.2 it (Ne.symm n1)).trans q, n1, n2, n3⟩, fun b hb => ?_⟩
    · have e1 : ((i + 1 : Nat) : Int)
                                                                = (i : Int) + 1 := by omega
      rw [e1]
      exact he'
    · have hb' : b ≠ s.heap.objs.size := by
        simp only [List.mem_cons,
                                                                    List.not_mem_nil, or_false] at hb
        rcases hb with z | z <;> subst z
        · exact Nat.ne_of_lt le
        · exact Nat.ne_of_lt li
      rw [upd_ne hb']
      exact (hf b hb).1
def iEnumT (K : PySem.W.Frag) (ta : TA) : TI := fun st H R => ta st H fun vs H1 => ∃ a xs, vs = [.ref a] ∧ SqT K H1 a xs ∧ R (IteT K a) H1
theorem pi_enumT {X : Cx} {e : Expr} {ta : TA} {p pos tpos : Pos} {elts : List Expr} {kk : Nat} (hg : Gl X "enumerate") (hm : X.mg "enumerate" = none) (ha : PA X [e] ta) (hs : starEach [e] X.env = [(false, eval e X.env)] := by rfl) :
    PI X (.Tuple elts kk tpos) (.Call (.Name "enumerate" p) [e] [] pos) (iEnumT X.K ta) := by
  constructor
  intro pins s st H R I h
  refine Call_ ?_
  refine ld_blt I hg hm boot_enumerate ?_
  refine PyProof.Rows.callWith_type1 (thn (ha.run pos pins s st H _ I h) ?_) hs rfl
  rintro us s1 ⟨vs, H1, I1, r1, a, xs, ex, hq, q⟩
  subst ex
  cases r1 with
  | cons r rr =>
    cases rr
    cases r
    obtain ⟨its, rv, p', hz⟩ := I1.tuple hq
    have la : a < s1.heap.objs.size := by obtain ⟨o, ho, _⟩ := p'; exact Heap.lt_size ho
    refine K53E.called_enum_tup (show s1.heap.IsTuple a its.toArray from p') fun h' he hit hk => wpAny_pyIter_enum he ?_
    have I2 : Inv X pins st H1 { s1 with heap := h' } := I1.kept (t' := s1.toks) hk
    refine ⟨s1.heap.objs.size + 1, [s1.heap.objs.size + 1, s1.heap.objs.size], _, _, H1, rfl, I2, turn_enumT a (s1.heap.objs.size + 1) s1.heap.objs.size, ⟨⟨.none, he⟩, hit, Nat.succ_ne_self _, Nat.ne_of_lt la, Nat.ne_of_gt (Nat.lt_succ_of_lt la)⟩, fun b hb => ?_, q⟩
    have hle : s1.heap.objs.size
                                                                ≤ b := by
      simp only [List.mem_cons,
                                                                  List.not_mem_nil, or_false] at hb
      rcases hb with z | z <;> subst z
      · exact Nat.le_add_right _ _
      · exact Nat.le_refl _
    exact I1.fpOk hle
                                                                (I1.hok.fresh hle)
end K53
namespace L2.KR
open PySem PySem.Spec PyProof.Rows K53

/-! ### d.setdefault(k, x), k a tuple -/
def tDSetdT (td ty tx : TE) : TE := fun st H Q => td st H fun x H1 => ∃ d, x = .ref d ∧ IsD H1 d ∧ ty st H1 fun y H2 => tx st H2 fun z H3 => ∃ kvs k b, H3 d = some (.dT kvs) ∧ y = .ref b ∧ H3 b = some (.tup (k.map kV)) ∧ kvs.length < sizeLine ∧
  (∀ v, valV kvs k = some v → Q v H3) ∧ (valV kvs k = none → Q z (upd H3 d (.dT (putK kvs k z))))
section
variable {X : Cx}
theorem d_setdT {pins : List (Addr × Obj)} {st : St} {H : Hp} {s : Shared} {d b : Addr} {kvs : List (List Key × V)} {k : List Key} {z : V} {r : Value} {Q : Value → Shared → Prop} (hu : X.A.units + 1 < cLine) (I : Inv X pins st H s) (e : H d = some (.dT kvs)) (eb : H b = some (.tup (k.map kV))) (hl : kvs.length < sizeLine) (rz : RelV z r)
    (h1 : ∀ v w' s', valV kvs k = some v → RelV v w' → Inv X pins st H s' → Q w' s') (h2 : valV kvs k = none → ∀ s', Inv X pins st (upd H d (.dT (putK kvs k z))) s' → Q r s') : wpAny (model X.prog X.w) X.A (call (.builtin "dict.setdefault") [.ref d, .ref b, r]) Q X.xe s := by
  obtain ⟨hz, hd, xs, rel, dd⟩ := dt_of I.hok e
  have hz' : xs.length ≤ sizeLine := Nat.le_trans (Nat.le_of_eq (Paired.length rel).symm) hz
  refine call_setdefault_heap (hsz := hz') (tupleKind_room_in1 hu) (key_of I.hok eb) hd dd (fun p hp => ?_) fun hn h' dd' hs => ?_
  · have rl := rel.val k
    rw [hp] at rl
    cases hv : valV kvs k with
    | none =>
      rw [hv] at rl
      exact False.elim rl
    | some v =>
      rw [hv] at rl
      exact h1 v _ _ hv rl (I.tok _)
  · have rl := rel.val k
    rw [hn] at rl
    have hv : valV kvs k = none := by
      cases hv : valV kvs k with
      | none => rfl
      | some v =>
        rw [hv] at rl
        exact False.elim rl
    have hl2 : (putK kvs k z).length ≤ sizeLine := by
      have q := length_putK kvs k z
      omega
    obtain ⟨o, es, ep, g1, g2, g3, g4, _, g5⟩ := dd'
    refine h2 hv _ (d_write I (by rw [e]; exact True.intro) hs ⟨o, g1⟩ ⟨hl2, hd, _, (rel.put k eb rz).keeps fun c ys ec => ?_, o, es, ep, g1, g2, g3, g4, g5⟩)
    rw [upd_ne (ne_of ec e fun z => nomatch z)]
    exact ec
theorem pe_dsetdT {o e f : Expr} {apos cpos : Pos} {td ty tx : TE} (hu : X.A.units + 1 < cLine) (ho : PE X o td) (he : PE X e ty) (hf : PE X f tx) (m : M2 X o "setdefault" apos e f cpos) : PE X (.Call (.Attribute o "setdefault" apos) [e, f] [] cpos) (tDSetdT td ty tx) := by
  constructor
  intro pins s st H Q I h
  refine wpAny_Call_method m.base m.few m.line PySem.F.plainAttrs_dict PySem.F.slot_dict_setdefault PySem.F.type_dict_setdefault (thn (ho.run pins s st H _ I h) ?_)
  rintro u s1 ⟨x, H1, I1, rx, d, ex, hd, q1⟩
  subst ex
  obtain rfl : u =
                                                              Value.ref d := rx
  obtain ⟨t1, t2, _⟩ := isD_at I1 hd
  refine ⟨t1, t2, ?_⟩
  rw [m.trees]
  refine Calls.callWith_builtin rfl (Calls.evalArgs_plain (Calls.spliced_cons (thn (he.run pins s1 st H1 _ I1 q1) fun iv s2 ⟨y, H2, I2, ry, q2⟩ =>
    Calls.spliced_cons (thn (hf.run pins s2 st H2 _ I2 q2) fun fv s3 ⟨z, H3, I3, rz, kvs, k, b, ed, ey, eb, hl, q3, q4⟩ => Calls.spliced_nil ?_))))
  subst ey
  cases (show iv = Value.ref b from ry)
  exact d_setdT hu I3 ed eb hl rz (fun v w' s' hv rw' I' => ⟨v, H3, I', rw', q3 v hv⟩) fun hn s' I' => ⟨z, _, I', rz, q4 hn⟩
end

/-! ### {k: v for ..}, the keys tuples -/
theorem dt_dictSet {X : Cx} {pins : List (Addr × Obj)} {st : St} {H : Hp} {s : Shared} {E : Value → Shared → Prop} {D b : Addr} {kvs : List (List Key × V)} {k : List Key} {v : V} {r : Value} {Q : Unit → Shared → Prop} (hu : X.A.units + 1 < cLine) (I : Inv X pins st H s) (hD : H D = some (.dT kvs)) (hz : kvs.length < sizeLine)
    (hb : H b = some (.tup (k.map kV))) (rv : RelV v r) (h : ∀ s', Inv X pins st (upd H D (.dT (putK kvs k v))) s' → Q () s') : wpAny (model X.prog X.w) X.A (dictSet D (.ref b) r) Q E s := by
  obtain ⟨z, hd, xs, rel, dd⟩ := dt_of I.hok hD
  have hz' : xs.length ≤ sizeLine := Nat.le_trans (Nat.le_of_eq (Paired.length rel).symm) z
  have hl : (putK kvs k v).length ≤ sizeLine := by
    have q := length_putK kvs k v
    omega
  refine wpAny_dictSet_heap (hsz := hz') (show X.A.units < cLine by omega) (key_of I.hok hb) dd fun h' dd' hs => h _ ?_
  obtain ⟨o, es, ep, g1, g2, g3, g4, _, g5⟩ := dd'
  refine d_write I (by rw [hD]; exact True.intro) hs ⟨o, g1⟩ ⟨hl, hd, _, (rel.put k hb rv).keeps fun c ys ec => ?_, o, es, ep, g1, g2, g3, g4, g5⟩
  rw [upd_ne (ne_of ec hD fun z => nomatch z)]
  exact ec
section
variable {X : Cx}
def tDcT (wi : TI) (g : TG) (tt : TT) (tk tv : TE) (vs : List Nat) : TE := fun st H Q => wi st H fun J H1 => ∀ D, H1 D = none → ∃ W : Nat → Nat → Hp → Prop, (∃ m, W 0 m (upd H1 D (.dT []))) ∧ ∀ i m H, W i m H →
  (J.stop i H ∧ Q (.ref D) H) ∨ (J.go i H ∧ ∃ Nx : Hp → Prop, (∀ H', Nx H' → ∃ m', m' < m ∧ W (i + 1) m' H') ∧ ∀ x H', J.yld i H x H' → g x (wipe st vs) H' fun st2 H2 => wipe st2 vs = wipe st vs ∧ tt st2 H2 fun b H3 =>
    if b = true then tk st2 H3 fun y H4 => tv st2 H4 fun z H5 => ∃ kvs k c, y = .ref c ∧ H5 c = some (.tup (k.map kV)) ∧ H5 D = some (.dT kvs) ∧ kvs.length < sizeLine ∧ Nx (upd H5 D (.dT (putK kvs k z))) else Nx H3)
theorem dcT_core {pins : List (Addr × Obj)} {s : Shared} {st : St} {H : Hp} {Q : VK} {kx vx tg iter : Expr} {ifs : List Expr} {scope : Scope} {own : List (Str × Nat)} {pos pos' : Pos} {wi : TI} {g : TG} {tt : TT} {tk tv : TE} {use : Option (Value → Sem Unit)} {Qf : Value → Shared → Prop}
    (hu : X.A.units + 1 < cLine) (hc : X.calm = true) (hN : X.N.Nodup) (I : Inv X pins st H s) (hi : PI X tg iter wi) (ok : BlkOk X.N X.env.scope scope own)
    (hg : ∀ (s : Shared) (H : Hp) (C : Addr) (cl : List (Str × Addr)) (fp : List Addr), PG (X.blk s H scope (compEnvC scope cl C X.env) fp) tg g)
    (ht : ∀ (s : Shared) (H : Hp) (C : Addr) (cl : List (Str × Addr)) (fp : List Addr), PTs (X.blk s H scope (compEnvC scope cl C X.env) fp) ifs tt)
    (hk : ∀ (s : Shared) (H : Hp) (C : Addr) (cl : List (Str × Addr)) (fp : List
                                                                Addr), PE (X.blk s H scope (compEnvC scope cl C X.env) fp) kx tk)
    (hv : ∀ (s : Shared) (H : Hp) (C : Addr) (cl : List (Str × Addr)) (fp : List Addr), PE (X.blk s H scope (compEnvC scope cl C X.env) fp) vx tv) (hs : ∀ x, foldedSetIterable iter X.env x = pure x)
    (h : tDcT wi g tt tk tv (own.map (·.2)) st H Q)
    (hRR : ∀ D C s' m H', Inv X pins st H' s' → Q (.ref D) H' → s'.heap.Ns C m → FpOk X pins H' C → compPost (model X.prog X.w) X.A X.xe use Qf (.ref D) C (.ok .next) s') :
    wpAny (model X.prog X.w) X.A (comprehension (.DictComp kx vx [⟨tg, iter, ifs, 0⟩] scope
                                                                pos) scope X.env pos' newDict false (eval iter X.env) use) Qf X.xe s := by
  have free0 : ∀ y ∈ scope.names, y.2 = .free → ∃ c, X.env.cells.lookup y.1 = some c := fun y hy e => (ok.free y hy e).elim (fun k => I.ok.has _ (.inl k)) fun k => I.ok.has _ (.inr k)
  refine wpAny_comprehension_free (use := use) rfl hs (closure_ok free0) ok.kind (fun y hy e => by rw [ok.uniq y hy, e]) (thn (hi.run pins s st H _ I h) fun xv s1 hx => thn hx fun itv s2 h2 => ?_)
  obtain ⟨it, fp, tn, J, H2, e,
                                                              I2, T, st2, f2, q⟩ := h2
  subst e; refine wpAny_newObj_type (newEnv_comp ?_)
  generalize hD :
                                                              s2.heap.objs.size = D
  obtain ⟨W, ⟨m0, w0⟩, turn⟩ := q D (I2.hok.fresh (Nat.le_of_eq hD))
  generalize e3 : ({ s2 with heap := s2.heap.push { cls := .type "dict", data := .dict #[] } } : Shared) = s3
  have I3 : Inv X pins st (upd H2 D (.dT [])) s3 := by
    rw [← e3]; refine I2.laid (t' := s2.toks) (fun b o e => Heap.get?_push_of_some _ e) (Nat.le_of_eq hD) ?_
    rw [← hD]; exact dt_empty s2.heap I2.big
  have h3 : s3.heap = s2.heap.push { cls := .type "dict", data := .dict #[] } := by rw [← e3]
  have f3 : ∀ b ∈ fp, FpOk X pins (upd H2 D (.dT [])) b ∧ b < s3.heap.objs.size := fun b hb => by
    obtain ⟨o, e, _⟩ :=
                                                                T.obj _ _ st2 b hb
    have hlt : b < s2.heap.objs.size := Heap.lt_size e
    exact ⟨⟨by rw [upd_ne (by rw [← hD]; exact Nat.ne_of_lt hlt)]; exact (f2 b hb).1, (f2 b hb).2⟩, by rw [h3, Heap.size_push]; exact Nat.lt_succ_of_lt hlt⟩
  have st3 : tn 0 s3.heap := T.keep _ _ _ st2 fun b _ o e => by
    rw [h3]
    exact Heap.get?_push_of_some
                                                                _ e
  have I4 := block_start
                                                              I3 ok hN f3
  have pg := hg s3 (upd H2 D (.dT [])) s3.heap.objs.size (cellsFrom (s3.heap.objs.size + 1) scope.names (cloFrom X.env.cells scope.names [])) fp
  have pt := ht s3 (upd H2 D (.dT [])) s3.heap.objs.size (cellsFrom (s3.heap.objs.size + 1) scope.names (cloFrom X.env.cells scope.names [])) fp
  have pk := hk s3 (upd H2 D (.dT [])) s3.heap.objs.size (cellsFrom (s3.heap.objs.size + 1) scope.names (cloFrom X.env.cells scope.names [])) fp
  have pv := hv s3 (upd H2 D (.dT [])) s3.heap.objs.size (cellsFrom (s3.heap.objs.size + 1) scope.names (cloFrom X.env.cells scope.names [])) fp
  show codeAny (model X.prog X.w) X.A (.compStart (.DictComp kx vx [⟨tg, iter, ifs, 0⟩] scope pos) 0 (.ref it) (.ref D) (compEnvC scope (cellsFrom (s3.heap.objs.size + 1) scope.names (cloFrom X.env.cells scope.names [])) s3.heap.objs.size X.env)) (compPost (model X.prog X.w) X.A X.xe use Qf (.ref D) s3.heap.objs.size) { s3 with heap := pushCells (s3.heap.push { cls := .type "dict", data := .dict #[] }) scope.names }
  have nfp : ∀ b ∈ fp, (upd H2 D (.dT [])) b = none := fun b hb => (f3 b hb).1.1
  generalize ece : compEnvC scope (cellsFrom (s3.heap.objs.size + 1) scope.names (cloFrom X.env.cells scope.names [])) s3.heap.objs.size X.env = ce at I4 pg pt pk pv ⊢
  have cL : ce.locals = s3.heap.objs.size := by rw [← ece]; rfl
  generalize eH3 : upd H2 D (.dT []) = H3 at I3 I4 pg pt pk pv w0 nfp f3
  generalize e4 : ({ s3 with heap := pushCells (s3.heap.push { cls := .type "dict", data := .dict #[] }) scope.names } : Shared) = s4 at I4 ⊢
  have st4 : tn 0 s4.heap := T.keep _ _ _ st3 fun b _ o e => by
    rw [← e4]
    exact pushCells_keeps _ _ _ _ (Heap.get?_push_of_some _ e)
  have stat : ∀ {st' : St} {H' : Hp} {s' : Shared}, Inv (X.blk s3 H3 scope ce fp) [] st' H' s' → (∀ b ∈ fp, H' b = none) → ∀ b ∈ fp, FpOk (X.blk s3 H3 scope ce fp) [] H' b := fun {st' H' s'} I' hn b hb =>
    ⟨hn b hb, (I'.ok.exf b hb).1, I'.ok.exfs b hb, .inl hb, fun x c e => (I'.ok.exf b hb).2 x c e, fun p hp => absurd (show p ∈ ([] : List (Addr × Obj)) ++ [] from hp) List.not_mem_nil⟩
  have loop : codeAny (model X.prog X.w) X.A (.compLoop (.DictComp kx vx [⟨tg, iter, ifs, 0⟩] scope pos) 0 (.ref it)
                                                              (.ref D) ce) (compPost (model X.prog X.w) X.A X.xe use Qf (.ref D) s3.heap.objs.size) s4 := by
    refine compLoop_anyD (fun n s' => ∃ i H', Inv (X.blk s3 H3 scope ce fp) [] (wipe st (own.map (·.2))) H' s' ∧ tn i s'.heap ∧ (∀ b ∈ fp, H' b = none) ∧ W i n H') ?_ m0 ⟨0, H3, I4, st4, nfp, w0⟩
    rintro n s5 ⟨i, H5,
                                                                I5, st5, n5, w5⟩
    rcases turn i n H5 w5 with ⟨stop,
                                                                qq⟩ | ⟨go, Nx, hNx, step⟩
    · refine thnF (T.done (X.blk s3 H3 scope ce fp) rfl rfl rfl hc i [] s5 _ H5 (fun _ _ => False) I5 (stat I5 n5) st5 stop) fun r s6 ⟨hr, I6⟩ => ?_
      subst hr
      have I7 : Inv X pins st H5 s6 := I3.call' (ch := fp) I6.os I6.base I6.hok I6.bare fun b hb => ⟨(f3 b hb).1.2.2.2.1, (f3 b hb).1.2.1, (f3 b hb).1.2.2.2.2.1, (f3 b hb).1.2.2.2.2.2⟩
      obtain ⟨m, hn, _⟩ := I6.loc
      have zf : H5 ce.locals = none := I6.free
      have hn : s6.heap.Ns
                                                                  ce.locals m := hn
      rw [cL] at hn zf
      exact hRR D s3.heap.objs.size s6 m H5 I7 qq hn (I3.fpOk (Nat.le_refl _) zf)
    · refine thnF (T.item (X.blk s3 H3 scope ce fp) rfl rfl rfl hc i [] s5 _ H5 (fun _ _ => False) I5 (stat I5 n5) st5 go) fun r s6 ⟨u, hr, h6⟩ => ?_
      subst hr
      refine thnF h6 fun _ s7 ⟨x, H7, I7, r7, y7, st7, n7⟩ => thnF (pg.run _ s7 _ H7 x u _ (I7.pinned (stat I7 n7) (T.obj _ _ st7)) r7 (step x H7 y7)) fun _ s8 ⟨st8, H8, I8, hw8, q8⟩ => ?_
      refine thnF (pt.run _ s8 st8 H8 _ I8 q8) fun b s9 ⟨H9, I9, q9⟩ => ?_
      have fin : ∀ {s' : Shared} {H' : Hp}, Inv (X.blk s3 H3 scope ce fp) ([] ++ pinsAt fp s7.heap) st8 H' s' → Nx H' → ∃ m, m < n ∧ ∃ i H', Inv (X.blk s3 H3 scope ce fp) [] (wipe st (own.map (·.2))) H' s' ∧ tn i s'.heap ∧ (∀ b ∈ fp, H' b = none) ∧ W i m H' := fun {s' H'} I' nx => by
        obtain ⟨m', hm, w'⟩
                                                                    := hNx H' nx
        have pin' : ∀ b ∈ fp, ∀ o, s7.heap.get? b = some o → s'.heap.get? b = some o ∧ H' b = none := fun b hb o e => ⟨(I'.pin (b, o) (List.mem_append_right _ (List.mem_append_right _ (mem_pinsAt hb e)))).1, (I'.pin (b, o) (List.mem_append_right _ (List.mem_append_right _ (mem_pinsAt hb e)))).2.1⟩
        refine ⟨m', hm, i + 1, H', (I'.unpinned (pins := [])).weak (by rw [← hw8, wipe_length]) (fun j v e => (wipe_some (by rw [hw8]; exact e : (wipe st8 (own.map (·.2)))[j]? = _)).1), T.keep _ _ _ st7 fun b hb o e => (pin' b hb o e).1, fun b hb => ?_, w'⟩
        obtain ⟨o, e, _⟩ :=
                                                                    T.obj _ _ st7 b hb
        exact (pin' b hb o e).2
      cases b with
      | false =>
        simp only [Bool.false_eq_true,
                                                                    if_false] at q9 ⊢
        exact fin I9 q9
      | true =>
        simp only [if_true] at q9 ⊢
        refine thnF (pk.run _ s9 st8 H9 _ I9 q9) fun z s10 ⟨yk, H10, I10, r10, q10⟩ => thnF (pv.run _ s10 st8 H10 _ I10 q10) fun z2 s11 ⟨yv, H11, I11, r11, kvs, k, c, ek, hc11, hD11, hz11, nx⟩ => ?_
        subst ek
        cases (show z = Value.ref c from r10)
        exact dt_dictSet (X := X.blk s3 H3 scope ce fp) hu I11 hD11 hz11 hc11 r11 fun s12 I12 => fin I12 nx
  exact codeAny_compStart_dict loop
                                                              (T.self X.A 0 _ _ _ st4 loop)
theorem pe_dcT {kx vx tg iter : Expr} {ifs : List Expr} {scope : Scope} {own : List (Str × Nat)} {pos : Pos} {wi : TI} {g : TG} {tt : TT} {tk tv : TE} (hu : X.A.units + 1 < cLine) (hc : X.calm = true) (hN : X.N.Nodup) (hi : PI X tg iter wi) (ok : BlkOk X.N X.env.scope scope own)
    (hg : ∀ (s : Shared) (H : Hp) (C : Addr) (cl : List (Str × Addr)) (fp : List Addr), PG (X.blk s H scope (compEnvC scope cl C X.env) fp) tg g)
    (ht : ∀ (s : Shared) (H : Hp) (C : Addr) (cl : List (Str × Addr)) (fp : List Addr), PTs (X.blk s H scope (compEnvC scope cl C X.env) fp) ifs tt)
    (hk : ∀ (s : Shared) (H : Hp) (C : Addr) (cl : List (Str × Addr)) (fp : List
                                                                Addr), PE (X.blk s H scope (compEnvC scope cl C X.env) fp) kx tk)
    (hv : ∀ (s : Shared) (H : Hp) (C : Addr) (cl : List (Str × Addr)) (fp : List Addr), PE (X.blk s H scope (compEnvC scope cl C X.env) fp) vx tv) (hs : ∀ x, foldedSetIterable iter X.env x = pure x := by intro _; rfl) :
    PE X (.DictComp kx vx [⟨tg, iter, ifs, 0⟩] scope pos) (tDcT wi g tt tk tv (own.map (·.2))) := by
  constructor
  intro pins s st H Q I h
  rw [arm_eval_DictComp]
  refine dcT_core hu hc hN I hi ok hg ht hk hv hs h fun D C s' m H' I' q hn f => ⟨m, hn, fun h'' sb => ?_⟩
  obtain ⟨f0, f1, f2,
                                                              f3, f4, f5⟩ := f
  exact ⟨.ref D, H', I'.turned (t' := s'.toks) (fun b o hb e
                                                              => (sb.2 b hb).trans e) f0 f1 f3 f4 f5, rfl, q⟩
end

/-! ### sorted(d), the keys tuples of ints -/
def datI (ns : List Int) : PyData := .tuple (ns.map .int)
theorem reads_ints {h : Heap} : ∀ {us : List Value} {ns : List Int}, IntsAre us ns → ReadsAll h us (ns.map .int) []
  | [], [], _ => .nil
  | _ :: _, _ :: _, .cons i t r => .cons (.int i t) (reads_ints r)
theorem each_refs {vs : List Value} {bs : List (List Int)} (x : PySem.W.EachIs (fun v (_ : List Int) => ∃ c, v = Value.ref c) vs bs) : ∀ v ∈ vs, ∃ c, v = Value.ref c := by
  induction x with
  | nil => intro v hv; cases hv
  | cons h _ ih =>
    intro v hv
    rcases List.mem_cons.mp
                                                                hv with e | hv
    · rw [e]; exact h
    · exact ih v hv
theorem readsAll_len {h : Heap} {us : List Value} {ns : List Int} (r : IntsAre us ns) : ReadsAll h us (ns.map .int) [] := reads_ints r
section
variable {X : Cx}
theorem call_sortedDT (hcalm : X.calm = true) (hu : X.A.units + 8 < cLine) : CallR X (.builtin "sorted") (fun xs H Q => ∃ (a : Addr) (kvs : List (List Key × V)) (ks : List (List Int)), xs = [.ref a] ∧ Rd H a (.dT kvs) ∧ kvs.map (·.1) = ks.map (fun k => k.map Sum.inl) ∧ (∀ k ∈ ks, k ≠ []) ∧
    ∀ (ys : List V) (p : Addr), H p = none → Q (.ref p) (upd H p (.lst ys))) := by
  intro pins s st H xs us Q I r q
  obtain ⟨a, kvs, ks, ex, hd, hks, hne, q⟩ := q
  subst ex
  obtain ⟨u, eu, rx⟩ := vals1 r
  subst eu; cases rx
  obtain ⟨z, lo, tk0, pr, o, es, ep, ho, hx, hdt, he, hn⟩ := (show ObjOk X.prog X.w H s.heap a (.dT kvs) from hd.ok I.hok)
  have l1 : es.size = tk0.length := size_of_entries he
  have l2 : kvs.length = tk0.length := Paired.length pr
  refine Calls.call_function_entry kind_sorted
                                                              plain_sorted entry_sorted (args_sorted1 _) ?_
  unfold Builtin.«sorted»
  refine wpAny_bind (m := checkCount
                                                              "sorted" 1 1 _) (wpAny_pure ?_)
  refine wpAny_bind (PySem.W.kdu_collect (A := X.A.in1) (kdl_raw lo hx hdt) (I.ok.hd hcalm) ho (by omega) fun h' tk acc hk hacc => ?_)
  -- what was collected
  have each : PySem.W.EachIs (fun v b => (∃ c, v = Value.ref c) ∧ ∃ as, Reads h' v (datI b) as ∧ h'.objs.size ∉ as ∧ ∀ b' o, s.heap.get? b' = some o → True) acc.toList ks := by
    have hl : acc.toList.length = ks.length := by
      have e1 := congrArg List.length hks
      rw [List.length_map,
                                                                  List.length_map] at e1
      rw [Array.length_toList, hacc.1]; omega
    have at0 : ∀ (j : Nat) (v : Value), acc.toList[j]? = some v → ∃ k c, ks[j]? = some k ∧ v = Value.ref c ∧ H c = some (.tup ((k.map Sum.inl).map kV)) := fun j v hj => by
      obtain ⟨en, hen, hv⟩ := hacc.2 j v (by rw [← Array.getElem?_toList]; exact hj)
      have qe := entry_at he j
      rw [hen] at qe
      cases hb : tk0[j]? with
      | none => rw [hb] at qe; exact nomatch (show some en = none from qe)
      | some b =>
        rw [hb] at qe
        have e2 : en = entryOfKey (tupleKind (mixKind
                                                                    X.prog X.w)) b := Option.some.inj qe
        obtain ⟨p, hp, h1, h2, h3⟩ := Paired.get2 pr hb
        have e3 : (kvs.map (·.1))[j]? = some p.1 := by rw [List.getElem?_map, hp]; rfl
        rw [hks, List.getElem?_map] at e3
        cases e4 : ks[j]? with
        | none => rw [e4]
                                                                    at e3; cases e3
        | some k =>
          rw [e4] at e3
          have e5 : k.map Sum.inl = p.1 := Option.some.inj e3
          exact ⟨k, b.2.1, rfl, by rw [hv, e2]; rfl, by rw [e5]; exact h2⟩
    revert hl at0
    generalize acc.toList = vs
    intro hl at0
    clear hks hne
    induction vs generalizing ks with
    | nil =>
      cases ks with
      | nil => exact .nil
      | cons _ _ => cases hl
    | cons v vs ih =>
      cases ks with
      | nil => cases hl
      | cons k ks =>
        refine .cons ?_ (ih ks (by simpa using hl) fun j w hj => at0 (j + 1) w hj)
        obtain ⟨k', c, e1, e2, e3⟩ := at0 0 v rfl
        cases e1
        obtain ⟨_, its, rv, o', g1, g2, n, g3⟩ := (show ObjOk X.prog X.w H s.heap c (.tup ((k.map Sum.inl).map kV)) from I.hok c _ e3)
        have rv' : Vals (k.map V.int) its := by
          have e9 : (k.map Sum.inl).map kV = k.map V.int := by rw [List.map_map]; rfl
          rw [e9] at rv; exact rv
        refine ⟨⟨c, e2⟩, [], ?_, List.not_mem_nil, fun _ _ _ => True.intro⟩
        rw [e2]
        exact .tuple (hk _ _ g1) g2 g3 (by simpa using reads_ints rv'.ints)
  have hal : acc.toList.length = ks.length := each.length
  have hkl : ks.length ≤ sizeLine := by
    have e1 := congrArg List.length hks
    rw [List.length_map,
                                                                List.length_map] at e1
    omega
  have I1 : Inv X pins st H { s with heap := h', toks := tk } := I.kept hk
  refine wpAny_bind (wpAny_newList ?_ (by rw [hal]; exact hkl))
  have hoL : (h'.push (seqObj "list" acc.toList.toArray 0)).get? h'.objs.size = some
                                                              (seqObj "list" acc.toList.toArray 0) := Heap.get?_push_size _ rfl
  show wpAny _ _ _ _ _ { s with heap := h'.push (seqObj
                                                              "list" acc.toList.toArray 0), toks := tk }
  have imp : ∀ {R S : Value → List Int → Prop} {vs : List Value} {bs : List (List Int)}, PySem.W.EachIs R vs bs → (∀ v b, R v b → S v b) → PySem.W.EachIs S vs bs := by
    intro R S vs bs x f
    induction x with
    | nil => exact .nil
    | cons a _ ih => exact .cons (f _ _ a) ih
  refine wpAny_bind (wpAny_holding (PySem.W.list_sort_data (A := X.A.in1) (R := fun v (_ : List Int) => ∃ c, v = Value.ref c) (enc := datI) (bs := ks) hoL (imp each fun v b h => h.1) (imp each fun v b h => ?_) (PySem.W.AllAlike.of fun b b' => ?_) (.inl fun d hd' => ?_) hkl (fun b _ => ?_) fun out hlen hout => ?_))
  · obtain ⟨_, as, h1, h2, _⟩ := h
    exact ⟨as, Reads.keeps (fun b' o e => Heap.get?_push_of_some _ e) h1, h2⟩
  · show PySem.W.alikeAll (b.map .int) (b'.map .int) = true
    exact PySem.W.alike_ints b b'
  · obtain ⟨k, hk', rfl⟩ := List.mem_map.mp hd'
    cases k with
    | nil => exact absurd rfl (hne _ hk')
    | cons x r => exact ⟨.int x, r.map .int, rfl⟩
  · show X.A.units + 1 + 1 + (PyData.depthAll (b.map .int) + 1) < cLine
    rw [PySem.W.depth_ints]
    omega
  · obtain ⟨e', he'⟩ := PyProof.Rows.sortedHeap_at (vs := acc.toList) (out := out.toArray) hoL
    have refs := each_refs hout
    refine wpAny_pure ⟨_, rfl, .ref h'.objs.size, upd H h'.objs.size (.lst (out.map bkV)), I1.laid (t' := tk) (fun b u e => ?_) (Nat.le_refl _) ⟨by rw [List.length_map, hlen]; exact hkl, out, e', bkV_vals refs, he'⟩, rfl, q _ _ (I1.hok.fresh (Nat.le_refl _))⟩
    have hb : b < h'.objs.size
                                                                := Heap.lt_size e
    rw [PyProof.Rows.sortedHeap_old (Nat.ne_of_lt hb) (by
                                                                rw [size_push']; exact Nat.lt_succ_of_lt hb)]
    exact Heap.get?_push_of_some
                                                                _ e
end
end L2.KR
namespace L2.KR
open PySem PySem.Spec PyProof.Rows K53

/-! ### a dict of which the keys are of any shape, asked for tuples alone -/
abbrev NE := NestedKey × Value × Value
def entN (w : World) (x : NE) : DictEntry := ⟨x.1.hash w, x.2.1, x.2.2⟩
def putN (xs : List NE) (k : NestedKey) (u v : Value) : List NE := if k ∈ xs.map (·.1) then xs.map (fun x => if x.1 = k then (x.1, x.2.1, v) else x) else xs ++ [(k, u, v)]
section
variable {prog : Program} {w : World} {A : Around} {E
                                                            : Value → Shared → Prop} {s : Shared}
theorem nd_at {es : Array DictEntry} {xs : List NE} (he : es.toList = xs.map (entN w)) (j : Nat) : es[j]? = (xs[j]?).map (entN w) := by
  rw [← Array.getElem?_toList, he]
  exact List.getElem?_map
theorem nd_size {es : Array DictEntry} {xs : List NE} (he : es.toList = xs.map (entN w)) : es.size = xs.length := by
  have q := congrArg List.length he
  rw [List.length_map] at q
  exact q
theorem nd_quiet {a : Addr} {k : NestedKey} {l : List Value} {Q : Bool → Shared → Prop} (hk : NestedIs s.heap k (.ref a)) (h8 : k.depth ≤ 8) (hl : ∀ v ∈ l, ∃ k', NestedIs s.heap k' v ∧ k'.depth ≤ 8) (h : Q false s) :
    wpAny (model prog w) A (tableMayTell (.ref a) l) Q E s := by
  unfold tableMayTell
  split
  · exact wpAny_pure h
  refine wpAny_bind (quiet_key k _ 8 s hk h8 _ _ _ ?_)
  simp only [Bool.not_true,
                                                              Bool.false_eq_true, if_false]
  refine wpAny_bind (wpAny_forIn_list _ (fun rest r s' => s' = s ∧ r = (none, ()) ∧ ∀ v ∈ rest, ∃ k', NestedIs s.heap k' v ∧ k'.depth ≤ 8) _ ?_ ?_ _ _ ⟨rfl, rfl, hl⟩)
  · rintro x rest r s'
                                                              ⟨rfl, rfl, hr⟩
    obtain ⟨k', h1, h2⟩ := hr x List.mem_cons_self
    refine wpAny_bind (quiet_key k' _ 8 _ h1 h2 _ _ _ ?_)
    simp only [Bool.not_true,
                                                                Bool.false_eq_true, if_false]
    exact wpAny_pure ⟨rfl, rfl, fun v hv =>
                                                                hr v (List.mem_cons_of_mem _ hv)⟩
  · rintro r s' ⟨rfl, rfl, _⟩
    exact wpAny_pure h
theorem nd_unique {xs : List NE} (hn : (xs.map (·.1)).Nodup) {i j : Nat} {k : NestedKey} {p q : Value × Value} (hi : xs[i]? = some (k, p)) (hj : xs[j]? = some (k, q)) : i = j := by
  have h1 : (xs.map (·.1))[i]? = some k := by rw [List.getElem?_map, hi]; rfl
  have h2 : (xs.map (·.1))[j]? = some k := by rw [List.getElem?_map, hj]; rfl
  exact (List.getElem?_inj (List.getElem?_eq_some_iff.mp h1).1 hn).mp (h1.trans h2.symm)
theorem nd_find {d a : Addr} {o : Obj} {es : Array DictEntry} {ep : Nat} {xs : List NE} {k : NestedKey} {Q : Option Nat → Shared → Prop} (hu : A.units + 8 < cLine) (hk : NestedIs s.heap k (.ref a)) (h8 : k.depth ≤ 8)
    (ho : s.heap.get? d = some o) (hd : o.data = .dict es ep) (he : es.toList = xs.map (entN w)) (his : ∀ x ∈ xs, NestedIs s.heap x.1 x.2.1 ∧ x.1.depth ≤ 8) (hn : (xs.map (·.1)).Nodup)
    (hnone : (∀ (j : Nat) (p : Value × Value), xs[j]? ≠ some (k, p)) → Q none s) (hsome : ∀ (j : Nat) (p : Value × Value), xs[j]? = some (k, p) → Q (some j) s) :
    wpAny (model prog w) A (dictFind d (.ref a) (k.hash w)) Q E s := by
  have hsz := nd_size he
  generalize hpl : placesWithHash es.size (fun i => es[i]?.map (·.hash)) (k.hash w) = places
  have hasK : ∀ (j : Nat) (p : Value × Value), xs[j]? = some (k, p) → ((es[j]?.map (·.hash)) == some (k.hash w)) = true := fun j p hj => by
    rw [nd_at he j, hj]
    simp [entN]
  have hmem : ∀ e ∈ es, ∃ x ∈ xs, e = entN w x := fun e hin => by
    have q : e ∈ xs.map (entN w) := he ▸ Array.mem_toList_iff.mpr hin
    obtain ⟨x, hx, e2⟩ := List.mem_map.mp q
    exact ⟨x, hx, e2.symm⟩
  have hany : ¬ (es.any fun e => e.key == Value.ref a && e.hash != k.hash w) = true := fun c => by
    rw [← Array.any_toList, List.any_eq_true] at c
    obtain ⟨e, hin, hc⟩ := c
    obtain ⟨x, hx, rfl⟩ := hmem e
                                                                (Array.mem_toList_iff.mp hin)
    rw [Bool.and_eq_true] at hc
    have e1 : x.2.1 = Value.ref a := eq_of_beq hc.1
    have e2 := (his x hx).1
    rw [e1] at e2
    have e3 := NestedIs.inj _ _ _ e2 hk
    have e4 : ((entN w x).hash != k.hash w) = false := by
      show (x.1.hash w != k.hash w) = false
      rw [e3]
      simp
    rw [e4] at hc
    exact Bool.noConfusion hc.2
  have hst : ∀ v ∈ places.filterMap (fun i => es[i]?.map (·.key)), ∃ k', NestedIs s.heap k' v ∧ k'.depth ≤ 8 := fun v hv => by
    obtain ⟨i, _, hi⟩ :=
                                                                List.mem_filterMap.mp hv
    cases hei : es[i]? with
    | none => rw [hei]
                                                                at hi; cases hi
    | some e =>
      rw [hei] at hi
      have e1 : e.key = v := Option.some.inj hi
      obtain ⟨x, hx, e2⟩ := hmem e (Array.mem_of_getElem? hei)
      rw [← e1, e2]
      exact ⟨x.1, his x hx⟩
  unfold dictFind
  try with_reducible refine
                                                              wpAny_holding ?_
  refine wpAny_bind
                                                              (wpAny_dictEntries ho hd ?_)
  dsimp only
  rw [hpl, if_neg (show ¬ ((Value.ref a :: places.filterMap (fun i => es[i]?.map (·.key))).all carriedByValue) = true by simp [carriedByValue]), if_neg hany]
  by_cases hone : (places.filterMap (fun i => es[i]?.map (·.key)) == [Value.ref a]) = true
  rw [if_pos hone]
  refine wpAny_bind
                                                              (wpAny_pure ?_)
  rotate_left
  rw [if_neg hone]
  refine wpAny_bind (nd_quiet hk h8 hst ?_)
  all_goals
    rw [if_neg (by simp)]
    refine wpAny_bind ?_
    refine wpAny_forIn_list _
      (fun rest b s' => s' = s ∧ ∃ i hit, b = (none, hit) ∧ rest = (List.range' i (es.size - i)).filter (fun i => (es[i]?.map (·.hash)) == some (k.hash w)) ∧ i ≤ es.size ∧
        ((hit = none ∧ ∀ j p, j < i → xs[j]? ≠ some (k, p)) ∨ ∃ j p, hit
                                                                    = some j ∧ j < i ∧ xs[j]? = some (k, p))) _ ?_ ?_ _ _
      ⟨rfl, 0, none, rfl, by rw [← hpl, placesWithHash, List.range_eq_range', Nat.sub_zero], Nat.zero_le _, .inl ⟨rfl, fun _ _ h => absurd h (Nat.not_lt_zero _)⟩⟩
    · rintro x rest b s' ⟨rfl, i,
                                                                hit, rfl, hr, hi, hH⟩
      obtain ⟨hix, hxn, hpx, hskip, hrest⟩ :=
                                                                  filter_range'_cons _ _ _ _ _ hr.symm
      have hlt : x < es.size
                                                                  := by omega
      have hrest' : rest = (List.range' (x + 1) (es.size - (x + 1))).filter (fun i => (es[i]?.map (·.hash)) == some (k.hash w)) := by
        rw [hrest]
        congr 2
        omega
      obtain ⟨⟨k', u', v'⟩, hkv⟩ : ∃ y, xs[x]? = some y := ⟨xs[x]'(by rw [← hsz]; exact hlt), List.getElem?_eq_getElem _⟩
      obtain ⟨hib, hi8⟩ := his _ (List.mem_of_getElem? hkv)
      have hex : es[x]? = some ⟨k'.hash w, u', v'⟩ := by
        rw [nd_at he x, hkv]
        rfl
      have hHx : (hit = none ∧ ∀ j p, j < x → xs[j]? ≠ some (k, p)) ∨ ∃
                                                                  j p, hit = some j ∧ j < x ∧ xs[j]? = some (k, p) := by
        rcases hH with ⟨h0, hno⟩ |
                                                                    ⟨j, p, h1, hji, hj⟩
        · refine .inl ⟨h0, fun
                                                                    j p hjx hj => ?_⟩
          rcases Nat.lt_or_ge j i with g | g
          · exact hno j p g hj
          · have z := hskip j g hjx
            rw [hasK j p hj] at z
            exact Bool.noConfusion z
        · exact .inr ⟨j, p,
                                                                    h1, by omega, hj⟩
      have stay : ¬ k' = k → ((hit = none ∧ ∀ j p, j < x + 1 → xs[j]? ≠ some (k, p)) ∨ ∃ j p, hit = some j ∧ j < x + 1 ∧ xs[j]? = some (k, p)) := fun hne => by
        rcases hHx with ⟨h0, hno⟩ |
                                                                    ⟨j, p, h1, hjx, hj⟩
        · refine .inl ⟨h0, fun
                                                                    j p hjx hj => ?_⟩
          rcases Nat.lt_or_ge j x with g | g
          · exact hno j p g hj
          · have e : j = x := by omega
            subst e
            rw [hkv] at hj
            exact hne (congrArg Prod.fst (Option.some.inj hj))
        · exact .inr ⟨j, p,
                                                                    h1, by omega, hj⟩
      rw [hex]
      dsimp only
      by_cases hh : (k'.hash w == k.hash w) = true
      · rw [if_pos hh]
        refine wpAny_bind (wpAny_dictEpoch ho hd (wpAny_bind (eqAt_key k' k A _ _ _ hib hk (by omega) _ _ _ _ (wpAny_bind (wpAny_dictEpoch ho hd ?_)))))
        rw [if_neg (show ¬ (ep != ep) = true by simp)]
        by_cases hkk : k' = k
        · subst hkk
          rw [NestedKey.beq_self]
          rcases hHx with ⟨rfl, _⟩ |
                                                                      ⟨j, p, _, hjx, hj⟩
          · first | rw [if_pos
                                                                      rfl] | skip
            simp only [Option.isSome_none,
                                                                        Bool.false_eq_true, if_false]
            first | refine wpAny_bind
                                                                        (wpAny_pure ?_) | skip
            refine wpAny_bind
                                                                        (wpAny_rule ?_)
            split
            · exact wpAny_pure (wpAny_pure
                                                                        (hsome x _ hkv))
            · exact wpAny_pure ⟨rfl, x + 1, some x, rfl, hrest', hlt,
                                                                        .inr ⟨x, _, rfl, Nat.lt_succ_self x, hkv⟩⟩
          · exact absurd (nd_unique hn hj hkv) (by omega)
        · have hb : NestedKey.beq k' k = false := by
            rw [← NestedKey.decide_eq]
            exact decide_eq_false hkk
          rw [hb]
          simp only [Bool.false_eq_true,
                                                                      if_false]
          refine wpAny_bind
                                                                      (wpAny_rule ?_)
          first | rw [if_neg
                                                                      (by simp)] | skip
          first
            | exact wpAny_pure ⟨rfl, x + 1, hit, rfl, hrest', hlt, stay hkk⟩
            | exact wpAny_bind (wpAny_pure (wpAny_pure ⟨rfl, x + 1, hit, rfl, hrest', hlt, stay hkk⟩))
      · rw [if_neg hh]
        refine wpAny_pure ⟨rfl, x + 1, hit, rfl, hrest', hlt, stay fun hkk => ?_⟩
        rw [hkk] at hh
        simp at hh
    · rintro b s' ⟨rfl, i,
                                                                hit, rfl, hr, hi, hH⟩
      have hall : ∀ j, i ≤ j → j < es.size → ((es[j]?.map (·.hash)) == some (k.hash w)) = false := fun j h1 h2 => by
        have z := List.filter_eq_nil_iff.mp hr.symm j (List.mem_range'_1.mpr ⟨h1, by omega⟩)
        simpa using z
      rcases hH with ⟨rfl, hno⟩ |
                                                                  ⟨j, p, rfl, _, hj⟩
      · refine wpAny_pure (hnone
                                                                  fun j p hj => ?_)
        rcases Nat.lt_or_ge j i with g | g
        · exact hno j p g hj
        · have hjl : j <
                                                                    es.size := by
            rw [hsz]
            exact (List.getElem?_eq_some_iff.mp hj).1
          have z := hall j g hjl
          rw [hasK j p hj] at z
          exact Bool.noConfusion z
      · exact wpAny_pure (hsome j p hj)

structure NdR (w : World) (h : Heap) (d : Addr) (xs : List NE) : Prop where
  ob : ∃ o es ep, h.get? d = some o ∧ o.ExactDict ∧ o.data = .dict es ep ∧ es.toList = xs.map (entN w)
  nd : (xs.map (·.1)).Nodup
def KeysR (h : Heap) (xs : List NE) : Prop := ∀ x ∈ xs, NestedIs h x.1 x.2.1 ∧ x.1.depth ≤ 8
theorem NdR.typeIs {d : Addr} {xs : List NE} (R : NdR w s.heap d xs) : s.TypeIs (.ref d) "dict" := by
  obtain ⟨o, _, _, ho, hc, _⟩ := R.ob
  exact ⟨o, ho, hc.1⟩
theorem nd_get {d a : Addr} {xs : List NE} {k : NestedKey} {Q : Option Value → Shared → Prop} (hu : A.units + 8 < cLine) (hk : NestedIs s.heap k (.ref a)) (h8 : k.depth ≤ 8) (R : NdR w s.heap d xs) (his : KeysR s.heap xs)
    (hnone : k ∉ xs.map (·.1) → Q none { s with toks := s.toks + k.draws }) (hsome : ∀ p, (k, p) ∈ xs → Q (some p.2) { s with toks := s.toks + k.draws }) : wpAny (model prog w) A (dictGet d (.ref a)) Q E s := by
  obtain ⟨⟨o, es, ep, ho, _, hd, he⟩, hn⟩ := R
  unfold dictGet
  try with_reducible refine
                                                              wpAny_holding ?_
  refine wpAny_bind (pyHash_key k _ _ _ _ hk (by omega) (wpAny_bind (nd_find (s := { s with toks := s.toks + k.draws }) hu hk h8 ho hd he his hn (fun hno => ?_) fun j p hj => ?_)))
  · refine wpAny_pure (hnone fun hm => ?_)
    obtain ⟨x, hx, rfl⟩ :=
                                                                List.mem_map.mp hm
    obtain ⟨j, hj⟩ :=
                                                                List.mem_iff_getElem?.mp hx
    exact hno j x.2 hj
  · refine wpAny_bind (wpAny_dictEntries (s := { s with toks := s.toks + k.draws }) ho hd ?_)
    rw [nd_at he j, hj]
    exact wpAny_pure (hsome p (List.mem_of_getElem? hj))
theorem keys_put {xs : List NE} {k : NestedKey} {v : Value} : (xs.map (fun x => if x.1 = k then (x.1, x.2.1, v) else x)).map (·.1) = xs.map (·.1) := by
  rw [List.map_map]
  refine List.map_congr_left
                                                              fun x _ => ?_
  show (if x.1 = k then (x.1, x.2.1, v) else x).1 = x.1
  split <;> rfl
theorem modify_at {es : Array DictEntry} {xs : List NE} {k : NestedKey} {v : Value} (he : es.toList = xs.map (entN w)) (hn : (xs.map (·.1)).Nodup) {j : Nat} {p : Value × Value} (hj : xs[j]? = some (k, p)) :
    (es.modify j fun e => { e with val := v }).toList = (xs.map (fun x => if x.1 = k then (x.1, x.2.1, v) else x)).map (entN w) := by
  refine List.ext_getElem? fun i => ?_
  rw [Array.getElem?_toList, Array.getElem?_modify, nd_at he i, List.getElem?_map, List.getElem?_map]
  cases hi : xs[i]? with
  | none => simp
  | some x =>
    by_cases e : j = i
    · subst e
      rw [hj] at hi
      cases hi
      simp [entN]
    · have ne : ¬ x.1 = k := fun z => by
        obtain ⟨x1, x2⟩ := x
        cases z
        exact e (nd_unique hn hj hi)
      simp [e, ne]
theorem nd_set {d a : Addr} {xs : List NE} {k : NestedKey} {v : Value} {Q : Unit → Shared → Prop} (hu : A.units + 8 < cLine) (hk : NestedIs s.heap k (.ref a)) (h8 : k.depth ≤ 8) (R : NdR w s.heap d xs) (his : KeysR s.heap xs)
    (hsz : xs.length ≤ sizeLine) (hQ : ∀ h', NdR w h' d (putN xs k (.ref a) v) → Heap.SameBut d s.heap h' → Q () { s with heap := h', toks := s.toks + k.draws }) : wpAny (model prog w) A (dictSet d (.ref a) v) Q E s := by
  obtain ⟨⟨o, es, ep, ho, hc, hd, he⟩, hn⟩ := R
  unfold dictSet
  try with_reducible refine
                                                              wpAny_holding ?_
  refine wpAny_bind (pyHash_key k _ _ _ _ hk (by omega) ?_)
  unfold dictSetHashed
  try with_reducible refine
                                                              wpAny_holding ?_
  refine wpAny_bind (nd_find (s := { s with toks := s.toks + k.draws }) hu hk h8 ho hd he his hn (fun hno => ?_) fun j p hj => ?_)
  · have hnot : k ∉ xs.map (·.1) := fun hm => by
      obtain ⟨x, hx, rfl⟩ :=
                                                                  List.mem_map.mp hm
      obtain ⟨j, hj⟩ :=
                                                                  List.mem_iff_getElem?.mp hx
      exact hno j x.2 hj
    refine wpAny_bind (wpAny_rule (wpAny_updateDictKeys (hz := by have e := nd_size he; omega) (s := { s with toks := s.toks + k.draws }) ho hd (hQ _ ⟨⟨_, _, ep + 1, Heap.get?_update_self _ ho (Obj.isFreed_of_dict (Obj.data_mapDictKeys hd _)), hc.mapDictKeys _, Obj.data_mapDictKeys hd _, ?_⟩, ?_⟩ (Heap.SameBut.update ..))))
    · unfold putN
      rw [if_neg hnot]
      simp [he, entN]
    · unfold putN
      rw [if_neg hnot, List.map_append, List.nodup_append]
      refine ⟨hn, by simp, fun x hx y hy e => ?_⟩
      simp only [List.map_cons, List.map_nil,
                                                                  List.mem_singleton] at hy
      exact hnot (by rw [← hy, ← e]; exact hx)
  · have hin : k ∈ xs.map (·.1) := List.mem_map.mpr ⟨_, List.mem_of_getElem? hj, rfl⟩
    refine wpAny_bind (wpAny_rule (wpAny_bind (wpAny_updateDict (s := { s with toks := s.toks + k.draws }) ho hd (wpAny_point (hQ _ ⟨⟨_, _, ep, Heap.get?_update_self _ ho (Obj.isFreed_of_dict (Obj.data_mapDict hd _)), hc.mapDict _, Obj.data_mapDict hd _, ?_⟩, ?_⟩ (Heap.SameBut.update ..))))))
    · unfold putN
      rw [if_pos hin]
      exact modify_at he hn hj
    · unfold putN
      rw [if_pos hin, keys_put]
      exact hn
theorem nd_contains {d a : Addr} {xs : List NE} {k : NestedKey} {Q : Bool → Shared → Prop} (hu : A.units + 9 < cLine) (hk : NestedIs s.heap k (.ref a)) (h8 : k.depth ≤ 8) (hs : (d == sysModules) = false) (R : NdR w s.heap d xs) (his : KeysR s.heap xs)
    (hnone : k ∉ xs.map (·.1) → Q false { s with toks := s.toks + k.draws }) (hsome : ∀ p, (k, p) ∈ xs → Q true { s with toks := s.toks + k.draws }) : wpAny (model prog w) A (contains (.ref d) (.ref a)) Q E s := by
  unfold contains
  try with_reducible refine
                                                              wpAny_holding ?_
  refine wpAny_bind (wpAny_specialOf R.typeIs slot_dict_contains.lookup ?_)
  rw [if_neg (show ¬ (some (Value.builtin "dict.__contains__") == some Value.none) = true by rw [beq_builtin_none]; exact Bool.false_ne_true)]
  refine wpAny_bind (wpAny_callSpecialUnlessNone?_slot (name := Str.ofString "__contains__") R.typeIs slot_dict_contains (wpAny_call_entry slot_dict_contains R.typeIs entry_dict_contains ?_ (args_dict_contains _ _)))
  show wpAny _ _ (dictGet d
                                                              (.ref a) >>= _) _ _ s
  refine wpAny_bind (nd_get (A := A.in1) (show A.units + 1 + 8 < cLine by omega) hk h8 R his (fun hm => ?_) fun p hp => ?_)
  · exact wpAny_bind (wpAny_pendingKey_other hs (wpAny_pure ⟨_, rfl, wpAny_truthy_bool (hnone hm)⟩))
  · exact wpAny_pure ⟨_, rfl, wpAny_truthy_bool (hsome p hp)⟩
theorem nd_getItem {d a : Addr} {xs : List NE} {k : NestedKey} {Q : Value → Shared → Prop} (hu : A.units + 9 < cLine) (hk : NestedIs s.heap k (.ref a)) (h8 : k.depth ≤ 8) (R : NdR w s.heap d xs) (his : KeysR s.heap xs)
    (hin : k ∈ xs.map (·.1)) (hsome : ∀ p, (k, p) ∈ xs → Q p.2 { s with toks := s.toks + k.draws }) : wpAny (model prog w) A (getItem (.ref d) (.ref a)) Q E s := by
  unfold getItem
  try with_reducible refine
                                                              wpAny_holding ?_
  refine wpAny_bind (wpAny_sequenceKey R.typeIs (by decide) ?_)
  refine wpAny_bind (wpAny_callSpecial?_slot (name := Str.ofString "__getitem__") R.typeIs slot_dict_getitem (wpAny_call_entry slot_dict_getitem R.typeIs entry_dict_getitem ?_ (args_dict_getitem _ _)))
  show wpAny _ _ (dictGet d
                                                              (.ref a) >>= _) _ _ s
  refine wpAny_bind (nd_get (A := A.in1) (show A.units + 1 + 8 < cLine by omega) hk h8 R his (fun hm => absurd hin hm) fun p hp => ?_)
  exact wpAny_pure ⟨p.2, rfl, wpAny_pure (hsome p hp)⟩
theorem nd_setItem {d a : Addr} {xs : List NE} {k : NestedKey} {v : Value} {Q : Unit → Shared → Prop} (hu : A.units + 9 < cLine) (hk : NestedIs s.heap k (.ref a)) (h8 : k.depth ≤ 8) (R : NdR w s.heap d xs) (his : KeysR s.heap xs)
    (hsz : xs.length ≤ sizeLine) (hQ : ∀ h', NdR w h' d (putN xs k (.ref a) v) → Heap.SameBut d s.heap h' → Q () { s with heap := h', toks := s.toks + k.draws }) : wpAny (model prog w) A (setItem (.ref d) (.ref a) v) Q E s := by
  unfold setItem
  try with_reducible refine
                                                              wpAny_holding ?_
  refine wpAny_bind (wpAny_sequenceKey R.typeIs (by decide) ?_)
  refine wpAny_bind (wpAny_callSpecial?_slot (name := Str.ofString "__setitem__") R.typeIs slot_dict_setitem (wpAny_call_entry slot_dict_setitem R.typeIs entry_dict_setitem ?_ (args_dict_setitem _ _ _)))
  show wpAny _ _ (Builtin.Dict.notOrdered "__setitem__"
                                                              ⟨[.ref d, .ref a, v], []⟩ >>= _) _ _ s
  refine wpAny_bind (wpAny_notOrdered_dict R.typeIs ?_)
  show wpAny _ _ (dictSet d
                                                              (.ref a) v >>= _) _ _ s
  exact wpAny_bind (nd_set (A := A.in1) (show A.units + 1 + 8 < cLine by omega) hk h8 R his hsz fun h' R' hs' => wpAny_pure ⟨.none, rfl, wpAny_pure (hQ h' R' hs')⟩)
end

/-! ### said of the abstract heap -/
mutual
inductive KIs (H : Hp) : NestedKey → V → Prop
  | num (i : Int) : KIs H (.num i) (.int i)
  | text (x : Str) : KIs H (.text x) (.str x)
  | tup {a : Addr} {xs : List V} {ks : List NestedKey} : H a = some (.tup xs) → KAll H ks xs → KIs H (.tup ks) (.ref a)
inductive KAll (H : Hp) : List NestedKey → List V → Prop
  | nil : KAll H [] []
  | cons {k : NestedKey} {v : V} {ks : List NestedKey} {vs : List V} : KIs H k v → KAll H ks vs → KAll H (k :: ks) (v :: vs)
end
mutual
theorem KIs.mono {H H' : Hp} (m : ∀ a xs, H a = some (.tup xs) → H' a = some (.tup xs)) : ∀ {k : NestedKey} {v : V}, KIs H k v → KIs H' k v
  | _, _, .num i => .num i
  | _, _, .text x => .text x
  | _, _, .tup h t => .tup (m _ _ h) (KAll.mono m t)
theorem KAll.mono {H H' : Hp} (m : ∀ a xs, H a = some (.tup xs) → H' a = some (.tup xs)) : ∀ {ks : List NestedKey} {vs : List V}, KAll H ks vs → KAll H' ks vs
  | _, _, .nil => .nil
  | _, _, .cons h t => .cons (KIs.mono m h) (KAll.mono m t)
end
mutual
theorem KIs.raw {P : Program} {w : World} {H : Hp} {h : Heap} (ok : HOk P w H h) : ∀ {k : NestedKey} {v : V} {u : Value}, KIs H k v → RelV v u → NestedIs h k u
  | _, _, _, .num i, r => by
    obtain ⟨t, e⟩ := (show ∃ t, _ = Value.int i t from r)
    rw [e]
    exact .int i t
  | _, _, _, .text x, r => by
    obtain ⟨t, e⟩ := (show ∃ t, _ = Value.str x t from r)
    rw [e]
    exact .text x t
  | _, _, _, .tup (a := a) (xs := xs) e t, r => by
    cases (show _ = Value.ref a from r)
    obtain ⟨_, its, rv, o, g1, g2, n, g3⟩ := (show ObjOk P w H h a (.tup xs) from ok a _ e)
    exact .tup g1 g2 g3 (by simpa using KAll.raw ok t rv)
theorem KAll.raw {P : Program} {w : World} {H : Hp} {h : Heap} (ok : HOk P w H h) : ∀ {ks : List NestedKey} {vs : List V} {us : List Value}, KAll H ks vs → Vals vs us → NestedAll h ks us
  | _, _, _, .nil, r => by cases r; exact .nil
  | _, _, _, .cons h t, r => by
    cases r with
    | cons r1 r2 => exact .cons (KIs.raw ok h r1) (KAll.raw ok t r2)
end
abbrev NK := NestedKey × V × V
abbrev NRel : List NK → List NE → Prop := Paired fun p q => p.1 = q.1 ∧ RelV p.2.1 q.2.1 ∧ RelV p.2.2 q.2.2
/-- a dict with these keys and values -/
def NdO (w : World) (d : Addr) (L : List NK) : HO := .ext fun h => (d == sysModules) = false ∧ L.length ≤ sizeLine ∧ ∃ xs, NRel L xs ∧ NdR w h d xs
def KeysO (H : Hp) (L : List NK) : Prop := ∀ p ∈ L, KIs H p.1 p.2.1 ∧ p.1.depth ≤ 8
theorem KeysO.mono {H H' : Hp} {L : List NK} (k : KeysO H L) (m : ∀ a xs, H a = some (.tup xs) → H' a = some (.tup xs)) : KeysO H' L := fun p hp => ⟨(k p hp).1.mono m, (k p hp).2⟩
def putNK (L : List NK) (k : NestedKey) (u v : V) : List NK := if k ∈ L.map (·.1) then L.map (fun x => if x.1 = k then (x.1, x.2.1, v) else x) else L ++ [(k, u, v)]
theorem NRel.keys {L : List NK} {xs : List NE} (r : NRel L xs) : L.map (·.1) = xs.map (·.1) := by
  induction r with
  | nil => rfl
  | cons h _ ih => rw [List.map_cons, List.map_cons, ih, h.1]
theorem NRel.put {L : List NK} {xs : List NE} (r : NRel L xs) {k : NestedKey} {u v : V} {u' v' : Value} (hu : RelV u u') (hv : RelV v v') : NRel (putNK L k u v) (putN xs k u' v') := by
  unfold putNK putN
  rw [NRel.keys r]
  by_cases e : k ∈ xs.map (·.1)
  · rw [if_pos e, if_pos e]
    clear e
    induction r with
    | nil => exact .nil
    | @cons p q ps qs h _ ih =>
      refine .cons ?_ ih
      dsimp only
      by_cases e : p.1 = k
      · rw [if_pos e, if_pos (h.1.symm.trans e)]
        exact ⟨h.1, h.2.1, hv⟩
      · rw [if_neg e, if_neg fun z => e (h.1.trans z)]
        exact h
  · rw [if_neg e, if_neg e]
    exact PySem.Paired.snoc r ⟨rfl, hu, hv⟩
theorem putNK_len (L : List NK) (k : NestedKey) (u v : V) : (putNK L k u v).length ≤ L.length + 1 := by
  unfold putNK
  split
  · rw [List.length_map]; omega
  · rw [List.length_append]; exact Nat.le_refl _
theorem NdR.keep {w : World} {h h' : Heap} {d : Addr} {xs : List NE} (R : NdR w h d xs) (k : ∀ o, h.get? d = some o → h'.get? d = some o) : NdR w h' d xs := by
  obtain ⟨⟨o, es, ep, h1, h2⟩, hn⟩ := R
  exact ⟨⟨o, es, ep, k o h1, h2⟩, hn⟩
theorem nd_ok {P : Program} {w : World} {H : Hp} {h : Heap} {d : Addr} {L : List NK} {xs : List NE} (hs : (d == sysModules) = false) (hl : L.length ≤ sizeLine) (r : NRel L xs) (R : NdR w h d xs) : ObjOk P w H h d (NdO w d L) :=
  ⟨⟨hs, hl, xs, r, R⟩, let ⟨o, _, _, e, _⟩ := R.ob; ⟨o, e⟩, fun _ _ ⟨a, b, ys, c, e⟩ k => ⟨a, b, ys, c, e.keep k⟩⟩
theorem nd_of {P : Program} {w : World} {H : Hp} {h : Heap} {d : Addr} {L : List NK} (ok : HOk P w H h) (e : H d = some (NdO w d L)) : (d == sysModules) = false ∧ L.length ≤ sizeLine ∧ ∃ xs, NRel L xs ∧ NdR w h d xs :=
  (show ObjOk P w H h d (NdO w d L) from ok d _ e).1
theorem KeysO.raw {P : Program} {w : World} {H : Hp} {h : Heap} (ok : HOk P w H h) {L : List NK} {xs : List NE} (r : NRel L xs) (k : KeysO H L) : KeysR h xs := by
  induction r with
  | nil => intro x hx; cases hx
  | @cons p q ps qs hh _ ih =>
    intro x hx
    rcases List.mem_cons.mp
                                                                hx with e | hx
    · obtain ⟨k1, k2⟩ := k p List.mem_cons_self
      rw [e, ← hh.1]
      exact ⟨k1.raw ok hh.2.1, k2⟩
    · exact ih (fun y hy => k y (List.mem_cons_of_mem _ hy)) x hx
theorem NRel.back {L : List NK} {xs : List NE} (r : NRel L xs) {k : NestedKey} {p : Value × Value} (h : (k, p) ∈ xs) : ∃ u v, (k, u, v) ∈ L ∧ RelV v p.2 := by
  induction r with
  | nil => cases h
  | @cons a b _ _ hh _ ih =>
    rcases List.mem_cons.mp
                                                                h with e | h
    · obtain ⟨a1, a2, a3⟩ := a
      cases e
      obtain ⟨h1, h2, h3⟩ := hh
      cases h1
      exact ⟨a2, a3, List.mem_cons_self, h3⟩
    · obtain ⟨u, v, h1, h2⟩ := ih h
      exact ⟨u, v, List.mem_cons_of_mem _ h1, h2⟩
section
variable {X : Cx} {o i e value : Expr} {pos
                                                            pos' tpos : Pos} {td ty tv : TE}
/-- {} as such a dict -/
def tDNewN (w : World) : TE := fun _ H Q => ∀ p, H p = none → Q (.ref p) (upd H p (NdO w p []))
theorem pe_dnewN : PE X (.Dict [] [] pos) (tDNewN X.w) := ⟨fun pins s st H Q I h =>
  wpAny_Dict_empty ⟨.ref s.heap.objs.size, _, I.laid (a := s.heap.objs.size) (o := NdO X.w s.heap.objs.size []) (t' := s.toks) (fun _ _ q => Heap.get?_push_of_some _ q) (Nat.le_refl _)
    (nd_ok (xs := []) (beq_eq_false_iff_ne.mpr (Ne.symm (Nat.ne_of_lt I.big))) (Nat.zero_le _) .nil ⟨⟨_, #[], 0, Heap.get?_push_size _ rfl, ⟨rfl, rfl, rfl⟩, rfl, rfl⟩, List.nodup_nil⟩), rfl, h _ (I.hok.fresh (Nat.le_refl _))⟩⟩
/-- k in d -/
def tNdIn (w : World) (neg : Bool) (ty td : TE) : TE := fun st H Q => ty st H fun y H1 => td st H1 fun x H2 => ∃ d L k a, x = .ref d ∧ y = .ref a ∧ H2 d = some (NdO w d L) ∧ KeysO H2 L ∧ KIs H2 k (.ref a) ∧ k.depth ≤ 8 ∧ (k ∈ L.map (·.1) → Q (.bl (!neg)) H2) ∧ (k ∉ L.map (·.1) → Q (.bl neg) H2)
theorem pc_ndin (hu : X.A.units + 9 < cLine) (hi : PE X i ty) (ho : PE X o td) : PC X .In i o (tNdIn X.w false ty td) := by
  constructor
  intro pins s st H Q I h
  refine thn (hi.run pins s st H _ I h) fun iv s1 ⟨y, H1, I1, ry, q1⟩ => thn (ho.run pins s1 st H1 _ I1 q1) fun u s2 ⟨x, H2, I2, rx, d, L, k, a, ex, ey, hd, hL, hk, h8, q2, q3⟩ => ?_
  subst ex ey
  obtain rfl : u =
                                                              Value.ref d := rx
  obtain rfl : iv = Value.ref a := ry
  obtain ⟨hs, hl, xs, r, R⟩ := nd_of I2.hok hd
  show wpAny _ _ (do return Value.bool (← contains (.ref d) (.ref a))) _ _ s2
  refine wpAny_bind (nd_contains hu (hk.raw I2.hok rfl) h8 hs R (hL.raw I2.hok r) (fun hm => ?_) fun p hp => ?_)
  · exact wpAny_pure ⟨.bl false, H2, I2.tok _, rfl, q3 (by rw [NRel.keys r]; exact hm)⟩
  · exact wpAny_pure ⟨.bl true, H2, I2.tok _, rfl, q2 (by rw [NRel.keys r]; exact List.mem_map.mpr ⟨_, hp, rfl⟩)⟩
theorem pc_ndnotin (hu : X.A.units + 9 < cLine) (hi : PE X i ty) (ho : PE X o td) : PC X .NotIn i o (tNdIn X.w true ty td) := by
  constructor
  intro pins s st H Q I h
  refine thn (hi.run pins s st H _ I h) fun iv s1 ⟨y, H1, I1, ry, q1⟩ => thn (ho.run pins s1 st H1 _ I1 q1) fun u s2 ⟨x, H2, I2, rx, d, L, k, a, ex, ey, hd, hL, hk, h8, q2, q3⟩ => ?_
  subst ex ey
  obtain rfl : u =
                                                              Value.ref d := rx
  obtain rfl : iv = Value.ref a := ry
  obtain ⟨hs, hl, xs, r, R⟩ := nd_of I2.hok hd
  show wpAny _ _ (do return Value.bool (!(← contains (.ref d) (.ref a)))) _ _ s2
  refine wpAny_bind (nd_contains hu (hk.raw I2.hok rfl) h8 hs R (hL.raw I2.hok r) (fun hm => ?_) fun p hp => ?_)
  · exact wpAny_pure ⟨.bl true, H2, I2.tok _, rfl, q3 (by rw [NRel.keys r]; exact hm)⟩
  · exact wpAny_pure ⟨.bl false, H2, I2.tok _, rfl, q2 (by rw [NRel.keys r]; exact List.mem_map.mpr ⟨_, hp, rfl⟩)⟩
/-- d[k], there -/
def tNdGet (w : World) (td ty : TE) : TE := fun st H Q => td st H fun x H1 => ty st H1 fun y H2 => ∃ d L k a, x = .ref d ∧ y = .ref a ∧ H2 d = some (NdO w d L) ∧ KeysO H2 L ∧ KIs H2 k (.ref a) ∧ k.depth ≤ 8 ∧ k ∈ L.map (·.1) ∧ ∀ u v, (k, u, v) ∈ L → Q v H2
theorem nd_noDict {w : World} {h : Heap} {d : Addr} {xs : List NE} (R : NdR w h d xs) : ∀ b, Value.ref d = .ref b → ∃ ob, h.get? b = some ob ∧ ob.dict = none := fun b q => by
  cases q
  obtain ⟨ob, _, _, h1, h2, _⟩ := R.ob
  exact ⟨ob, h1, h2.2.1⟩
theorem pe_ndget (hu : X.A.units + 9 < cLine) (ho : PE X o td) (hi : PE X i ty) (hs : NoSl i) : PE X (.Subscript o i pos) (tNdGet X.w td ty) := by
  constructor
  intro pins s st H Q I h
  refine subD_of PySem.F.slot_dict_getitem.lookup hs (thn (ho.run pins s st H _ I h) fun u s1 ⟨x, H1, I1, rx, q1⟩ => thn (hi.run pins s1 st H1 _ I1 q1) fun iv s2 ⟨y, H2, I2, ry, d, L, k, a, ex, ey, hd, hL, hk, h8, hin, q2⟩ => ?_)
  subst ex ey
  obtain rfl : u =
                                                              Value.ref d := rx
  obtain rfl : iv = Value.ref a := ry
  obtain ⟨_, hl, xs, r, R⟩ := nd_of I2.hok hd
  refine ⟨R.typeIs, nd_getItem hu (hk.raw I2.hok rfl) h8 R (hL.raw I2.hok r) (by rw [← NRel.keys r]; exact hin) fun p hp => ?_⟩
  obtain ⟨u', v, hm, rv⟩ := NRel.back r hp
  exact ⟨v, H2, I2.tok _, rv, q2 u' v hm⟩
/-- d[k] = v -/
def sNdPut (w : World) (td ty tv : TE) : TS := fun D st H => tv st H fun v H1 => td st H1 fun x H2 => ty st H2 fun y H3 => ∃ d L k a, x = .ref d ∧ y = .ref a ∧ H3 d = some (NdO w d L) ∧ KeysO H3 L ∧ KIs H3 k (.ref a) ∧ k.depth ≤ 8 ∧ L.length < sizeLine ∧ D.nx st (upd H3 d (NdO w d (putNK L k (.ref a) v)))
theorem ps_ndput (hu : X.A.units + 9 < cLine) (ho : PE X o td) (hi : PE X i ty) (hv : PE X value tv) (hs : swapsWith value (some (.Subscript o i pos')) pos.line X.env = pure false) :
    PS X (.Assign [.Subscript o i pos'] value pos) (sNdPut X.w td ty tv) := by
  constructor
  intro pins s st H D I h
  refine wpAny_Assign_Subscript (thn (hv.run pins s st H _ I h) fun r s1 ⟨v, H1, I1, rv, q1⟩ => thn (ho.run pins s1 st H1 _ I1 q1) fun u s2 ⟨x, H2, I2, rx, q2⟩ => thn (hi.run pins s2 st H2 _ I2 q2) fun iv s3 ⟨y, H3, I3, ry, d, L, k, a, ex, ey, hd, hL, hk, h8, hl', q3⟩ => ?_) hs
  subst ex ey
  obtain rfl : u =
                                                              Value.ref d := rx
  obtain rfl : iv = Value.ref a := ry
  obtain ⟨hsys, hl, xs, rr, R⟩ := nd_of I3.hok hd
  have hxl : xs.length ≤ sizeLine := by rw [← Paired.length rr]; exact hl
  refine nd_setItem hu (hk.raw I3.hok rfl) h8 R (hL.raw I3.hok rr) hxl fun h' R' hs' => ?_
  have hle : (putNK L k (.ref a) v).length ≤ sizeLine := by
    have q := putNK_len L k (.ref a) v
    omega
  obtain ⟨ob, _, _, ho', _⟩ := R'.ob
  exact ⟨st, _, d_write I3 (by rw [hd]; exact True.intro) hs' ⟨ob, ho'⟩ (nd_ok hsys hle (NRel.put rr rfl rv) R'), q3⟩
end
end L2.KR
namespace L2.KR
open PySem PySem.Spec PyProof.Rows K53
section
variable {X : Cx}
/-- name = {k: v for ..}, the keys tuples -/
theorem ps_setDcT {i : Nat} {y : Str} {py : Pos} {kx vx tg iter : Expr} {ifs : List Expr} {scope : Scope} {own : List (Str × Nat)} {pos spos : Pos} {wi : TI} {g : TG} {tt : TT} {tk tv : TE} (hu : X.A.units + 1 < cLine) (hc : X.calm = true) (hN : X.N.Nodup) (hy : X.N[i]? = some y) (hyl : X.env.scope.names.lookup y = some .local)
    (hsw : swapsWith (.DictComp kx vx [⟨tg, iter, ifs, 0⟩] scope pos) (some (.Name y py)) spos.line X.env = pure true) (hi : PI X tg iter wi) (ok : BlkOk X.N X.env.scope scope own)
    (hg : ∀ (s : Shared) (H : Hp) (C : Addr) (cl : List (Str × Addr)) (fp : List Addr), PG (X.blk s H scope (compEnvC scope cl C X.env) fp) tg g)
    (ht : ∀ (s : Shared) (H : Hp) (C : Addr) (cl : List (Str × Addr)) (fp : List Addr), PTs (X.blk s H scope (compEnvC scope cl C X.env) fp) ifs tt)
    (hk : ∀ (s : Shared) (H : Hp) (C : Addr) (cl : List (Str × Addr)) (fp : List
                                                                Addr), PE (X.blk s H scope (compEnvC scope cl C X.env) fp) kx tk)
    (hv : ∀ (s : Shared) (H : Hp) (C : Addr) (cl : List (Str × Addr)) (fp : List Addr), PE (X.blk s H scope (compEnvC scope cl C X.env) fp) vx tv) (hs : ∀ x, foldedSetIterable iter X.env x = pure x := by intro _; rfl) :
    PS X (.Assign [.Name y py] (.DictComp kx vx [⟨tg, iter, ifs, 0⟩] scope pos) spos) (tAsg (tDcT wi g tt tk tv (own.map (·.2))) (gName i)) := by
  constructor
  intro pins s st H D I h
  rw [exec_Assign_Name_used
                                                              _ _ _ _ hsw]
  refine wpAny_bind (wpAny_standAt
                                                              (wpAny_bind ?_))
  show wpAny _ X.A (do let _ ← comprehension (.DictComp kx vx [⟨tg, iter, ifs, 0⟩] scope pos) scope X.env (firstIterPos [⟨tg, iter, ifs, 0⟩] pos) newDict false (eval iter X.env) (some (assign (.Name y py) X.env))) _ _ s
  have h1 : tDcT wi g tt tk tv (own.map (·.2)) st H (fun x H1 => gName i x st H1 D.nx) := h
  refine wpAny_bind (thn (dcT_core (Qf := fun _ s' => SP X pins D .next s') hu hc hN I hi ok hg ht hk hv hs h1 fun L C s' m H' I' q hn f => ?_) fun _ s' hq => wpAny_pure (wpAny_pure hq))
  show wpAny _ _ (assign (.Name y
                                                              py) X.env (.ref L)) _ _ _
  refine wpAny_assign_Name (store_ok2 (v := V.ref L) I' hN hy (.inl
                                                              hyl) rfl (fun s2 I2 ⟨a, sb, ha⟩ => ?_) (.inr hyl))
  obtain ⟨f0, f1, f2,
                                                              f3, f4, f5⟩ := f
  have haC : C ≠ a := ha.elim (fun z => by rw [z]; exact f1) fun z e => f4 y a z e.symm
  exact ⟨m, hn.sameBut sb haC, fun h3 sb3 => ⟨_, H', I2.turned (t' := s2.toks) (fun b o hb e => (sb3.2 b hb).trans e) f0 f1 f3 f4 f5, q⟩⟩
theorem sw_dict {kx vx : Expr} {gs : List Comprehension} {scope : Scope} {pos py : Pos} {y : Str} {l : Nat} {env : Env} (hk : env.scope.kind = .function) (hy : env.scope.names.lookup y = some .local) (hl : (py.line == pos.line) = true)
    (ha : (scope.names.any fun (n, k) => n == y && (k == .local || k == .cell)) = false) : swapsWith (.DictComp kx vx gs scope pos) (some (.Name y py)) l env = pure true := by
  have k1 : env.kindOf y = some .local := hy
  have k2 : env.blockKind = .function := by
    unfold Env.blockKind
    rw [hk]
    all_goals rfl
  unfold swapsWith
  simp only [k1, k2, ha, Expr.pos, hl]
  all_goals rfl
/-! ### rules with the written part said -/
theorem pe_fldK {K : PySem.W.Frag} {e : Expr} {ta : TE} {f : Str} {pos : Pos} (h : X.K = K) (he : PE X e ta) (hb : attributeBase e f X.env (eval e X.env) = eval e X.env) : PE X (.Attribute e f pos) (tFld K ta f) := by
  subst h
  exact pe_fld he hb
theorem ixT {K : PySem.W.Frag} (h : X.K = K) : IxR X (rIxT K) := by
  subst h
  exact ix_tup
theorem ixL {K : PySem.W.Frag} (h : X.K = K) : IxR X (rIxL K) := by
  subst h
  exact ix_list
def rTupOf (K : PySem.W.Frag) : List V → Hp → VK → Prop := fun xs H Q => ∃ p ys, xs = [.ref p] ∧ ((SqL K H p ys ∧ ∀ l, H l = none → Q (.ref l) (upd H l (.tup ys))) ∨ (SqT K H p ys ∧ Q (.ref p) H))
def rLenS (K : PySem.W.Frag) : List V → Hp → VK → Prop := fun xs H Q => ∃ p ys, xs
                                                            = [.ref p] ∧ (SqL K H p ys ∨ SqT K H p ys) ∧ Q (.int ys.length) H
theorem tupK {K : PySem.W.Frag} (h : X.K = K) : CallR X (.type "tuple") (rTupOf K) := by
  subst h
  exact call_tuple_of
theorem lenK {K : PySem.W.Frag} (h : X.K = K) : CallR X (.builtin "len") (rLenS K) := by
  subst h
  exact call_len_seq
end
end L2.KR
namespace K53
open PySem PySem.Spec PyProof.Rows L2 L2.KR

/-! ### isinstance(x, T) -/
abbrev tIsB (K : PySem.W.Frag) (n : String) (te : TE) : TE := tCB (rIsi K) (tCons te (tCons (tC (.ty n)) tNil))
section
variable {X : Cx} {p q pos : Pos} {e : Expr} {te : TE}
theorem pe_isB {x : Str} {n : String} (T : Txt X.mg) (hg : Gl X "isinstance") (he : PE X e te) (ht : PE X (.Name x q) (tC (.ty n))) (hs : starEach [e, .Name x q] X.env = (false, eval e X.env) :: starEach [.Name x q] X.env := by rfl)
    (hpl : (backTo pos (starEach [.Name x q] X.env)).any (·.1) = false := by rfl) : PE X (.Call (.Name "isinstance" p) [e, .Name x q] [] pos) (tIsB X.K n te) :=
  pe_callB call_isi hg T.isi PyProof.Rows.boot_isinstance (pa_cons he (pa_cons ht pa_nil) hs) (by decide) (by decide) hs hpl
theorem pe_tyInt (T : Txt X.mg) (hg : Gl X "int") : PE X (.Name "int" p) (tC (.ty "int")) := pe_bltn hg T.int PyProof.Rows.boot_int rfl
theorem pe_tyBool (T : Txt X.mg) (hg : Gl X "bool") : PE X (.Name "bool" p) (tC (.ty "bool")) := pe_bltn hg T.bool PyProof.Rows.boot_bool rfl
theorem pe_tyTup (T : Txt X.mg) (hg : Gl X "tuple") : PE X (.Name "tuple" p) (tC (.ty "tuple")) := pe_bltn hg T.tuple PyProof.Rows.boot_tuple rfl
theorem pe_tyList (T : Txt X.mg) (hg : Gl X "list") : PE X (.Name "list" p) (tC (.ty "list")) := pe_bltn hg T.list PyProof.Rows.boot_list rfl
end
/-- None, a bool or an int -/
inductive Lf where
  | n
  | b (x : Bool)
  | i (x : Int)
def Lf.v : Lf → V
  | .n => .non
  | .b x => .bl x
  | .i x => .int x
def Lf.int : Lf → Bool
  | .i _ => true
  | _ => false
def Lf.num : Lf → Bool
  | .i x => decide (0 ≤ x)
  | _ => false
def Lf.ix : Lf → Int → Bool
  | .i x, m => decide (0 ≤ x) && decide (x < m)
  | _, _ => false
section
variable {P : Program} {w : World} {K : PySem.W.Frag} {mg : Str → Option Value} {base : Heap} {f : Addr} {fd : FuncData}
/-! ### is_integer -/
def spInt : Sp := fun vs H Q _ => ∃ l : Lf, vs = [l.v] ∧ Q (.bl l.int) H
theorem scInt : FnScope ["value"] ["value"] (defScope sIsInt) := ⟨rfl, rfl, rfl, by decide +kernel, rfl, by decide +kernel, by decide +kernel⟩
theorem ok_isInt (F : Fun K "is_integer" "is_integer" sIsInt f fd) (T : Txt mg) : FnOk P w K mg base CX0 1 f fd ["value"] spInt := by
  refine F.ok scInt (fun vs H Q E h => ?_) (fun cdv A outer s H vs Q E hr h => ?_)
  · obtain ⟨l, rfl, _⟩ := h
    rfl
  · obtain ⟨l, rfl, k⟩ := h
    refine ⟨_, pss_one (ps_ret (pe_and (pe_isB T rfl (pv 0) (pe_tyInt T rfl)) (pe_one (pe_not (pe_isB T rfl (pv 0) (pe_tyBool T rfl)))))), ?_⟩
    cases l with
    | n =>
      refine ⟨_, rfl, .non, .ty "int", .type "NoneType", .type "int", false, rfl, .ty _, .base .non, kit_ty (by decide +kernel), false, rfl, iteF ?_⟩
      exact k
    | b x =>
      refine ⟨_, rfl, .bl x, .ty "int", .type "bool", .type "int", true, rfl, .ty _, .base (.bl x), kit_ty (by decide +kernel), true, rfl, iteT ?_⟩
      exact ⟨_, rfl, .bl x, .ty "bool", .type "bool", .type "bool", true, rfl, .ty _, .base (.bl x), kit_ty (by decide +kernel), true, rfl, k⟩
    | i x =>
      refine ⟨_, rfl, .int x, .ty "int", .type "int", .type "int", true, rfl, .ty _, .base (.int x), kit_ty (by decide +kernel), true, rfl, iteT ?_⟩
      exact ⟨_, rfl, .int x, .ty "bool", .type "int", .type "bool", false, rfl, .ty _, .base (.int x), kit_ty (by decide +kernel), false, rfl, k⟩
/-! ### is_number -/
def spNum : Sp := fun vs H Q _ => ∃ l : Lf, vs = [l.v] ∧ Q (.bl l.num) H
theorem scNum : FnScope ["value"] ["value"] (defScope sIsNum) := ⟨rfl, rfl, rfl, by decide +kernel, rfl, by decide +kernel, by decide +kernel⟩
theorem ok_isNum (F : Fun K "is_number" "is_number" sIsNum f fd) (cI : Df P w K mg base 1 "is_integer" ["value"] spInt) : FnOk P w K mg base CX0 2 f fd ["value"] spNum := by
  refine F.ok scNum (fun vs H Q E h => ?_) (fun cdv A outer s H vs Q E hr h => ?_)
  · obtain ⟨l, rfl, _⟩ := h
    rfl
  · obtain ⟨l, rfl, k⟩ := h
    refine ⟨_, pss_one (ps_ret (pe_and (pe_df cI hr (by decide) rfl (pa_cons (pv 0) pa_nil)) (pe_one (pe_cmpR op_ge (pv 0) pe_int (nomark _))))), ?_⟩
    refine ⟨_, rfl, l, rfl, l.int, rfl, ?_⟩
    cases l with
    | n => exact iteF k
    | b x => exact iteF k
    | i x => exact iteT ⟨_, rfl, x, 0, rfl, rfl, k⟩
/-! ### is_index -/
def spIx : Sp := fun vs H Q _ => ∃ (l : Lf) (m : Int), vs = [l.v, .int m] ∧ Q (.bl (l.ix m)) H
theorem scIx : FnScope ["value", "many"] ["value", "many"] (defScope sIsIdx) := ⟨rfl, rfl, rfl, by decide +kernel, rfl, by decide +kernel, by decide +kernel⟩
theorem ok_isIx (F : Fun K "is_index" "is_index" sIsIdx f fd) (cN : Df P w K mg base 2 "is_number" ["value"] spNum) : FnOk P w K mg base CX0 3 f fd ["value", "many"] spIx := by
  refine F.ok scIx (fun vs H Q E h => ?_) (fun cdv A outer s H vs Q E hr h => ?_)
  · obtain ⟨l, m, rfl, _⟩ := h
    rfl
  · obtain ⟨l, m, rfl, k⟩ := h
    refine ⟨_, pss_one (ps_ret (pe_and (pe_df cN hr (by decide) rfl (pa_cons (pv 0) pa_nil)) (pe_one (pe_cmpR op_lt (pv 0) (pv 1) (nomark _))))), ?_⟩
    refine ⟨_, rfl, l, rfl, l.num, rfl, ?_⟩
    cases l with
    | n => exact iteF k
    | b x => exact iteF k
    | i x =>
      by_cases hx : 0 ≤ x
      · have e : (Lf.i x).num = true := decide_eq_true hx
        rw [e]
        refine iteT ⟨_, rfl, _, rfl, x, m, rfl, rfl, ?_⟩
        have e2 : (Lf.i x).ix m = decide (x < m) := by
          show (decide (0 ≤ x) && decide (x < m)) = _
          rw [decide_eq_true hx]
          rfl
        rw [e2] at k
        exact k
      · have e : (Lf.i x).num = false := decide_eq_false hx
        rw [e]
        refine iteF ?_
        have e2 : (Lf.i x).ix m = false := by
          show (decide (0 ≤ x) && decide (x < m)) = _
          rw [decide_eq_false hx]
          rfl
        rw [e2] at k
        exact k
/-! ### is_sequence -/
def spSeq : Sp := fun vs H Q _ => ∃ (a : Addr) (xs : List V), vs = [.ref a] ∧ (H a = some (.lst xs) ∨ H a = some (.tup xs)) ∧ ∀ H', Same H H' → Q (.bl true) H'
theorem scSeq : FnScope ["value"] ["value"] (defScope sIsSeq) := ⟨rfl, rfl, rfl, by decide +kernel, rfl, by decide +kernel, by decide +kernel⟩
theorem ok_isSeq (F : Fun K "is_sequence" "is_sequence" sIsSeq f fd) (T : Txt mg) : FnOk P w K mg base CX0 1 f fd ["value"] spSeq := by
  refine F.ok scSeq (fun vs H Q E h => ?_) (fun cdv A outer s H vs Q E hr h => ?_)
  · obtain ⟨a, xs, rfl, _⟩ := h
    rfl
  · obtain ⟨a, xs, rfl, ha, k⟩ := h
    refine ⟨_, pss_one (ps_ret (pe_callB call_isiT rfl T.isi PyProof.Rows.boot_isinstance (pa_cons (pv 0) (pa_cons (pe_tup (pa_cons (pe_tyList T rfl) (pa_cons (pe_tyTup T rfl) pa_nil))) pa_nil)))), ?_⟩
    refine ⟨_, rfl, (by show 2 ≤ sizeLine; decide), fun t nt => ?_⟩
    have s1 : Same H (upd H t (.tup [.ty "list", .ty "tuple"])) := same_new (fun _ _ e => e) nt
    rcases ha with ha | ha
    · exact ⟨.ref a, t, [.ty "list", .ty "tuple"], .type "list", [.type "list", .type "tuple"], true, rfl, upd_same, .cons (.ty _) (.cons (.ty _) .nil), .base (.lst (s1 _ _ ha)), kitAny_cons (b := true) (kit_ty (by decide +kernel)) (fun z => nomatch z) (fun _ => rfl), k _ s1⟩
    · exact ⟨.ref a, t, [.ty "list", .ty "tuple"], .type "tuple", [.type "list", .type "tuple"], true, rfl, upd_same, .cons (.ty _) (.cons (.ty _) .nil), .base (.tup (s1 _ _ ha)), kitAny_cons (b := false) (kit_ty (by decide +kernel)) (fun _ => kitAny_cons (b := true) (kit_ty (by decide +kernel)) (fun z => nomatch z) (fun _ => rfl)) (fun z => nomatch z), k _ s1⟩
end
end K53
namespace K53
open PySem PySem.Spec PyProof.Rows L2 L2.KR

/-! ### a machine in the heap -/
def mflds (c n : Nat) (sA d : Addr) : List (Str × V) := [("commands", .int (c : Int)), ("states", .int (n : Int)), ("steps", .ref sA), ("_found", .ref d)]
theorem lk_c (c n : Nat) (sA d : Addr) : (mflds c n sA d).lookup ("commands" : Str) = some (.int (c : Int)) := by rfl
theorem lk_n (c n : Nat) (sA d : Addr) : (mflds c n sA d).lookup ("states" : Str) = some (.int (n : Int)) := by rfl
theorem lk_s (c n : Nat) (sA d : Addr) : (mflds c n sA d).lookup ("steps" : Str) = some (.ref sA) := by rfl
theorem lk_f (c n : Nat) (sA d : Addr) : (mflds c n sA d).lookup ("_found" : Str) = some (.ref d) := by rfl
theorem lk_no (c n : Nat) (sA d : Addr) : (mflds c n sA d).lookup ("found" : Str) = none := by rfl
theorem lk_no2 (c n : Nat) (sA d : Addr) : (mflds c n sA d).lookup ("does" : Str) = none := by rfl
theorem mflds_put (c n : Nat) (sA d : Addr) : putF "_found" (.ref d) (putF "steps" (.ref sA) (putF "states" (.int (n : Int)) (putF "commands" (.int (c : Int)) []))) = mflds c n sA d := by rfl
structure MTxt (K : PySem.W.Frag) (mg : Str → Option Value) (C : Addr) : Prop where
  cl : Cls K C
  nC : NoAttr K C "commands"
  nN : NoAttr K C "states"
  nS : NoAttr K C "steps"
  nF : NoAttr K C "_found"
  mgC : mg "Machine" = some (.ref C)
structure MachAt (C : Addr) (H : Hp) (p : Addr) (m : Mc) (d : Addr) : Prop where
  ok : m.Ok
  at_ : ∃ dx sA rs, H p = some (.ins C dx (mflds m.c m.n sA d)) ∧ H sA = some (.tup (rs.map V.ref)) ∧ TupsAt H rs m.st
theorem MachAt.same {C : Addr} {H H' : Hp} {p : Addr} {m : Mc} {d : Addr} (h : MachAt C H p m d) (s : Same H H') : MachAt C H' p m d := by
  obtain ⟨ok, dx, sA, rs, h1, h2, h3⟩ := h
  exact ⟨ok, dx, sA, rs, s _ _ h1, s _ _ h2, h3.same s⟩
theorem TupsAt.len {H : Hp} {rs : List Addr} {st : List (List Nat)} (h : TupsAt H rs st) : rs.length = st.length := Paired.len h
theorem TupsAt.row {H : Hp} {rs : List Addr} {st : List (List Nat)} (h : TupsAt H rs st) {s : Nat} (hs : s < st.length) : ∃ r, rs[s]? = some r ∧ (rs.map V.ref)[s]? = some (.ref r) ∧ H r = some (.tup (nts (st.getD s []))) := by
  have e : st[s]? = some (st.getD s []) := by simp [List.getD, List.getElem?_eq_getElem hs]
  obtain ⟨r, h1, h2⟩ := Paired.get2 h e
  exact ⟨r, h1, by rw [List.getElem?_map, h1]; rfl, h2⟩
theorem Mc.Ok.at_to {m : Mc} (ok : m.Ok) {s a : Nat} (hs : s < m.n) (ha : a < m.c) : (nts (m.st.getD s []))[a]? = some (V.int (m.to s a : Nat)) := by
  have hs' : s < m.st.length := hs
  have e1 : m.st.getD s [] = m.st[s] := by simp [List.getD, List.getElem?_eq_getElem hs']
  refine nts_get ?_
  unfold Mc.to
  rw [e1]
  have hr := (ok.row m.st[s] (List.getElem_mem hs')).1
  have ha' : a < (m.st[s]).length := by rw [hr]; exact ha
  rw [List.getElem?_eq_getElem ha']
  simp [List.getD, List.getElem?_eq_getElem ha']
theorem nts_map {l : List Nat} {i : Nat} {x : V} (h : (nts l)[i]? = some x) : ∃ a, l[i]? = some a ∧ x = .int (a : Nat) := by
  unfold nts at h
  rw [List.getElem?_map] at h
  cases e : l[i]? with
  | none => rw [e]
                                                              at h; cases h
  | some a =>
    rw [e] at h
    exact ⟨a, rfl, (Option.some.inj h).symm⟩
theorem small {n : Nat} (h : n ≤ 4096) : n < sizeLine := Nat.lt_of_le_of_lt h (by decide)
theorem take_snoc {α : Type} {l : List α} {i : Nat} {x : α} (h : l[i]? = some x) : l.take (i + 1) = l.take i ++ [x] := by
  rw [List.take_add_one, h]
  rfl
section
variable {P : Program} {w : World} {K : PySem.W.Frag} {mg : Str → Option Value} {base : Heap} {f C : Addr} {fd : FuncData}
/-! ### does -/
def spDoes (C : Addr) : Sp := fun vs H Q _ => ∃ (p : Addr) (m : Mc) (d : Addr) (a : Nat), vs = [.ref p, .int (a : Int)] ∧ MachAt C H p m d ∧ a < m.c ∧ ∀ H' t, Same H H' → H t = none → H' t = some (.tup (nts ((List.range m.n).map fun s => m.to s a))) → Q (.ref t) H'
theorem scDoes : FnScope ["self", "command", "row"] ["self", "command"] (defScope sDoes) := ⟨rfl, rfl, rfl, by decide +kernel, rfl, by decide +kernel, by decide +kernel⟩
theorem ok_does (F : Fun K "does" "Machine.does" sDoes f fd) (T : Txt mg) (M : MTxt K mg C) : FnOk P w K mg base CX0 1 f fd ["self", "command"] (spDoes C) := by
  refine F.ok scDoes (fun vs H Q E h => ?_) (fun cdv A outer s H vs Q E hr h => ?_)
  · obtain ⟨p, m, d, a, rfl, _⟩ := h
    rfl
  · obtain ⟨p, m, d, a, rfl, ⟨ok, dx, sA, rs, h1, h2, h3⟩, ha, k⟩ := h
    refine ⟨_, pss_one (ps_ret (pe_callTy call_tuple_of rfl T.tuple (by decide +kernel) (pa_cons (pe_lc (own := [("row", 2)]) (g := gName 2) (tt := tYes) (by rfl) scDoes.nd (pi_tup (pe_fld (pv 0) rfl)) (blkOk_by (own := [("row", 2)]) (N := ["self", "command", "row"]) (sc := defScope sDoes) (by decide +kernel))
      (fun _ _ _ _ _ => pg_name (i := 2) scDoes.nd rfl (Or.inl rfl)) (fun _ _ _ _ _ => pts_nil) (fun _ _ _ _ _ => pe_ix (r := rIxT K) ix_tup (pv 2) (pv 1) (fun _ _ => rfl))) pa_nil))), ?_⟩
    refine ⟨_, rfl, p, C, dx, _, _, rfl, h1, M.cl, M.nS, lk_s _ _ _ _, sA, rfl, ⟨_, SqT.of h2⟩, fun D hD => ?_⟩
    have e : ∀ i, i ≤ m.n → True := fun _ _ => True.intro
    refine lc_tup (K := K) (a := sA) (xs := rs.map V.ref) (fun i H' => Same H H' ∧ H' D = some (.lst (nts ((List.range i).map fun s => m.to s a)))) ⟨same_new (fun _ _ e => e) hD, upd_same⟩ (fun i H' _ q => SqT.of (q.1 _ _ h2)) ?_ ?_
    · rintro i x H' hi ⟨sm, eD⟩
      have hi' : i < rs.length := by
        have q := (List.getElem?_eq_some_iff.mp hi).1
        rw [List.length_map] at q
        exact q
      have hin : i < m.n := by rw [TupsAt.len h3] at hi'; exact hi'
      obtain ⟨r, g1, g2, g3⟩ := h3.row (s := i) hin
      rw [g2] at hi
      cases hi
      refine ⟨rfl, ?_⟩
      refine ⟨_, rfl, _, rfl, r, _, _, _, rfl, rfl, SqT.of (sm _ _ g3), atI_nat (ok.at_to hin ha), ?_⟩
      refine ⟨_, eD, ?_, fun b o e => ?_, ?_⟩
      · rw [nts_len, List.length_map, List.length_range]
        exact small (by have := ok.n4; have : m.n ≤ 4 := ok.n4; omega)
      · rw [upd_ne (ne_of_none e hD)]
        exact sm _ _ e
      · rw [upd_same, List.range_succ, List.map_append]
        show some (HO.lst _) = some (HO.lst (List.map _ _))
        rw [List.map_append]
        rfl
    · rintro H' ⟨sm, eD⟩
      rw [List.length_map, TupsAt.len h3] at eD
      refine ⟨D, _, rfl, .inl ⟨SqL.of eD, fun t ht => ?_⟩⟩
      exact k _ t (same_new sm ht) (sm.free ht) upd_same
/-! ### led -/
def spLed (C : Addr) : Sp := fun vs H Q _ => ∃ (p : Addr) (m : Mc) (d r : Addr) (s : Nat) (u : List Nat), vs = [.ref p, .int (s : Int), .ref r] ∧ MachAt C H p m d ∧ s < m.n ∧ RowOk m u ∧ H r = some (.tup (nts u)) ∧ Q (.int (m.led s u : Nat)) H
theorem scLed : FnScope ["machine", "state", "row", "command"] ["machine", "state", "row"] (defScope sLed) := ⟨rfl, rfl, rfl, by decide +kernel, rfl, by decide +kernel, by decide +kernel⟩
theorem ok_led (F : Fun K "led" "led" sLed f fd) (M : MTxt K mg C) : FnOk P w K mg base CX0 1 f fd ["machine", "state", "row"] (spLed C) := by
  refine F.ok scLed (fun vs H Q E h => ?_) (fun cdv A outer s H vs Q E hr h => ?_)
  · obtain ⟨p, m, d, r, s, u, rfl, _⟩ := h
    rfl
  · obtain ⟨p, m, d, r, s0, u, rfl, ⟨ok, dx, sA, rs, h1, h2, h3⟩, hs, hu, hr', k⟩ := h
    refine ⟨_, pss_cons (ps_for PassesOwn.never rfl (pi_tup (pv 2)) (pg_name (i := 3) scLed.nd rfl (Or.inl rfl)) (pss_one (ps_set (i := 1) scLed.nd rfl (Or.inl rfl) (pe_ix ix_tup (pe_ix ix_tup (pe_fld (pv 0) rfl) (pv 1) (fun _ _ => rfl)) (pv 3) (fun _ _ => rfl)))))
      (pss_one (ps_ret (pv 1))), ?_⟩
    refine ⟨_, rfl, r, rfl, ⟨_, SqT.of hr'⟩, for_tup (K := K) (a := r) (xs := nts u) (fun i st H' => H' = H ∧ ∃ c, st = [some (.ref p), some (.int (m.led s0 (u.take i) : Nat)), some (.ref r), c]) ⟨rfl, none, rfl⟩ (fun i st H' _ q => by rw [q.1]; exact SqT.of hr') ?_ ?_⟩
    · rintro i x st H' hi ⟨rfl, c, rfl⟩
      obtain ⟨a, g1, rfl⟩ := nts_map hi
      have hlt : m.led s0 (u.take i) < m.n := ok.led_lt hs fun z hz => hu z (List.mem_of_mem_take hz)
      have hac : a < m.c := hu a (List.mem_of_getElem? g1)
      obtain ⟨q, _, f2, f3⟩ := h3.row hlt
      refine ⟨_, rfl, p, C, dx, _, _, rfl, h1, M.cl, M.nS, lk_s _ _ _ _, _, rfl, sA, _, _, _, rfl, rfl, SqT.of h2, atI_nat f2, _, rfl, q, _, _, _, rfl, rfl, SqT.of f3, atI_nat (ok.at_to hlt hac), ?_⟩
      refine ⟨rfl, some (.int (a : Nat)), ?_⟩
      rw [take_snoc g1, Mc.led_snoc]
      rfl
    · rintro st H' ⟨rfl, c, rfl⟩
      rw [nts_len, List.take_length]
      exact ⟨_, rfl, k⟩
end
end K53
namespace K53
open PySem PySem.Spec PyProof.Rows L2 L2.KR

theorem Kp.updF {l : List Addr} {H H1 : Hp} {p : Addr} {o : HO} (a : Kp l H H1) (h : H p = none) : Kp l H (L2.upd H1 p o) := fun b z e n => by
  rw [upd_ne (ne_of_none e h)]
  exact a b z e n
theorem same_updF {H H1 : Hp} {p : Addr} {o : HO} (a : Same H H1) (h : H p = none) : Same H (L2.upd H1 p o) := fun b z e => by
  rw [upd_ne (ne_of_none e h)]
  exact a b z e
theorem all_true (n : Nat) : (List.replicate n true).all id = true := by
  induction n with
  | zero => rfl
  | succ n ih => rw [List.replicate_succ, List.all_cons, ih]; rfl
theorem rep_snoc {α : Type} (n : Nat) (x : α) : List.replicate (n + 1) x = List.replicate n x ++ [x] := List.replicate_succ'
theorem nts_take {l : List Nat} {i : Nat} {a : Nat} (h : l[i]? = some a) : nts (l.take (i + 1)) = nts (l.take i) ++ [.int (a : Nat)] := by
  rw [take_snoc h]
  exact List.map_append
theorem dec_ne {x y : V} (h : x = y) : (!decide (x = y)) = false := by rw [decide_eq_true h]; rfl
theorem ListsAt.len {H : Hp} {rs : List Addr} {st : List (List Nat)} (h : ListsAt H rs st) : rs.length = st.length := Paired.len h
theorem ListsAt.row {H : Hp} {rs : List Addr} {st : List (List Nat)} (h : ListsAt H rs st) {s : Nat} (hs : s < st.length) : ∃ r, rs[s]? = some r ∧ (rs.map V.ref)[s]? = some (.ref r) ∧ H r = some (.lst (nts (st.getD s []))) := by
  have e : st[s]? = some (st.getD s []) := by simp [List.getD, List.getElem?_eq_getElem hs]
  obtain ⟨r, h1, h2⟩ := Paired.get2 h e
  exact ⟨r, h1, by rw [List.getElem?_map, h1]; rfl, h2⟩
theorem Mc.Ok.rowAt {m : Mc} (ok : m.Ok) {s : Nat} (hs : s < m.st.length) : (m.st.getD s []).length = m.c ∧ ∀ x ∈ m.st.getD s [], x < m.st.length := by
  have e1 : m.st.getD s [] = m.st[s] := by simp [List.getD, List.getElem?_eq_getElem hs]
  rw [e1]
  exact ok.row _ (List.getElem_mem hs)
section
variable {P : Program} {w : World} {K : PySem.W.Frag} {mg : Str → Option Value} {base : Heap} {f C : Addr} {fd : FuncData}
def spInit (C : Addr) : Sp := fun vs H Q _ => ∃ (p dx L : Addr) (m : Mc) (ls : List Addr), vs = [.ref p, .int (m.c : Int), .ref L] ∧ m.Ok ∧ H p = some (.ins C dx []) ∧ H L = some (.lst (ls.map V.ref)) ∧ ListsAt H ls m.st ∧
  ∀ d H', H d = none → MachAt C H' p m d → H' d = some (.dK []) → Kp [p] H H' → Q .non H'
theorem scInit : FnScope ["self", "commands", "steps", "state", "row", "to"] ["self", "commands", "steps"] (defScope sInit) := ⟨rfl, rfl, rfl, by decide +kernel, rfl, by decide +kernel, by decide +kernel⟩
theorem ok_init (F : Fun K "__init__" "Machine.__init__" sInit f fd) (T : Txt mg) (M : MTxt K mg C) (cN : Df P w K mg base 2 "is_number" ["value"] spNum) (cX : Df P w K mg base 3 "is_index" ["value", "many"] spIx) (cS : Df P w K mg base 1 "is_sequence" ["value"] spSeq) :
    FnOk P w K mg base CX0 4 f fd ["self", "commands", "steps"] (spInit C) := by
  refine F.ok scInit (fun vs H Q E h => ?_) (fun cdv A outer s H vs Q E hr h => ?_)
  · obtain ⟨p, dx, L, m, ls, rfl, _⟩ := h
    rfl
  · obtain ⟨p, dx, L, m, ls, rfl, ok, hp, hL, hls, k⟩ := h
    have n4 : m.st.length ≤ 4 := ok.n4
    refine ⟨_, pss_cons (ps_if (PW.pt (pw_or (pt_not (pt_val (pe_df cN hr (by decide) rfl (pa_cons (pv 1) pa_nil)))) (pw_or1 (pt_cmpR op_eq (pv 1) pe_int (nomark _))))) (pss_one ps_never) pss_nil)
      (pss_cons (ps_if (PW.pt (pw_or (pt_not (pt_val (pe_df cS hr (by decide) rfl (pa_cons (pv 2) pa_nil)))) (pw_or1 (pt_cmpR op_eq (pe_callB call_len_seq (by rfl) T.len PySem.boot_len (pa_cons (pv 2) pa_nil)) pe_int (nomark _))))) (pss_one ps_never) pss_nil)
      (pss_cons (ps_for PassesOwn.never rfl (pi_enum (by rfl) T.enum (pa_cons (pv 2) pa_nil)) (pg_tup rfl (pgs_cons (pg_name (i := 3) scInit.nd rfl (.inl rfl)) (pgs_cons (pg_name (i := 4) scInit.nd rfl (.inl rfl)) pgs_nil)))
        (pss_one (ps_if (PW.pt (pw_or (pt_not (pt_val (pe_df cS hr (by decide) rfl (pa_cons (pv 4) pa_nil)))) (pw_or (pt_cmpR op_ne (pe_callB call_len_seq (by rfl) T.len PySem.boot_len (pa_cons (pv 4) pa_nil)) (pv 1) (nomark _))
          (pw_or1 (pt_not (pt_val (pe_callB (cr_all rfl) (by rfl) T.all (by decide +kernel) (pa_cons (pe_lc (own := [("to", 5)]) (g := gName 5) (tt := tYes) (by rfl) scInit.nd (pi_list (pv 4)) (blkOk_by (own := [("to", 5)]) (N := ["self", "commands", "steps", "state", "row", "to"]) (sc := defScope sInit) (by decide +kernel))
            (fun _ _ _ _ _ => pg_name (i := 5) scInit.nd rfl (Or.inl rfl)) (fun _ _ _ _ _ => pts_nil) (fun _ _ _ _ _ => pe_df cX hr (by decide) rfl (pa_cons (pv 5) (pa_cons (pe_callB (r := rLenS K) call_len_seq (by rfl) T.len PySem.boot_len (pa_cons (pv 2) pa_nil)) pa_nil)))) pa_nil)))))))) (pss_one ps_never) pss_nil)))
      (pss_cons (ps_fld (pv 0) (pv 1) rfl)
      (pss_cons (ps_fld (pv 0) (pe_callB call_len_seq (by rfl) T.len PySem.boot_len (pa_cons (pv 2) pa_nil)) rfl)
      (pss_cons (ps_fld (pv 0) (pe_callTy call_tuple_of rfl T.tuple (by decide +kernel) (pa_cons (pe_lc (own := [("row", 4)]) (g := gName 4) (tt := tYes) (by rfl) scInit.nd (pi_list (pv 2)) (blkOk_by (own := [("row", 4)]) (N := ["self", "commands", "steps", "state", "row", "to"]) (sc := defScope sInit) (by decide +kernel))
            (fun _ _ _ _ _ => pg_name (i := 4) scInit.nd rfl (Or.inl rfl)) (fun _ _ _ _ _ => pts_nil) (fun _ _ _ _ _ => pe_callTy (T := "tuple") (r := rTupOf K) call_tuple_of rfl T.tuple (by decide +kernel) (pa_cons (pv 4) pa_nil))) pa_nil)) rfl)
      (pss_one (ps_fld (pv 0) pe_dnewK rfl))))))), ?_⟩
    -- is_number(commands), commands == 0
    have c1 := ok.c1
    refine ⟨_, rfl, .i (m.c : Int), rfl, _, rfl, ?_⟩
    have e1 : (Lf.i (m.c : Int)).num = true := by
      show decide (0 ≤ (m.c : Int)) = true
      exact decide_eq_true
                                                                  (by omega)
    rw [e1]
    refine iteF ⟨_, rfl, rfl, _, rfl, ?_⟩
    have e2 : decide (V.int (m.c : Int) = V.int 0) = false := decide_eq_false fun z => by
      injection z with z
      omega
    rw [e2]
    refine iteF ?_
    -- is_sequence(steps), len(steps) == 0
    refine ⟨_, rfl, L, _, rfl, .inl hL, fun H1 s1 => ⟨_, rfl, iteF ?_⟩⟩
    refine ⟨_, rfl, L, _, rfl, .inl (SqL.of (s1 _ _ hL)), rfl, _, rfl, ?_⟩
    have n1 := ok.n1
    have hll : ls.length = m.st.length := ListsAt.len hls
    have e3 : decide (V.int ((ls.map V.ref).length : Nat) = V.int 0) = false := decide_eq_false fun z => by
      injection z with z
      rw [List.length_map] at z
      omega
    rw [e3]
    refine iteF ?_
    -- for state, row in enumerate(steps)
    refine ⟨_, rfl, L, _, rfl, SqL.of (s1 _ _ hL), for_it (walk_enum (K := K) (a := L) (xs := ls.map V.ref)) (fun i st H' => Same H H' ∧ ∃ v3 v4 v5, st = [some (.ref p), some (.int (m.c : Int)), some (.ref L), v3, v4, v5]) ⟨s1, none, none, none, rfl⟩ (fun i st H' _ q => SqL.of (q.1 _ _ hL)) ?_ ?_⟩
    · rintro i x st H2 H3 hi ⟨s2, v3, v4, v5, rfl⟩ ⟨t, x0, y0, rfl, nt, rfl, f1, f2⟩
      cases f1
      rw [List.length_map] at hi
      have hi' : i < m.st.length := by omega
      obtain ⟨r, g1, g2, g3⟩ := hls.row hi'
      have f2' : (ls.map V.ref)[i]? = some y0 := f2
      rw [g2] at f2'
      cases f2'
      have s3 : Same H (upd H2 t (.tup [.int (i : Nat), .ref r])) := same_new s2 nt
      obtain ⟨w1, w2⟩ := ok.rowAt hi'
      refine ⟨t, _, rfl, SqT.of upd_same, rfl, _, _, rfl, _, _, rfl, rfl, ?_⟩
      -- is_sequence(row)
      refine ⟨_, rfl, r, _, rfl, .inl (s3 _ _ g3), fun H4 s4 => ⟨_, rfl, iteF ?_⟩⟩
      have s34 := s3.trans s4
      refine ⟨_, rfl, r, _, rfl, .inl (SqL.of (s34 _ _ g3)), _, rfl, rfl, _, rfl, ?_⟩
      have e4 : (!decide (V.int ((nts (m.st.getD i [])).length : Nat) = V.int (m.c : Int))) = false := dec_ne (by rw [nts_len, w1])
      rw [e4]
      refine iteF ?_
      -- all(..)
      refine ⟨_, rfl, r, rfl, ⟨_, SqL.of (s34 _ _ g3)⟩, fun D hD => ?_⟩
      refine lc_list (K := K) (a := r) (xs := nts (m.st.getD i [])) (fun j H' => Same H H' ∧ H' D = some (.lst ((List.replicate j true).map V.bl))) ⟨same_new s34 hD, upd_same⟩ (fun j H' _ q => SqL.of (q.1 _ _ g3)) ?_ ?_
      · rintro j x H5 hj ⟨s5, eD⟩
        obtain ⟨a, b1, rfl⟩ := nts_map hj
        refine ⟨rfl, ?_⟩
        refine ⟨_, rfl, _, rfl, L, _, rfl, .inl (SqL.of (s5 _ _ hL)), .i (a : Int), _, rfl, ?_⟩
        have e5 : (Lf.i (a : Int)).ix ((ls.map V.ref).length : Nat) = true := by
          have q := w2 a (List.mem_of_getElem? b1)
          show (decide (0 ≤ (a : Int)) && decide ((a : Int) < ((ls.map V.ref).length : Nat))) = true
          rw [List.length_map, hll, decide_eq_true (by omega), decide_eq_true (by omega)]
          rfl
        rw [e5]
        have hjl : j < m.c := by
          have q := (List.getElem?_eq_some_iff.mp b1).1
          omega
        refine ⟨_, eD, ?_, fun b o e => ?_, ?_⟩
        · rw [List.length_map, List.length_replicate]
          exact small (by have := ok.c3; omega)
        · rw [upd_ne (ne_of_none e (s34.free hD))]
          exact s5 _ _ e
        · rw [upd_same, rep_snoc, List.map_append]
          rfl
      · rintro H5 ⟨s5, eD⟩
        refine ⟨D, _, rfl, SqL.of eD, _, rfl, ?_⟩
        rw [all_true]
        exact iteF ⟨s5, _, _, _, rfl⟩
    · rintro st H2 ⟨s2, v3, v4, v5, rfl⟩
      -- the fields
      have hp2 := s2 _ _ hp
      refine ⟨_, rfl, _, rfl, p, C, dx, _, rfl, hp2, M.cl, M.nC, (by show 0 < 1000; decide), ?_⟩
      have kp0 : Kp [p] H (upd H2 p (.ins C dx (putF "commands" (.int (m.c : Int)) []))) := Kp.upd (Kp.of_same s2) (.inl (List.mem_singleton.mpr rfl))
      have ne1 : L ≠ p := ne_of hL hp (fun z => nomatch z)
      have nl : L ∉ [p] := fun z => ne1 (List.mem_singleton.mp z)
      refine ⟨_, rfl, L, _, rfl, .inl (SqL.of (kp0 _ _ hL nl)), _, rfl, p, C, dx, _, rfl, upd_same, M.cl, M.nN, (by show 1 < 1000; decide), ?_⟩
      rw [upd_upd]
      have kp1 : Kp [p] H (upd H2 p (.ins C dx (putF "states" (.int ((ls.map V.ref).length : Nat)) (putF "commands" (.int (m.c : Int)) [])))) := Kp.upd (Kp.of_same s2) (.inl (List.mem_singleton.mpr rfl))
      -- tuple([tuple(row) for row in steps])
      have hne : ∀ {b o}, H b = some o → o ≠ .ins C dx [] → b ∉ [p] := fun e1 e2 z => ne_of e1 hp e2 (List.mem_singleton.mp z)
      refine ⟨_, rfl, L, rfl, ⟨_, SqL.of (kp1 _ _ hL nl)⟩, fun D hD => ?_⟩
      have hpD : p ≠ D := fun z => by rw [← z, upd_same] at hD; cases hD
      have hD0 : H D = none := Kp.free kp1 hD fun z => hpD (List.mem_singleton.mp z).symm
      refine lc_list (K := K) (a := L) (xs := ls.map V.ref) (fun j H' => Kp [p] H H' ∧ H' p = some (.ins C dx (putF "states" (.int ((ls.map V.ref).length : Nat)) (putF "commands" (.int (m.c : Int)) []))) ∧ ∃ rs, H' D = some (.lst (rs.map V.ref)) ∧ TupsAt H' rs (m.st.take j))
        ⟨Kp.upd kp1 (.inr hD), by rw [upd_ne hpD]; exact upd_same, [], upd_same, .nil⟩ (fun j H' _ q => SqL.of (q.1 _ _ hL nl)) ?_ ?_
      · rintro j x H5 hj ⟨k5, p5, rs, eD, tr⟩
        have hjl : j < m.st.length := by
          have q := (List.getElem?_eq_some_iff.mp hj).1
          rw [List.length_map] at q
          omega
        obtain ⟨r, g1, g2, g3⟩ := hls.row hjl
        rw [g2] at hj
        cases hj
        refine ⟨rfl, ?_⟩
        refine ⟨_, rfl, r, _, rfl, .inl ⟨SqL.of (k5 _ _ g3 (hne g3 (fun z => nomatch z))), fun t ht => ?_⟩⟩
        have tD : D ≠ t := ne_of_none eD ht
        have s6 : Same H5 (upd H5 t (.tup (nts (m.st.getD j [])))) := same_new (fun _ _ e => e) ht
        refine ⟨_, s6 _ _ eD, ?_, ?_, ?_, rs ++ [t], ?_, ?_⟩
        · have q := tr.len
          rw [List.length_take] at q
          rw [List.length_map]
          exact small (by omega)
        · exact Kp.updF (Kp.upd k5 (.inr ht)) hD0
        · rw [upd_ne hpD]
          exact s6 _ _ p5
        · rw [upd_same, List.map_append]
          rfl
        · rw [take_snoc (show m.st[j]? = some (m.st.getD j []) by simp [List.getD, List.getElem?_eq_getElem hjl])]
          refine Paired.snoc (Paired.imp tr fun a b ha e => ?_) ?_
          · rw [upd_ne (show a ≠ D from fun z => by rw [z, eD] at e; cases e)]
            exact s6 _ _ e
          · rw [upd_ne tD.symm]
            exact upd_same
      · rintro H5 ⟨k5, p5, rs, eD, tr⟩
        have e6 : (ls.map V.ref).length = m.st.length := by rw [List.length_map]; exact hll
        rw [e6, List.take_length] at tr
        refine ⟨D, _, rfl, .inl ⟨SqL.of eD, fun t ht => ?_⟩⟩
        have hpt : p ≠ t := ne_of_none p5 ht
        have s6 : Same H5 (upd H5 t (.tup (rs.map V.ref))) := same_new (fun _ _ e => e) ht
        refine ⟨_, rfl, p, C, dx, _, rfl, s6 _ _ p5, M.cl, M.nS, (by show 2 < 1000; decide), ?_⟩
        intro d hd
        have hpd : p ≠ d := fun z => by rw [← z, upd_same] at hd; cases hd
        have kp5 : Kp [p] H (upd (upd H5 t (.tup (rs.map V.ref))) p (.ins C dx (putF "steps" (.ref t) (putF "states" (.int ((ls.map V.ref).length : Nat)) (putF "commands" (.int (m.c : Int)) []))))) := Kp.upd (Kp.upd k5 (.inr ht)) (.inl (List.mem_singleton.mpr rfl))
        refine ⟨_, rfl, p, C, dx, _, rfl, by rw [upd_ne hpd]; exact upd_same, M.cl, M.nF, (by show 3 < 1000; decide), ?_⟩
        have hdt : t ≠ d := fun z => by rw [← z, upd_ne hpt.symm, upd_same] at hd; cases hd
        have h5d : H5 d = none := by
          rw [upd_ne (Ne.symm hpd), upd_ne (Ne.symm hdt)] at hd
          exact hd
        refine k d _ (Kp.free kp5 hd fun z => hpd (List.mem_singleton.mp z).symm) ⟨ok, dx, t, rs, ?_, ?_, ?_⟩ ?_ (Kp.upd (Kp.upd kp5 (.inr hd)) (.inl (List.mem_singleton.mpr rfl)))
        · rw [upd_same, e6]
          exact congrArg (fun l => some (HO.ins C dx l)) (mflds_put m.c m.n t d)
        · rw [upd_ne hpt.symm, upd_ne hdt, upd_ne hpt.symm]
          exact upd_same
        · refine Paired.imp tr fun a b ha e => ?_
          have a1 : a ≠ p := fun z => by rw [z, p5] at e; cases e
          rw [upd_ne a1, upd_ne (ne_of_none e h5d), upd_ne a1]
          exact s6 _ _ e
        · rw [upd_ne (Ne.symm hpd)]
          exact upd_same
end
end K53
namespace K53
open PySem PySem.Spec PyProof.Rows L2 L2.KR

/-! ### dicts by fours -/
def k4 (f : Four) : List Key := [.inl (f.1 : Int), .inl (f.2.1 : Int), .inl (f.2.2.1 : Int), .inl (f.2.2.2 : Int)]
def v4 (f : Four) : List V := [.int (f.1 : Int), .int (f.2.1 : Int), .int (f.2.2.1 : Int), .int (f.2.2.2 : Int)]
theorem k4_v (f : Four) : (k4 f).map kV = v4 f := rfl
theorem k4_inj {f g : Four} (h : k4 f = k4 g) : f = g := by
  obtain ⟨f1, f2, f3, f4⟩ := f
  obtain ⟨g1, g2, g3, g4⟩ := g
  simp only [k4, List.cons.injEq, Sum.inl.injEq, and_true] at h
  obtain ⟨h1, h2, h3, h4⟩ := h
  have e1 : f1 = g1 := by omega
  have e2 : f2 = g2 := by omega
  have e3 : f3 = g3 := by omega
  have e4 : f4 = g4 := by omega
  rw [e1, e2, e3, e4]
abbrev MapAt {β : Type} (F : Hp → V → β → Prop) (H : Hp) (kvs : List (List Key × V)) (mt : List (Four × β)) : Prop := Paired (fun kv p => kv.1 = k4 p.1 ∧ F H kv.2 p.2) kvs mt
section
variable {β : Type} {F : Hp → V → β → Prop} {H H' : Hp} {kvs : List (List Key × V)} {mt : List (Four × β)}
theorem MapAt.keys (h : MapAt F H kvs mt) : kvs.map (·.1) = mt.map (fun p => k4 p.1) := by
  induction h with
  | nil => rfl
  | cons r _ ih => rw [List.map_cons, List.map_cons, ih, r.1]
theorem MapAt.no (h : MapAt F H kvs mt) {f : Four} (n : f ∉ mt.map (·.1)) : valV kvs (k4 f) = none := by
  induction h with
  | nil => rfl
  | @cons a b as bs r _ ih =>
    have hne : ¬ a.1 = k4 f := fun z => n (by rw [r.1] at z; rw [List.map_cons, k4_inj z]; exact List.mem_cons_self)
    rw [valV_neg hne]
    exact ih fun z => n (List.mem_cons_of_mem _ z)
theorem MapAt.yes (h : MapAt F H kvs mt) {f : Four} (n : f ∈ mt.map (·.1)) : ∃ v b, (f, b) ∈ mt ∧ valV kvs (k4 f) = some v ∧ F H v b := by
  induction h with
  | nil => cases n
  | @cons a b as bs r _ ih =>
    by_cases e : a.1 = k4 f
    · have e2 : b.1 = f := k4_inj (by rw [← r.1]; exact e)
      exact ⟨a.2, b.2, by rw [← e2]; exact List.mem_cons_self, valV_pos e, r.2⟩
    · have n2 : f ∈ bs.map (·.1) := by
        rcases List.mem_cons.mp n with z | z
        · exact absurd (by rw [r.1, z]) e
        · exact z
      obtain ⟨v, c, h1, h2, h3⟩ := ih n2
      exact ⟨v, c, List.mem_cons_of_mem _ h1, by rw [valV_neg e]; exact h2, h3⟩
theorem MapAt.put (h : MapAt F H kvs mt) {f : Four} (n : f ∉ mt.map (·.1)) {v : V} {b : β} (r : F H v b) : MapAt F H (putK kvs (k4 f) v) (mt ++ [(f, b)]) := by
  rw [putK_new v (h.no n)]
  exact Paired.snoc h ⟨rfl, r⟩
theorem MapAt.imp (h : MapAt F H kvs mt) {G : Hp → V → β → Prop} (m : ∀ v b, F H v b → G H' v b) : MapAt G H' kvs mt := Paired.imp h fun _ _ _ z => ⟨z.1, m _ _ z.2⟩
theorem MapAt.len (h : MapAt F H kvs mt) : kvs.length = mt.length := Paired.len h
end
/-- a tuple of these numbers -/
def IsTN (H : Hp) (v : V) (l : List Nat) : Prop := ∃ a, v = .ref a ∧ H a = some (.tup (nts l))
def FirstV (H : Hp) (v : V) (b : Nat × Nat × Nat) : Prop := IsTN H v [b.1, b.2.1, b.2.2]
theorem IsTN.kp {H H' : Hp} {v : V} {l : List Nat} (h : IsTN H v l) (s : ∀ a xs, H a = some (.tup xs) → H' a = some (.tup xs)) : IsTN H' v l := let ⟨a, h1, h2⟩ := h; ⟨a, h1, s _ _ h2⟩
/-- the first fours so far -/
structure FF (m : Mc) (H H' : Hp) (D : Addr) (d : Nat → Nat → Nat → Prop) : Prop where
  sm : Same H H'
  ex : ∃ kvs mt, H' D = some (.dT kvs) ∧ MapAt FirstV H' kvs mt ∧ (∀ p ∈ mt, p.2.1 < m.n ∧ p.2.2.1 < m.n ∧ p.2.2.2 < m.c ∧ p.1 = (p.2.1, p.2.2.1, m.to p.2.1 p.2.2.2, m.to p.2.2.1 p.2.2.2)) ∧ (mt.map (·.1)).Nodup ∧ (∀ s t x, d x s t → (s, t, m.to s x, m.to t x) ∈ mt.map (·.1))
theorem FF.mono {m : Mc} {H H' : Hp} {D : Addr} {d d' : Nat → Nat → Nat → Prop} (h : FF m H H' D d) (i : ∀ x s t, d' x s t → d x s t) : FF m H H' D d' := by
  obtain ⟨sm, kvs, mt, h1, h2, h3, h4, h5⟩ := h
  exact ⟨sm, kvs, mt, h1, h2, h3, h4, fun s t x q => h5 s t x (i x s t q)⟩
theorem FF.same {m : Mc} {H H1 H2 : Hp} {D : Addr} {d : Nat → Nat → Nat → Prop} (h : FF m H H1 D d) (s : Same H1 H2) : FF m H H2 D d := by
  obtain ⟨sm, kvs, mt, h1, h2, h3⟩ := h
  exact ⟨sm.trans s, kvs, mt, s _ _ h1, h2.imp fun v b z => z.kp fun a xs e => s _ _ e, h3⟩
theorem mt_le {β : Type} {mt : List (Four × β)} (nd : (mt.map (·.1)).Nodup) (h : ∀ f ∈ mt.map (·.1), f.1 < 4 ∧ f.2.1 < 4 ∧ f.2.2.1 < 4 ∧ f.2.2.2 < 4) : mt.length ≤ 256 := by
  have q := fours_le nd h
  rw [List.length_map] at q
  exact q
section
variable {P : Program} {w : World} {K : PySem.W.Frag} {mg : Str → Option Value} {base : Heap} {f C : Addr} {fd : FuncData}
def spFours (C : Addr) : Sp := fun vs H Q _ => ∃ (p : Addr) (m : Mc) (d : Addr), vs = [.ref p] ∧ MachAt C H p m d ∧ ∀ H' D, H D = none → FF m H H' D (fun x s t => x < m.c ∧ s < m.n ∧ t < m.n) → Q (.ref D) H'
theorem scFours : FnScope ["machine", "found", "command", "s", "one", "t", "other"] ["machine"] (defScope sFours) := ⟨rfl, rfl, rfl, by decide +kernel, rfl, by decide +kernel, by decide +kernel⟩
theorem ok_fours (F : Fun K "first_fours" "first_fours" sFours f fd) (T : Txt mg) (M : MTxt K mg C) : FnOk P w K mg base CX0 1 f fd ["machine"] (spFours C) := by
  refine F.ok scFours (fun vs H Q E h => ?_) (fun cdv A outer s H vs Q E hr h => ?_)
  · obtain ⟨p, m, d, rfl, _⟩ := h
    rfl
  · obtain ⟨p, m, d, rfl, ⟨ok, dx, sA, rs, h1, h2, h3⟩, k⟩ := h
    have hu := hu_of hr
    refine ⟨_, pss_cons (ps_set (i := 1) scFours.nd rfl (.inl rfl) pe_dnewT)
      (pss_cons (ps_for PassesOwn.never rfl (pi_range1 (by rfl) T.range (pa_cons (pe_fld (pv 0) rfl) pa_nil)) (pg_name (i := 2) scFours.nd rfl (.inl rfl))
        (pss_one (ps_for PassesOwn.never rfl (pi_enumT (by rfl) T.enum (pa_cons (pe_fld (pv 0) rfl) pa_nil)) (pg_tup rfl (pgs_cons (pg_name (i := 3) scFours.nd rfl (.inl rfl)) (pgs_cons (pg_name (i := 4) scFours.nd rfl (.inl rfl)) pgs_nil)))
          (pss_one (ps_for PassesOwn.never rfl (pi_enumT (by rfl) T.enum (pa_cons (pe_fld (pv 0) rfl) pa_nil)) (pg_tup rfl (pgs_cons (pg_name (i := 5) scFours.nd rfl (.inl rfl)) (pgs_cons (pg_name (i := 6) scFours.nd rfl (.inl rfl)) pgs_nil)))
            (pss_one (ps_expr (pe_dsetdT hu (pv 1) (pe_tup (pa_cons (pv 3) (pa_cons (pv 5) (pa_cons (pe_ix ix_tup (pv 4) (pv 2) (fun _ _ => rfl)) (pa_cons (pe_ix ix_tup (pv 6) (pv 2) (fun _ _ => rfl)) pa_nil)))))
              (pe_tup (pa_cons (pv 3) (pa_cons (pv 5) (pa_cons (pv 2) pa_nil)))) ⟨rfl, rfl, rfl, rfl⟩))))))))
      (pss_one (ps_ret (pv 1)))), ?_⟩
    intro D hD
    have s0 : Same H (upd H D (.dT [])) := same_new (fun _ _ e => e) hD
    have hc3 := ok.c3
    have hn4 : m.n ≤ 4 := ok.n4
    refine ⟨_, rfl, p, C, dx, _, _, rfl, s0 _ _ h1, M.cl, M.nC, lk_c _ _ _ _, (m.c : Int), rfl, by omega, by omega, ?_⟩
    rw [show ((m.c : Int).toNat) = m.c by omega]
    refine for_range (lo := 0) (n := m.c) (fun i st H' => FF m H H' D (fun x s t => x < i ∧ s < m.n ∧ t < m.n) ∧ ∃ y2 y3 y4 y5 y6, st = [some (.ref p), some (.ref D), y2, y3, y4, y5, y6])
      ⟨⟨s0, [], [], upd_same, .nil, fun _ h => absurd h List.not_mem_nil, List.nodup_nil, fun _ _ _ h => absurd h.1 (Nat.not_lt_zero _)⟩, none, none, none, none, none, rfl⟩ ?_ ?_
    · rintro i st H2 hi ⟨f2, y2, y3, y4, y5, y6, rfl⟩
      have ei : ((0 : Int) + (i : Nat)) = (i : Int) := by omega
      refine ⟨_, rfl, p, C, dx, _, _, rfl, f2.sm _ _ h1, M.cl, M.nS, lk_s _ _ _ _, sA, _, rfl, SqT.of (f2.sm _ _ h2), ?_⟩
      refine for_it (walk_enumT (K := K) (a := sA) (xs := rs.map V.ref)) (fun j st H' => FF m H H' D (fun x s t => (x < i ∧ s < m.n ∧ t < m.n) ∨ (x = i ∧ s < j ∧ t < m.n)) ∧ ∃ y3 y4 y5 y6, st = [some (.ref p), some (.ref D), some (.int (i : Int)), y3, y4, y5, y6])
        ⟨f2.mono fun x s t h => h.elim id fun q => absurd q.2.1 (Nat.not_lt_zero _), y3, y4, y5, y6, by rw [ei]; rfl⟩ (fun j st H' _ q => SqT.of (q.1.sm _ _ h2)) ?_ ?_
      · rintro j x st H3 H4 hj ⟨f3, z3, z4, z5, z6, rfl⟩ ⟨t, x0, y0, rfl, nt, rfl, g1, g2⟩
        cases g1
        rw [List.length_map, TupsAt.len h3] at hj
        obtain ⟨r, a1, a2, a3⟩ := h3.row hj
        have g2' : (rs.map V.ref)[j]? = some y0 := g2
        rw [a2] at g2'
        cases g2'
        have f4 := f3.same (same_new (fun _ _ e => e) nt : Same H3 (upd H3 t (.tup [.int (j : Nat), .ref r])))
        refine ⟨t, _, rfl, SqT.of upd_same, rfl, _, _, rfl, _, _, rfl, rfl, ?_⟩
        refine ⟨_, rfl, p, C, dx, _, _, rfl, f4.sm _ _ h1, M.cl, M.nS, lk_s _ _ _ _, sA, _, rfl, SqT.of (f4.sm _ _ h2), ?_⟩
        refine for_it (walk_enumT (K := K) (a := sA) (xs := rs.map V.ref)) (fun l st H' => FF m H H' D (fun x s t => (x < i ∧ s < m.n ∧ t < m.n) ∨ (x = i ∧ s < j ∧ t < m.n) ∨ (x = i ∧ s = j ∧ t < l)) ∧ ∃ y5 y6, st = [some (.ref p), some (.ref D), some (.int (i : Int)), some (.int (j : Int)), some (.ref r), y5, y6])
          ⟨f4.mono fun x s t h => by rcases h with h | h | h; exact .inl h; exact .inr h; exact absurd h.2.2 (Nat.not_lt_zero _), z5, z6, rfl⟩ (fun j st H' _ q => SqT.of (q.1.sm _ _ h2)) ?_ ?_
        · rintro l x st H5 H6 hl ⟨f5, w5, w6, rfl⟩ ⟨t', x0, y0, rfl, nt', rfl, g1, g2⟩
          cases g1
          rw [List.length_map, TupsAt.len h3] at hl
          obtain ⟨r', b1, b2, b3⟩ := h3.row hl
          have g2' : (rs.map V.ref)[l]? = some y0 := g2
          rw [b2] at g2'
          cases g2'
          have f6 := f5.same (same_new (fun _ _ e => e) nt' : Same H5 (upd H5 t' (.tup [.int (l : Nat), .ref r'])))
          refine ⟨t', _, rfl, SqT.of upd_same, rfl, _, _, rfl, _, _, rfl, rfl, ?_⟩
          generalize hH6 : upd H5 t' (.tup [.int (l : Nat), .ref r']) = H6 at f6 ⊢
          obtain ⟨sm6, kvs, mt, e1, e2, e3, e4, e5⟩ := f6
          refine ⟨_, rfl, D, rfl, .inr ⟨kvs, .inl e1⟩, ?_⟩
          refine ⟨_, rfl, _, rfl, _, rfl, _, rfl, r, _, _, _, rfl, rfl, SqT.of (sm6 _ _ a3), atI_nat (ok.at_to (s := j) hj hi), _, rfl, _, rfl, r', _, _, _, rfl, rfl, SqT.of (sm6 _ _ b3), atI_nat (ok.at_to (s := l) hl hi), (by show 4 ≤ sizeLine; decide), fun q hq => ?_⟩
          refine ⟨_, rfl, _, rfl, _, rfl, (by show 3 ≤ sizeLine; decide), fun z hz => ?_⟩
          have s7 : Same H6 (upd (upd H6 q (.tup (v4 (j, l, m.to j i, m.to l i)))) z (.tup (nts [j, l, i]))) := same_new (same_new (fun _ _ e => e) hq) hz
          have lt4 : ∀ f ∈ mt.map (·.1), f.1 < 4 ∧ f.2.1 < 4 ∧ f.2.2.1 < 4 ∧ f.2.2.2 < 4 := fun f hf => by
            obtain ⟨b, hb, rfl⟩ := List.mem_map.mp hf
            obtain ⟨q1, q2, q3, q4⟩ := e3 b hb
            have t1 := ok.to_lt q1 q3
            have t2 := ok.to_lt q2 q3
            rw [q4]
            refine ⟨?_, ?_, ?_, ?_⟩ <;> simp only <;> omega
          have ml := mt_le e4 lt4
          have el := e2.len
          have qz : q ≠ z := fun e => by rw [← e, upd_same] at hz; cases hz
          refine ⟨kvs, k4 (j, l, m.to j i, m.to l i), q, s7 _ _ e1, rfl, by rw [upd_ne qz]; exact upd_same, small (by omega), fun v hv => ?_, fun hv => ?_⟩
          · refine ⟨⟨sm6.trans s7, kvs, mt, s7 _ _ e1, e2.imp fun v b z => z.kp fun a xs e => s7 _ _ e, e3, e4, fun s' t' x' h => ?_⟩, _, _, rfl⟩
            by_cases hin : (s', t', m.to s' x', m.to t' x') ∈ mt.map (·.1)
            · exact hin
            · by_cases hin2 : (j, l, m.to j i, m.to l i) ∈ mt.map (·.1)
              · rcases h with h | h | ⟨h1', h2', h3'⟩
                · exact e5 _ _ _ (.inl h)
                · exact e5 _ _ _ (.inr (.inl h))
                · by_cases hlt : t' < l
                  · exact e5 _ _ _ (.inr (.inr ⟨h1', h2', hlt⟩))
                  · have : t' = l := by omega
                    subst this h1' h2'
                    exact hin2
              · rw [e2.no hin2] at hv
                cases hv
          · have hin2 : (j, l, m.to j i, m.to l i) ∉ mt.map (·.1) := fun hin => by
              obtain ⟨v, b, _, hv', _⟩ := e2.yes hin
              rw [hv] at hv'
              cases hv'
            refine ⟨⟨same_updF (sm6.trans s7) hD, _, mt ++ [((j, l, m.to j i, m.to l i), (j, l, i))], upd_same, ?_, fun b hb => ?_, ?_, fun s' t' x' h => ?_⟩, _, _, rfl⟩
            · refine (MapAt.put (F := FirstV) (H := upd (upd H6 q (.tup (v4 (j, l, m.to j i, m.to l i)))) z (.tup (nts [j, l, i]))) (e2.imp fun v b z => z.kp fun a xs e => s7 _ _ e) hin2 (b := (j, l, i)) (v := .ref z) ⟨z, rfl, upd_same⟩).imp fun v b z' => z'.kp fun a xs e => ?_
              rw [upd_ne (show a ≠ D from fun y => by rw [y, s7 _ _ e1] at e; cases e)]
              exact e
            · rcases List.mem_append.mp
                                                                        hb with hb | hb
              · exact e3 b hb
              · rw [List.mem_singleton.mp
                                                                          hb]
                exact ⟨hj, hl, hi, rfl⟩
            · rw [List.map_append,
                                                                        List.nodup_append]
              refine ⟨e4, by simp, fun x hx y hy e => ?_⟩
              simp only [List.map_cons, List.map_nil,
                                                                          List.mem_singleton] at hy
              exact hin2 (by rw [← hy, ← e]; exact hx)
            · rw [List.map_append]
              rcases h with h | h | ⟨h1', h2', h3'⟩
              · exact List.mem_append_left _ (e5 _ _ _ (.inl h))
              · exact List.mem_append_left _ (e5 _ _ _ (.inr (.inl h)))
              · by_cases hlt : t' < l
                · exact List.mem_append_left _ (e5 _ _ _ (.inr (.inr ⟨h1', h2', hlt⟩)))
                · have : t' = l := by omega
                  subst this h1' h2'
                  exact List.mem_append_right _ (by simp)
        · rintro st H5 ⟨f5, w5, w6, rfl⟩
          rw [List.length_map, TupsAt.len h3] at f5
          refine ⟨f5.mono fun x s t h => ?_, _, _, _, _, rfl⟩
          rcases h with h | ⟨q1, q2, q3⟩
          · exact .inl h
          · by_cases e : s < j
            · exact .inr (.inl ⟨q1, e, q3⟩)
            · exact .inr (.inr ⟨q1, by omega, q3⟩)
      · rintro st H3 ⟨f3, z3, z4, z5, z6, rfl⟩
        rw [List.length_map, TupsAt.len h3] at f3
        refine ⟨f3.mono fun x s t h => ?_, _, _, _, _, _, rfl⟩
        by_cases e : x < i
        · exact .inl ⟨e, h.2⟩
        · exact .inr ⟨by omega, h.2⟩
    · rintro st H2 ⟨f2, y2, y3, y4, y5, y6, rfl⟩
      exact ⟨_, rfl, k H2 D hD f2⟩
end
end K53
namespace K53
open PySem PySem.Spec PyProof.Rows L2 L2.KR

theorem dcT_it {J : It} {n : Nat} {G : Hp → Prop} {Y : Nat → Hp → V → Hp → Prop} (wk : Walk J n G Y) {g : TG} {tt : TT} {tk tv : TE} {vs : List Nat} {st : L2.St} {H1 : Hp} {D : Addr} {Qd : Hp → Prop} (Pv : Nat → Hp → Prop) (h0 : Pv 0 (upd H1 D (.dT []))) (hG : ∀ i H, i ≤ n → Pv i H → G H)
    (hs : ∀ i x H H', i < n → Pv i H → Y i H x H' → g x (wipe st vs) H' fun st2 H2 => wipe st2 vs = wipe st vs ∧ tt st2 H2 fun b H3 =>
      if b = true then tk st2 H3 fun y H4 => tv st2 H4 fun z H5 => ∃ kvs k c, y = .ref c ∧ H5 c = some (.tup (k.map kV)) ∧ H5 D = some (.dT kvs) ∧ kvs.length < sizeLine ∧ Pv (i + 1) (upd H5 D (.dT (putK kvs k z))) else Pv (i + 1) H3) (hd : ∀ H, Pv n H → Qd H) :
    ∃ W : Nat → Nat → Hp → Prop, (∃ m, W 0 m (upd H1 D (.dT []))) ∧ ∀ i m H, W i m H →
      (J.stop i H ∧ Qd H) ∨ (J.go i H ∧ ∃ Nx : Hp → Prop, (∀ H', Nx H' → ∃ m', m' < m ∧ W (i + 1) m' H') ∧ ∀ x H', J.yld i H x H' → g x (wipe st vs) H' fun st2 H2 => wipe st2 vs = wipe st vs ∧ tt st2 H2 fun b H3 =>
        if b = true then tk st2 H3 fun y H4 => tv st2 H4 fun z H5 => ∃ kvs k c, y = .ref c ∧ H5 c = some (.tup (k.map kV)) ∧ H5 D = some (.dT kvs) ∧ kvs.length < sizeLine ∧ Nx (upd H5 D (.dT (putK kvs k z))) else Nx H3) := by
  refine ⟨fun i m H => m = n - i ∧ i ≤ n ∧ Pv i H,
                                                              ⟨n, by simp, Nat.zero_le _, h0⟩, ?_⟩
  rintro i m H ⟨rfl, hi, p⟩
  by_cases hlt : i < n
  · exact .inr ⟨wk.goes i H hlt (hG i H hi p), Pv (i + 1), fun H' p' => ⟨n - (i + 1), by omega, rfl, hlt, p'⟩, fun x H' y => hs i x H H' hlt p (wk.yields i H x H' hlt (hG i H hi p) y)⟩
  · have e : i = n := by omega
    subst e
    exact .inl ⟨wk.stops H (hG _ H hi p), hd H p⟩
/-- a four's tuple -/
abbrev FoursAt (H : Hp) (as : List Addr) (fs : List Four) : Prop := Paired (fun a f => H a = some (.tup (v4 f))) as fs
def MetV (H : Hp) (v : V) (b : Wit) : Prop := ∃ a s u w, v = .ref a ∧ H a = some (.tup [.ref s, .ref u, .ref w]) ∧ H s = some (.tup (nts [b.s, b.t, b.x])) ∧ H u = some (.tup (nts b.u)) ∧ H w = some (.tup (nts b.w))
theorem MetV.kp {H H' : Hp} {v : V} {b : Wit} (h : MetV H v b) (s : ∀ a xs, H a = some (.tup xs) → H' a = some (.tup xs)) : MetV H' v b := by
  obtain ⟨a, s0, u, w, h1, h2, h3, h4, h5⟩ := h
  exact ⟨a, s0, u, w, h1, s _ _ h2, s _ _ h3, s _ _ h4, s _ _ h5⟩
/-- what number_fault tells -/
def NumV (m : Mc) (H : Hp) (v : V) : Prop := (v = .non ∧ ∀ j, ¬ Fault m j) ∨ ∃ t u w wt k, v = .ref t ∧ H t = some (.tup [.int (wt.s : Nat), .int (wt.t : Nat), .int (wt.x : Nat), .ref u, .ref w]) ∧ H u = some (.tup (nts wt.u)) ∧ H w = some (.tup (nts wt.w)) ∧ FaultBy m wt k ∧ (∀ j, j < k → ¬ Fault m j) ∧ k ≤ 1000
theorem NumV.kp {m : Mc} {H H' : Hp} {v : V} (h : NumV m H v) (s : ∀ a xs, H a = some (.tup xs) → H' a = some (.tup xs)) : NumV m H' v := by
  rcases h with h | ⟨t, u, w, wt, k, h1, h2, h3, h4, h5⟩
  · exact .inl h
  · exact .inr ⟨t, u, w, wt, k, h1, s _ _ h2, s _ _ h3, s _ _ h4, h5⟩
/-- the search's state within a level, over the heap H1 at the level's head -/
structure XS (m : Mc) (H1 H' : Hp) (M Lt : Addr) (k : Nat) (met : Met) (d : Four → Nat → Nat → Prop) : Prop where
  kp : Kp [M] H1 H'
  ex : ∃ kvs met' later ls, H' M = some (.dT kvs) ∧ MapAt MetV H' kvs met' ∧ Mid m k met met' later d ∧ H' Lt = some (.lst (ls.map V.ref)) ∧ FoursAt H' ls later
theorem XS.mono {m : Mc} {H1 H' : Hp} {M Lt : Addr} {k : Nat} {met : Met} {d d' : Four → Nat → Nat → Prop} (h : XS m H1 H' M Lt k met d) (i : ∀ f a b, d' f a b → d f a b) : XS m H1 H' M Lt k met d' := by
  obtain ⟨kp, kvs, met', later, ls, h1, h2, h3, h4⟩ := h
  exact ⟨kp, kvs, met', later, ls, h1, h2, h3.mono i, h4⟩
theorem XS.same {m : Mc} {H1 H2 H3 : Hp} {M Lt : Addr} {k : Nat} {met : Met} {d : Four → Nat → Nat → Prop} (h : XS m H1 H2 M Lt k met d) (s : Same H2 H3) : XS m H1 H3 M Lt k met d := by
  obtain ⟨kp, kvs, met', later, ls, h1, h2, h3, h4, h5⟩ := h
  exact ⟨kp.trans (Kp.of_same s), kvs, met', later, ls, s _ _ h1, h2.imp fun v b z => z.kp fun a xs e => s _ _ e, h3, s _ _ h4, Paired.imp h5 fun _ _ _ e => s _ _ e⟩
theorem sound_lt {m : Mc} (ok : m.Ok) {met : Met} {k : Nat} (h : ∀ p ∈ met, ∃ j, j ≤ k ∧ Rch m p.1 p.2 j) (nd : (met.map (·.1)).Nodup) : met.length ≤ 256 := by
  refine mt_le nd fun f hf => ?_
  obtain ⟨p, hp, rfl⟩ := List.mem_map.mp hf
  obtain ⟨j, _, r⟩ := h p hp
  exact r.lt4 ok
def fourL (f : Four) : List Nat := [f.1, f.2.1, f.2.2.1, f.2.2.2]
theorem v4_nts (f : Four) : v4 f = nts (fourL f) := rfl
def rowsV (rs : List Addr) (l : List Nat) : List V := l.map fun a => V.ref (rs.getD a 0)
theorem rows_at {rs : List Addr} {a : Nat} {r : Addr} (h : rs[a]? = some r) : rs.getD a 0 = r := by
  unfold List.getD
  rw [h]
  rfl
theorem nd_uniq {met : Met} (nd : (met.map (·.1)).Nodup) {f : Four} {a b : Wit} (h1 : (f, a) ∈ met) (h2 : (f, b) ∈ met) : a = b := by
  induction met with
  | nil => cases h1
  | cons p r ih =>
    rw [List.map_cons,
                                                                List.nodup_cons] at nd
    rcases List.mem_cons.mp h1 with e1 | e1
    · rcases List.mem_cons.mp h2 with e2 | e2
      · exact congrArg Prod.snd (e1.trans e2.symm)
      · exact absurd (by rw [← e1]; exact List.mem_map.mpr ⟨_, e2, rfl⟩) nd.1
    · rcases List.mem_cons.mp h2 with e2 | e2
      · exact absurd (by rw [← e2]; exact List.mem_map.mpr ⟨_, e1, rfl⟩) nd.1
      · exact ih nd.2 e1 e2
theorem g_i {i : Nat} {v : V} {st : L2.St} {H : Hp} {Q : L2.St → Hp → Prop} (h : Q (st.set i (some v)) H) : gName i v st H Q := h
theorem seq_i {a b : TS} {D : Ends} {st : L2.St} {H : Hp} (h : a { D with nx := b D } st H) : tSeq a b D st H := h
theorem ifS_and {t1 t2 : TT} {a : TS} {D : Ends} {st : L2.St} {H : Hp} {b1 b2 : Bool} (h1 : ∀ Q : Bool → Hp → Prop, Q b1 H → t1 st H Q) (h2 : b1 = true → ∀ Q : Bool → Hp → Prop, Q b2 H → t2 st H Q)
    (yes : b1 = true → b2 = true → a D st H) (no : ¬ (b1 = true ∧ b2 = true) → D.nx st H) : tIfS (tAnd t1 t2) a tNext D st H := by
  refine h1 _ ?_
  cases b1 with
  | false => exact iteF (iteF (no fun z => by cases z.1))
  | true =>
    refine iteT (h2 rfl _ ?_)
    cases b2 with
    | false => exact iteF (no fun z => by cases z.2)
    | true => exact iteT (yes rfl rfl)
theorem ifS_andS {t1 t2 : TT} {a u : TS} {D : Ends} {st : L2.St} {H : Hp} {b1 b2 : Bool} (h1 : ∀ Q : Bool → Hp → Prop, Q b1 H → t1 st H Q) (h2 : b1 = true → ∀ Q : Bool → Hp → Prop, Q b2 H → t2 st H Q)
    (yes : b1 = true → b2 = true → a { D with nx := u D } st H) (no : ¬ (b1 = true ∧ b2 = true) → u D st H) : tSeq (tIfS (tAnd t1 t2) a tNext) u D st H := ifS_and h1 h2 yes no
def St17 (a b c d : V) (st : L2.St) : Prop := ∃ j4 j5 j6 j7 j8 j9 j10 j11 j12 j13 j14 j15 j16, st = [some a, some b, some c, some d, j4, j5, j6, j7, j8, j9, j10, j11, j12, j13, j14, j15, j16]
/-- at the search's head -/
def WX (m : Mc) (H : Hp) (p B M : Addr) (mu : Nat) (st : L2.St) (H' : Hp) : Prop := ∃ (k : Nat) (met : Met) (fresh : List Four) (kvs : List (List Key × V)) (fs : List Addr) (F : Addr), mu = 2 * (256 - met.length) + (if fresh = [] then 0 else 1) ∧ Same H H' ∧ H' M = some (.dT kvs) ∧ MapAt MetV H' kvs met ∧ Lev m k met fresh ∧
  H' F = some (.lst (fs.map V.ref)) ∧ FoursAt H' fs fresh ∧ (fresh ≠ [] → k ≤ met.length) ∧ St17 (.ref p) (.ref B) (.ref M) (.ref F) st
theorem kp_at {M : Addr} {H H' : Hp} {kvs : List (List Key × V)} (kp : Kp [M] H H') (hM : H M = some (.dT kvs)) {b : Addr} {o : HO} (e : H b = some o) (ne : o ≠ .dT kvs) : H' b = some o := kp b o e fun z => ne (by rw [List.mem_singleton.mp z, hM] at e; exact (Option.some.inj e).symm)
section
variable {P : Program} {w : World} {K : PySem.W.Frag} {mg : Str → Option Value} {base : Heap} {f C : Addr} {fd : FuncData}
def spExN (C : Addr) : Sp := fun vs H Q _ => ∃ (p : Addr) (m : Mc) (d : Addr), vs = [.ref p] ∧ MachAt C H p m d ∧ ∀ H' v, Same H H' → NumV m H' v → Q v H'
abbrev scExNN : List Str := ["machine", "begun", "met", "fresh", "later", "four", "p", "q", "y", "z", "start", "u", "w", "a", "b", "after", "state"]
theorem scExN : FnScope scExNN ["machine"] (defScope sExN) := ⟨rfl, rfl, rfl, by decide +kernel, rfl, by decide +kernel, by decide +kernel⟩
theorem ok_exN (F : Fun K "explored" "explored" sExN f fd) (T : Txt mg) (M_ : MTxt K mg C) (cF : Df P w K mg base 1 "first_fours" ["machine"] (spFours C)) : FnOk P w K mg base CX0 2 f fd ["machine"] (spExN C) := by
  refine F.ok scExN (fun vs H Q E h => ?_) (fun cdv A outer s H vs Q E hr h => ?_)
  · obtain ⟨p, m, d, rfl, _⟩ := h
    rfl
  · obtain ⟨p, m, d, rfl, hm, k⟩ := h
    have hu := hu_of hr
    refine ⟨_, (pss_cons (ps_set (i := 1) scExN.nd rfl (.inr rfl) (pe_df cF hr (by decide) rfl (pa_cons (pv 0) pa_nil)))
      (pss_cons (ps_lock (ps_setDcT (i := 2) (own := [("four", 5)]) (g := gName 5) (tt := tYes) hu rfl scExN.nd rfl rfl (sw_dict rfl rfl rfl (by decide +kernel)) (pi_keys (pv 1)) (blkOk_by (own := [("four", 5)]) (N := scExNN) (sc := defScope sExN) (by decide +kernel))
          (fun _ _ _ _ _ => pg_name (i := 5) scExN.nd rfl (Or.inl rfl)) (fun _ _ _ _ _ => pts_nil) (fun _ _ _ _ _ => pv 5) (fun _ _ _ _ _ => pe_tup (pa_cons (pe_dget hu (pv 1) (pv 5) (fun _ _ => rfl)) (pa_cons (pe_tup pa_nil) (pa_cons (pe_tup pa_nil) pa_nil))))))
      (pss_cons (ps_set (i := 3) scExN.nd rfl (.inl rfl) (pe_callTy (call_list_dT rfl) (by rfl) T.list (by decide +kernel) (pa_cons (pv 2) pa_nil)))
      (pss_cons (ps_while PassesOwn.never (pt_cmpR op_gt (pe_callB (lenK (K := K) rfl) (by rfl) T.len PySem.boot_len (pa_cons (pv 3) pa_nil)) pe_int (nomark _))
      (pss_cons (ps_set (i := 4) scExN.nd rfl (.inl rfl) (pe_lst pa_nil))
      (pss_cons (ps_for PassesOwn.never rfl (pi_list (pv 3)) (pg_name (i := 5) scExN.nd rfl (.inl rfl))
      (pss_cons (ps_asg (pe_lc (own := [("state", 16)]) (g := gName 16) (tt := tYes) (by rfl) scExN.nd (pi_tup (pv 5)) (blkOk_by (own := [("state", 16)]) (N := scExNN) (sc := defScope sExN) (by decide +kernel)) (fun _ _ _ _ _ => pg_name (i := 16) scExN.nd rfl (Or.inl rfl)) (fun _ _ _ _ _ => pts_nil) (fun _ _ _ _ _ => (pe_ix (ixT (K := K) rfl) (pe_fldK (K := K) rfl (pv 0) rfl) (pv 16) (fun _ _ => rfl)))) (pg_unl rfl (pgs_cons (pg_name (i := 6) scExN.nd rfl (.inl rfl)) (pgs_cons (pg_name (i := 7) scExN.nd rfl (.inl rfl)) (pgs_cons (pg_name (i := 8) scExN.nd rfl (.inl rfl)) (pgs_cons (pg_name (i := 9) scExN.nd rfl (.inl rfl)) pgs_nil))))))
      (pss_cons (ps_asg (pe_dget hu (pv 2) (pv 5) (fun _ _ => rfl)) (pg_tup rfl (pgs_cons (pg_name (i := 10) scExN.nd rfl (.inl rfl)) (pgs_cons (pg_name (i := 11) scExN.nd rfl (.inl rfl)) (pgs_cons (pg_name (i := 12) scExN.nd rfl (.inl rfl)) pgs_nil)))))
      (pss_one (ps_for PassesOwn.never rfl (pi_range1 (by rfl) T.range (pa_cons (pe_fldK (K := K) rfl (pv 0) rfl) pa_nil)) (pg_name (i := 13) scExN.nd rfl (.inl rfl))
      (pss_one (ps_for PassesOwn.never rfl (pi_range1 (by rfl) T.range (pa_cons (pe_fldK (K := K) rfl (pv 0) rfl) pa_nil)) (pg_name (i := 14) scExN.nd rfl (.inl rfl))
      (pss_cons (ps_set (i := 15) scExN.nd rfl (.inl rfl) (pe_tup (pa_cons (pe_ix (ixT (K := K) rfl) (pv 6) (pv 13) (fun _ _ => rfl)) (pa_cons (pe_ix (ixT (K := K) rfl) (pv 7) (pv 14) (fun _ _ => rfl)) (pa_cons (pe_ix (ixT (K := K) rfl) (pv 8) (pv 13) (fun _ _ => rfl)) (pa_cons (pe_ix (ixT (K := K) rfl) (pv 9) (pv 14) (fun _ _ => rfl)) pa_nil))))))
      (pss_cons (ps_if (PW.pt (pw_and (pt_cmpR op_eq (pe_ix (ixT (K := K) rfl) (pv 15) pe_int (fun _ _ => rfl)) (pe_ix (ixT (K := K) rfl) (pv 15) pe_int (fun _ _ => rfl)) (nomark _)) (pw_and1 (pt_cmpR op_ne (pe_ix (ixT (K := K) rfl) (pv 15) pe_int (fun _ _ => rfl)) (pe_ix (ixT (K := K) rfl) (pv 15) pe_int (fun _ _ => rfl)) (nomark _))))) (pss_one (ps_ret (pe_tup (StX.pa_star (pv 10) (pa_cons (pe_tup (StX.pa_star (pv 11) (pa_cons (pv 13) pa_nil))) (pa_cons (pe_tup (StX.pa_star (pv 12) (pa_cons (pv 14) pa_nil))) pa_nil)))))) pss_nil)
      (pss_one (ps_if (pt_cmp (pc_dnotin hu (pv 15) (pv 2))) (pss_cons (ps_dput hu (pv 2) (pv 15) (pe_tup (pa_cons (pv 10) (pa_cons (pe_tup (StX.pa_star (pv 11) (pa_cons (pv 13) pa_nil))) (pa_cons (pe_tup (StX.pa_star (pv 12) (pa_cons (pv 14) pa_nil))) pa_nil)))) rfl)
      (pss_one (ps_expr (pe_bm PySem.F.plainAttrs_list PySem.F.slot_list_append PySem.F.type_list_append mt_append (pv 4) (pa_cons (pv 15) pa_nil))))) pss_nil)))))))))))
      (pss_one (ps_set (i := 3) scExN.nd rfl (.inl rfl) (pv 4))))))
      (pss_one (ps_ret pe_non)))))), ?_⟩
    obtain ⟨ok, dx, sA, rs, h1, h2, h3⟩ := id hm
    have c1 := ok.c1
    have c3 := ok.c3
    -- begun
    refine ⟨_, rfl, p, m, d, rfl, hm, fun H1 B hB f1 => ?_⟩
    obtain ⟨s1, kvs0, mt, e1, e2, e3, e4, e5⟩ := f1
    have ml : mt.length ≤ 256 := mt_le e4 fun f hf => by
      obtain ⟨b, hb, rfl⟩ := List.mem_map.mp hf
      obtain ⟨q1, q2, q3, q4⟩ := e3 b hb
      have t1 := ok.to_lt q1 q3
      have t2 := ok.to_lt q2 q3
      have n4 : m.n ≤ 4 := ok.n4
      rw [q4]
      refine ⟨?_, ?_, ?_, ?_⟩ <;> simp only <;> omega
    -- met
    refine ⟨B, .dT kvs0, e1, True.intro, fun od => ?_⟩
    refine ⟨_, rfl, B, od, rfl, .inr ⟨kvs0, upd_same, fun M hM => ?_⟩⟩
    have hMB : M ≠ B := fun z => by rw [z, upd_same] at hM; cases hM
    have hM1 : H1 M = none := by rw [upd_ne hMB] at hM; exact hM
    have hM0 : H M = none := s1.free hM1
    have toL : ∀ a xs, H1 a = some (.tup xs) → upd H1 B (.frz od (.dT kvs0)) a = some (.tup xs) := fun a xs e => by
      rw [upd_ne (show a ≠ B from fun z => by rw [z, e1] at e; cases e)]
      exact e
    refine dcT_it (walk_keysT (d := B) (o := od) (kvs := kvs0)) (fun i H' => Same H H' ∧ H' B = some (.frz od (.dT kvs0)) ∧ MapAt FirstV H' kvs0 mt ∧ ∃ kvs met, H' M = some (.dT kvs) ∧ MapAt MetV H' kvs met ∧ met.map (·.1) = (mt.map (·.1)).take i ∧ ∀ q ∈ met, Rch m q.1 q.2 0)
      ⟨same_updF (same_updF s1 hB) hM0, by rw [upd_ne hMB.symm]; exact upd_same, e2.imp fun v b z => z.kp fun a xs e => by rw [upd_ne (ne_of_none (toL _ _ e) hM)]; exact toL _ _ e, [], [], upd_same, .nil, rfl, fun _ h => absurd h List.not_mem_nil⟩ (fun i H' _ q => q.2.1) ?_ ?_
    · rintro i x H2 H3 hi ⟨s2, b2, f2, kvs, met, g1, g2, g3, g4⟩ ⟨rfl, kk, v0, q, hk, rfl, hq⟩
      obtain ⟨⟨f, b⟩, hmt, hkf, hF⟩ := Paired.get1 e2 hk
      have hkf' : kk = k4 f := hkf
      subst hkf'
      have fin : f ∈ mt.map (·.1) := List.mem_map.mpr ⟨_, List.mem_of_getElem? hmt, rfl⟩
      obtain ⟨v, b', hb', hv, a0, hv0, ha0⟩ := f2.yes fin
      refine ⟨rfl, ?_⟩
      refine ⟨_, rfl, _, rfl, _, rfl, B, v, rfl, .inr ⟨kvs0, k4 f, q, .inr ⟨od, b2⟩, rfl, hq, hv.symm⟩, Nat.zero_le _, fun u hu0 => ⟨Nat.zero_le _, fun w hw0 => ⟨(by show 3 ≤ sizeLine; decide), fun t ht => ?_⟩⟩⟩
      have sm : Same H3 (upd (upd (upd H3 u (.tup [])) w (.tup [])) t (.tup [v, .ref u, .ref w])) := same_new (same_new (same_new (fun _ _ e => e) hu0) hw0) ht
      have nin : f ∉ met.map (·.1) := by
        rw [g3]
        intro hin
        obtain ⟨j, hj⟩ := List.mem_iff_getElem?.mp hin
        have e8 : (mt.map (·.1))[i]? = some f := by rw [List.getElem?_map, hmt]; rfl
        have hji : j < i := by
          have q := (List.getElem?_eq_some_iff.mp hj).1
          rw [List.length_take] at q
          omega
        rw [List.getElem?_take_of_lt hji] at hj
        have e9 := (List.getElem?_inj (List.getElem?_eq_some_iff.mp hj).1 e4).mp (hj.trans e8.symm)
        omega
      have lm : met.length ≤ 256 := by
        have q := congrArg List.length g3
        rw [List.length_map, List.length_take, List.length_map] at q
        omega
      have lk : kvs.length = met.length := g2.len
      obtain ⟨y1, y2, y3, y4⟩ := e3 _ hb'
      refine ⟨kvs, k4 f, q, rfl, sm _ _ hq, sm _ _ g1, small (by omega), same_updF (s2.trans sm) hM0, ?_, ?_, _, met ++ [(f, ⟨b'.1, b'.2.1, b'.2.2, [], []⟩)], upd_same, ?_, ?_, ?_⟩
      · rw [upd_ne hMB.symm]
        exact sm _ _ b2
      · refine f2.imp fun v b z => z.kp fun a xs e => ?_
        rw [upd_ne (show a ≠ M from fun z => by rw [z, g1] at e; cases e)]
        exact sm _ _ e
      · have tM : ∀ a xs, upd (upd (upd H3 u (.tup [])) w (.tup [])) t (.tup [v, .ref u, .ref w]) a = some (.tup xs) → upd (upd (upd (upd H3 u (.tup [])) w (.tup [])) t (.tup [v, .ref u, .ref w])) M (.dT (putK kvs (k4 f) (.ref t))) a = some (.tup xs) := fun a xs e => by
          rw [upd_ne (show a ≠ M from fun z => by rw [z, sm _ _ g1] at e; cases e)]
          exact e
        refine (MapAt.put (F := MetV) (H := upd (upd (upd H3 u (.tup [])) w (.tup [])) t (.tup [v, .ref u, .ref w])) (g2.imp fun v b z => z.kp fun a xs e => sm _ _ e) nin (v := .ref t) (b := ⟨b'.1, b'.2.1, b'.2.2, [], []⟩) ?_).imp fun v b z => z.kp tM
        have tw : w ≠ t := fun z => by rw [← z, upd_same] at ht; cases ht
        have uw : u ≠ w := fun z => by rw [← z, upd_same] at hw0; cases hw0
        have ut : u ≠ t := fun z => by rw [← z, upd_ne uw, upd_same] at ht; cases ht
        refine ⟨t, a0, u, w, rfl, by rw [upd_same, hv0], sm _ _ ha0, ?_, ?_⟩
        · rw [upd_ne ut, upd_ne uw]
          exact upd_same
        · rw [upd_ne tw]
          exact upd_same
      · rw [List.map_append, g3, take_snoc (show (mt.map (·.1))[i]? = some f by rw [List.getElem?_map, hmt]; rfl)]
        rfl
      · intro q hq'
        rcases List.mem_append.mp hq' with hq' | hq'
        · exact g4 q hq'
        · rw [List.mem_singleton.mp hq']
          exact ⟨⟨y1, y2, y3, RowOk.nil m, RowOk.nil m, rfl, rfl⟩, y4.symm⟩
    · rintro H2 ⟨s2, b2, f2, kvs, met, g1, g2, g3, g4⟩
      rw [show kvs0.length = (mt.map (·.1)).length by rw [List.length_map]; exact e2.len, List.take_length] at g3
      refine ⟨b2, ?_⟩
      -- fresh
      have toB : ∀ {a o}, H2 a = some o → o ≠ .frz od (.dT kvs0) → upd H2 B (.dT kvs0) a = some o := fun {a o} e ne => by
        rw [upd_ne (show a ≠ B from fun z => by rw [z, b2] at e; exact ne (Option.some.inj e).symm)]
        exact e
      have s3 : Same H (upd H2 B (.dT kvs0)) := same_updF s2 hB
      refine ⟨_, rfl, M, kvs, rfl, .inl (toB g1 (fun z => nomatch z)), fun F bs hF ks => ?_⟩
      have sF : Same (upd H2 B (.dT kvs0)) (upd (upd H2 B (.dT kvs0)) F (.lst (bs.map V.ref))) := same_new (fun _ _ e => e) hF
      have fresh0 : FoursAt (upd (upd H2 B (.dT kvs0)) F (.lst (bs.map V.ref))) bs (met.map (·.1)) := by
        have g2' : MapAt MetV (upd H2 B (.dT kvs0)) kvs met := g2.imp fun v b z => z.kp fun a xs e => toB e (fun z => nomatch z)
        clear g3 g4 g2 hF
        revert sF
        generalize upd (upd H2 B (.dT kvs0)) F (.lst (bs.map V.ref)) = HX
        intro sF
        unfold IsKeys at ks
        revert g2'
        clear g1
        induction ks generalizing met with
        | nil =>
          intro g
          cases g
          exact .nil
        | cons r _ ih =>
          intro g
          cases g with
          | cons g5 g6 =>
            refine .cons ?_ (ih _ g6)
            rw [g5.1] at r
            exact sF _ _ r
      have L0 : Lev m 0 met (met.map (·.1)) := Lev.first rfl g4 (fun s t x a b c => by rw [g3]; exact e5 s t x ⟨c, a, b⟩) (by rw [g3]; exact e4)
      refine ⟨WX m H p B M, ⟨_, 0, met, met.map (·.1), kvs, bs, F, rfl, s3.trans sF, sF _ _ (toB g1 (fun z => nomatch z)), g2.imp fun v b z => z.kp fun a xs e => sF _ _ (toB e (fun z => nomatch z)), L0, upd_same, fresh0, fun _ => Nat.zero_le _, _, _, _, _, _, _, _, _, _, _, _, _, _, rfl⟩, ?_⟩
      clear fresh0 L0 sF ks hF s3 toB g4 g3 g2 g1 f2 b2 s2
      rintro mu st Hh ⟨kx, met, fresh, kvs, fs, F, rfl, sH, hM, hMet, L, hF, hfs, hk, j4, j5, j6, j7, j8, j9, j10, j11, j12, j13, j14, j15, j16, rfl⟩
      refine ⟨_, rfl, F, _, rfl, .inl (SqL.of hF), _, _, rfl, rfl, _, rfl, ?_⟩
      have hlen : fs.length = fresh.length := Paired.len hfs
      have mle := sound_lt ok L.sound L.nd
      by_cases hfr : fresh = []
      · have e0 : decide ((0 : Int) < ((fs.map V.ref).length : Nat)) = false := decide_eq_false (by rw [List.length_map, hlen, hfr]; decide)
        rw [e0]
        refine iteF ?_
        subst hfr
        exact k Hh .non sH (.inl ⟨rfl, L.done⟩)
      · have e0 : decide ((0 : Int) < ((fs.map V.ref).length : Nat)) = true := decide_eq_true (by
          have q : 0 < fresh.length := List.length_pos_iff.mpr hfr
          rw [List.length_map, hlen]
          omega)
        rw [e0]
        refine iteT ⟨fun st' H' => ∃ mu', mu' < 2 * (256 - met.length) + (if fresh = [] then 0 else 1) ∧ WX m H p B M mu' st' H', fun _ _ h => h, ?_⟩
        refine ⟨Nat.zero_le _, fun Lt hLt => ?_⟩
        have hML : M ≠ Lt := ne_of_none hM hLt
        have kp0 : Kp [M] Hh (upd Hh Lt (.lst [])) := Kp.upd (Kp.refl _ _) (.inr hLt)
        have hp : Hh p = some (.ins C dx (mflds m.c m.n sA d)) := sH _ _ h1
        have hs : Hh sA = some (.tup (rs.map V.ref)) := sH _ _ h2
        have hr4 : TupsAt Hh rs m.st := h3.same sH
        refine ⟨_, rfl, F, rfl, ⟨_, SqL.of (kp_at kp0 hM hF (fun z => nomatch z))⟩, ?_⟩
        refine for_list (K := K) (a := F) (xs := fs.map V.ref) (fun i st H' => XS m Hh H' M Lt kx met (fun f a b => f ∈ fresh.take i ∧ a < m.c ∧ b < m.c) ∧ ∃ j5 j6 j7 j8 j9 j10 j11 j12 j13 j14 j15 j16, st = [some (.ref p), some (.ref B), some (.ref M), some (.ref F), some (.ref Lt), j5, j6, j7, j8, j9, j10, j11, j12, j13, j14, j15, j16])
          ⟨⟨kp0, kvs, met, [], [], by rw [upd_ne hML]; exact hM, hMet.imp fun v b z => z.kp fun a xs e => by rw [upd_ne (ne_of_none e hLt)]; exact e, (Mid.start L).mono fun f a b h => absurd h.1 List.not_mem_nil, upd_same, .nil⟩, _, _, _, _, _, _, _, _, _, _, _, _, rfl⟩
          (fun i st H' _ q => SqL.of (kp_at q.1.kp hM hF (fun z => nomatch z))) ?_ ?_
        · rintro i x st H2 hi ⟨X2, j5, j6, j7, j8, j9, j10, j11, j12, j13, j14, j15, j16, rfl⟩
          obtain ⟨ai, hai, rfl⟩ : ∃ ai, fs[i]? = some ai ∧ x = V.ref ai := by
            rw [List.getElem?_map] at hi
            cases e : fs[i]? with
            | none => rw [e] at hi; cases hi
            | some ai => rw [e] at hi; exact ⟨ai, rfl, (Option.some.inj hi).symm⟩
          obtain ⟨f, hfi, hfa⟩ := Paired.get1 hfs hai
          obtain ⟨wt, hwt, hrch⟩ := L.front f (List.mem_of_getElem? hfi)
          obtain ⟨lf1, lf2, lf3, lf4⟩ := hrch.ltn ok
          -- p, q, y, z
          refine ⟨_, rfl, ai, rfl, ⟨_, SqT.of (kp_at X2.kp hM hfa (fun z => nomatch z))⟩, fun D hD => ?_⟩
          refine lc_tup (K := K) (a := ai) (xs := v4 f) (fun j H' => Same H2 H' ∧ H' D = some (.lst (rowsV rs ((fourL f).take j)))) ⟨same_new (fun _ _ e => e) hD, upd_same⟩ (fun j H' _ q => SqT.of (q.1 _ _ (kp_at X2.kp hM hfa (fun z => nomatch z)))) ?_ ?_
          · rintro j x H3 hj ⟨sm3, eD⟩
            rw [v4_nts] at hj
            obtain ⟨a, hja, rfl⟩ := nts_map hj
            have han : a < m.st.length := by
              have q := List.mem_of_getElem? hja
              simp only [fourL, List.mem_cons, List.not_mem_nil, or_false] at q
              rcases q with q | q | q | q <;> rw [q] <;> assumption
            obtain ⟨r, r1, r2, r3⟩ := hr4.row han
            refine ⟨rfl, ?_⟩
            refine ⟨_, rfl, p, C, dx, _, _, rfl, sm3 _ _ (kp_at X2.kp hM hp (fun z => nomatch z)), M_.cl, M_.nS, lk_s _ _ _ _, _, rfl, sA, _, _, _, rfl, rfl, SqT.of (sm3 _ _ (kp_at X2.kp hM hs (fun z => nomatch z))), atI_nat r2, ?_⟩
            refine ⟨_, eD, ?_, same_updF sm3 hD, ?_⟩
            · unfold rowsV
              rw [List.length_map, List.length_take]
              exact small (by have : (fourL f).length = 4 := rfl; omega)
            · rw [upd_same, take_snoc hja]
              unfold rowsV
              rw [List.map_append]
              show some (HO.lst (_ ++ [V.ref r])) = some (HO.lst (_ ++ [V.ref (rs.getD a 0)]))
              rw [rows_at r1]
          · rintro H3 ⟨sm3, eD⟩
            have X3 := X2.same sm3
            refine ⟨D, _, rfl, SqL.of eD, rfl, _, _, rfl, _, _, rfl, _, _, rfl, _, _, rfl, rfl, ?_⟩
            -- start, u, w = met[four]
            have rowE : ∀ {a : Nat}, a < m.n → Hh (rs.getD a 0) = some (.tup (nts (m.st.getD a []))) := fun {a} ha => by
              obtain ⟨r, r1, r2, r3⟩ := hr4.row ha
              rw [rows_at r1]
              exact r3
            obtain ⟨kvs3, met3, later3, ls3, y1, y2, y3, y4, y5⟩ := id X3.ex
            have hin3 : f ∈ met3.map (·.1) := by
              rw [y3.keys]
              exact List.mem_append_left _ (List.mem_map.mpr ⟨_, hwt, rfl⟩)
            obtain ⟨v3, b3, hb3, hv3, a0, sA3, uA, wA, rfl, q1, q2, q3, q4⟩ := y2.yes hin3
            have eb : b3 = wt := nd_uniq y3.nd hb3 (y3.old _ hwt)
            subst eb
            have fa3 := kp_at X3.kp hM hfa (fun z => nomatch z)
            refine ⟨_, rfl, _, rfl, M, .ref a0, rfl, by rw [← hv3]; exact DGet.t (k := k4 f) y1 fa3, ?_⟩
            refine ⟨a0, _, rfl, SqT.of q1, rfl, _, _, rfl, _, _, rfl, _, _, rfl, rfl, ?_⟩
            have tk : ∀ {H' : Hp} {a : Addr} {xs : List V}, Kp [M, Lt] H3 H' → H3 a = some (.tup xs) → H' a = some (.tup xs) := fun kp e => kp _ _ e fun z => by
              simp only [List.mem_cons, List.not_mem_nil, or_false] at z
              rcases z with z | z
              · rw [z, y1] at e; cases e
              · rw [z, y4] at e; cases e
            have wlen : kx ≤ 256 := Nat.le_trans (hk hfr) mle
            clear y1 y2 y3 y4 y5 hin3 hv3 hb3
            refine ⟨_, rfl, p, C, dx, _, _, rfl, kp_at X3.kp hM hp (fun z => nomatch z), M_.cl, M_.nC, lk_c _ _ _ _, (m.c : Int), rfl, by omega, by omega, ?_⟩
            rw [show ((m.c : Int).toNat) = m.c by omega]
            refine for_range (lo := 0) (n := m.c) (fun x st H' => XS m Hh H' M Lt kx met (fun f' a' b' => (f' ∈ fresh.take i ∧ a' < m.c ∧ b' < m.c) ∨ (f' = f ∧ a' < x ∧ b' < m.c)) ∧ Kp [M, Lt] H3 H' ∧ ∃ j13 j14 j15 j16, st = [some (.ref p), some (.ref B), some (.ref M), some (.ref F), some (.ref Lt), some (.ref ai), some (.ref (rs.getD f.1 0)), some (.ref (rs.getD f.2.1 0)), some (.ref (rs.getD f.2.2.1 0)), some (.ref (rs.getD f.2.2.2 0)), some (.ref sA3), some (.ref uA), some (.ref wA), j13, j14, j15, j16])
              ⟨X3.mono fun f' a' b' h => h.elim id fun q => absurd q.2.1 (Nat.not_lt_zero _), Kp.refl _ _, _, _, _, _, rfl⟩ ?_ ?_
            · rintro x st H4 hx ⟨X4, k4', j13, j14, j15, j16, rfl⟩
              have ex0 : ((0 : Int) + (x : Nat)) = (x : Int) := by omega
              refine ⟨_, rfl, p, C, dx, _, _, rfl, kp_at X4.kp hM hp (fun z => nomatch z), M_.cl, M_.nC, lk_c _ _ _ _, (m.c : Int), rfl, by omega, by omega, ?_⟩
              rw [show ((m.c : Int).toNat) = m.c by omega]
              refine for_range (lo := 0) (n := m.c) (fun y st H' => XS m Hh H' M Lt kx met (fun f' a' b' => (f' ∈ fresh.take i ∧ a' < m.c ∧ b' < m.c) ∨ (f' = f ∧ a' < x ∧ b' < m.c) ∨ (f' = f ∧ a' = x ∧ b' < y)) ∧ Kp [M, Lt] H3 H' ∧ ∃ j14 j15 j16, st = [some (.ref p), some (.ref B), some (.ref M), some (.ref F), some (.ref Lt), some (.ref ai), some (.ref (rs.getD f.1 0)), some (.ref (rs.getD f.2.1 0)), some (.ref (rs.getD f.2.2.1 0)), some (.ref (rs.getD f.2.2.2 0)), some (.ref sA3), some (.ref uA), some (.ref wA), some (.int (x : Nat)), j14, j15, j16])
                ⟨X4.mono fun f' a' b' h => by rcases h with h | h | h; exact .inl h; exact .inr h; exact absurd h.2.2 (Nat.not_lt_zero _), k4', _, _, _, by rw [ex0]; rfl⟩ ?_ ?_
              · rintro y st H5 hy ⟨X5, k5', j14, j15, j16, rfl⟩
                have ey0 : ((0 : Int) + (y : Nat)) = (y : Int) := by omega
                rw [ey0]
                have rk : ∀ {H' : Hp} {a : Nat}, Kp [M] Hh H' → a < m.n → SqT K H' (rs.getD a 0) (nts (m.st.getD a [])) := fun kp ha => SqT.of (kp_at kp hM (rowE ha) (fun z => nomatch z))
                -- after
                refine ⟨_, rfl, _, rfl, _, _, _, _, rfl, rfl, rk X5.kp lf1, atI_nat (ok.at_to lf1 hx), _, rfl, _, rfl, _, _, _, _, rfl, rfl, rk X5.kp lf2, atI_nat (ok.at_to lf2 hy), _, rfl, _, rfl, _, _, _, _, rfl, rfl, rk X5.kp lf3, atI_nat (ok.at_to lf3 hx), _, rfl, _, rfl, _, _, _, _, rfl, rfl, rk X5.kp lf4, atI_nat (ok.at_to lf4 hy), (by show 4 ≤ sizeLine; decide), fun g hg => ?_⟩
                have s6 : Same H5 (upd H5 g (.tup (v4 (succF m f x y)))) := same_new (fun _ _ e => e) hg
                have X6 := X5.same s6
                have k6' := k5'.trans (Kp.of_same (l := [M, Lt]) s6)
                have hgA : SqT K (upd H5 g (.tup (v4 (succF m f x y)))) g (v4 (succF m f x y)) := SqT.of upd_same
                have hgA' : upd H5 g (.tup (v4 (succF m f x y))) g = some (.tup (v4 (succF m f x y))) := upd_same
                refine g_i ?_
                dsimp only
                revert X6 k6' hgA hgA'
                rw [show upd H5 g (.tup [.int (m.to f.1 x : Nat), .int (m.to f.2.1 y : Nat), .int (m.to f.2.2.1 x : Nat), .int (m.to f.2.2.2 y : Nat)]) = upd H5 g (.tup (v4 (succF m f x y))) from rfl]
                generalize upd H5 g (.tup (v4 (succF m f x y))) = H6
                intro X6 k6' hgA hgA'
                have deq : ∀ {a b : Nat}, decide (V.int (a : Int) = V.int (b : Int)) = decide (a = b) := fun {a b} => by
                  by_cases h : a = b
                  · rw [h, decide_eq_true rfl, decide_eq_true rfl]
                  · rw [decide_eq_false h, decide_eq_false fun z => h (by injection z with z; omega)]
                -- the test
                refine ifS_andS (b1 := decide ((succF m f x y).1 = (succF m f x y).2.1)) (b2 := !decide ((succF m f x y).2.2.1 = (succF m f x y).2.2.2))
                  (fun Q' q => ⟨_, rfl, g, _, _, _, rfl, rfl, hgA, atI_nat (j := 0) rfl, _, rfl, g, _, _, _, rfl, rfl, hgA, atI_nat (j := 1) rfl, rfl, _, rfl, by rw [deq]; exact q⟩)
                  (fun _ Q' q => ⟨_, rfl, g, _, _, _, rfl, rfl, hgA, atI_nat (j := 2) rfl, _, rfl, g, _, _, _, rfl, rfl, hgA, atI_nat (j := 3) rfl, rfl, _, rfl, by rw [deq]; exact q⟩) (fun b1 b2 => ?_) fun nb => ?_
                · -- a fault
                  have hbad : Bad (succF m f x y) := ⟨of_decide_eq_true b1, fun z => by rw [decide_eq_true z] at b2; cases b2⟩
                  obtain ⟨fb, low⟩ := L.found hrch hx hy hbad
                  refine ⟨_, rfl, sA3, _, rfl, .inl (SqT.of (tk k6' q2)), _, rfl, uA, _, rfl, .inl (SqT.of (tk k6' q3)), _, rfl, ?_, fun t1 ht1 => ?_⟩
                  · rw [List.length_append, nts_len, hrch.1.lu]
                    exact small (by omega)
                  have s7 : Same H6 (upd H6 t1 (.tup (nts b3.u ++ [.int (x : Nat)]))) := same_new (fun _ _ e => e) ht1
                  refine ⟨_, rfl, wA, _, rfl, .inl (SqT.of (s7 _ _ (tk k6' q4))), _, rfl, ?_, fun t2 ht2 => ?_⟩
                  · rw [List.length_append, nts_len, hrch.1.lw]
                    exact small (by omega)
                  refine ⟨(by show 5 ≤ sizeLine; decide), fun t ht => ?_⟩
                  have s8 : Same H6 (upd (upd (upd H6 t1 (.tup (nts b3.u ++ [.int (x : Nat)]))) t2 (.tup (nts b3.w ++ [.int (y : Nat)]))) t (.tup (nts [b3.s, b3.t, b3.x] ++ [.ref t1, .ref t2]))) := same_new (same_new s7 ht2) ht
                  have n12 : t1 ≠ t2 := fun z => by rw [← z, upd_same] at ht2; cases ht2
                  have n1 : t1 ≠ t := fun z => by rw [← z, upd_ne n12, upd_same] at ht; cases ht
                  have n2 : t2 ≠ t := fun z => by rw [← z, upd_same] at ht; cases ht
                  refine k _ (.ref t) (fun b o e => s8 _ _ (X6.kp _ _ (sH _ _ e) fun z => by rw [List.mem_singleton.mp z] at e; rw [hM0] at e; cases e)) (.inr ⟨t, t1, t2, b3.snoc x y, kx + 1, rfl, upd_same, ?_, ?_, fb, low, by omega⟩)
                  · rw [upd_ne n1, upd_ne n12, upd_same]
                    show some (HO.tup _) = some (HO.tup (nts (b3.u ++ [x])))
                    unfold nts
                    rw [List.map_append]
                    rfl
                  · rw [upd_ne n2, upd_same]
                    show some (HO.tup _) = some (HO.tup (nts (b3.w ++ [y])))
                    unfold nts
                    rw [List.map_append]
                    rfl
                · have hnb : ¬ Bad (succF m f x y) := fun z => nb ⟨decide_eq_true z.1, by rw [decide_eq_false z.2]; rfl⟩
                  obtain ⟨kpX, kvs4, met4, later4, ls4, y1, y2, y3, y4, y5⟩ := X6
                  have hd : ∀ f' a' b', ((f' ∈ fresh.take i ∧ a' < m.c ∧ b' < m.c) ∨ (f' = f ∧ a' < x ∧ b' < m.c) ∨ (f' = f ∧ a' = x ∧ b' < y + 1)) → ((f' ∈ fresh.take i ∧ a' < m.c ∧ b' < m.c) ∨ (f' = f ∧ a' < x ∧ b' < m.c) ∨ (f' = f ∧ a' = x ∧ b' < y)) ∨ (f' = f ∧ a' = x ∧ b' = y) := fun f' a' b' h => by
                    rcases h with h | h | ⟨z1, z2, z3⟩
                    · exact .inl (.inl h)
                    · exact .inl (.inr (.inl h))
                    · by_cases e : b' < y
                      · exact .inl (.inr (.inr ⟨z1, z2, e⟩))
                      · exact .inr ⟨z1, z2, by omega⟩
                  refine ⟨_, rfl, _, rfl, M, _, rfl, DGet.t (k := k4 (succF m f x y)) y1 hgA', _, rfl, ?_⟩
                  by_cases hin : succF m f x y ∈ met4.map (·.1)
                  · obtain ⟨v, _, _, hv, _⟩ := y2.yes hin
                    rw [hv]
                    exact iteF ⟨⟨kpX, kvs4, met4, later4, ls4, y1, y2, y3.same hd hnb hin, y4, y5⟩, k6', _, _, _, rfl⟩
                  · rw [y2.no hin]
                    refine iteT ?_
                    have m4 := sound_lt ok y3.sound y3.nd
                    have lk := y2.len
                    have ll := Paired.len y5
                    have lk4 : met4.length = met.length + later4.length := by
                      have q := congrArg List.length y3.keys
                      rw [List.length_append, List.length_map, List.length_map] at q
                      exact q
                    refine ⟨_, rfl, _, rfl, uA, _, rfl, .inl (SqT.of (tk k6' q3)), _, rfl, ?_, fun t1 ht1 => ?_⟩
                    · rw [List.length_append, nts_len, hrch.1.lu]
                      exact small (by omega)
                    have s7 : Same H6 (upd H6 t1 (.tup (nts b3.u ++ [.int (x : Nat)]))) := same_new (fun _ _ e => e) ht1
                    refine ⟨_, rfl, wA, _, rfl, .inl (SqT.of (s7 _ _ (tk k6' q4))), _, rfl, ?_, fun t2 ht2 => ?_⟩
                    · rw [List.length_append, nts_len, hrch.1.lw]
                      exact small (by omega)
                    refine ⟨(by show 3 ≤ sizeLine; decide), fun t ht => ?_⟩
                    have s8 : Same H6 (upd (upd (upd H6 t1 (.tup (nts b3.u ++ [.int (x : Nat)]))) t2 (.tup (nts b3.w ++ [.int (y : Nat)]))) t (.tup [.ref sA3, .ref t1, .ref t2])) := same_new (same_new s7 ht2) ht
                    have n12 : t1 ≠ t2 := fun z => by rw [← z, upd_same] at ht2; cases ht2
                    have n1 : t1 ≠ t := fun z => by rw [← z, upd_ne n12, upd_same] at ht; cases ht
                    have n2 : t2 ≠ t := fun z => by rw [← z, upd_same] at ht; cases ht
                    have g1 : upd (upd (upd H6 t1 (.tup (nts b3.u ++ [.int (x : Nat)]))) t2 (.tup (nts b3.w ++ [.int (y : Nat)]))) t (.tup [.ref sA3, .ref t1, .ref t2]) t1 = some (.tup (nts (b3.u ++ [x]))) := by
                      rw [upd_ne n1, upd_ne n12, upd_same]
                      unfold nts
                      rw [List.map_append]
                      rfl
                    have g2 : upd (upd (upd H6 t1 (.tup (nts b3.u ++ [.int (x : Nat)]))) t2 (.tup (nts b3.w ++ [.int (y : Nat)]))) t (.tup [.ref sA3, .ref t1, .ref t2]) t2 = some (.tup (nts (b3.w ++ [y]))) := by
                      rw [upd_ne n2, upd_same]
                      unfold nts
                      rw [List.map_append]
                      rfl
                    have g3 : upd (upd (upd H6 t1 (.tup (nts b3.u ++ [.int (x : Nat)]))) t2 (.tup (nts b3.w ++ [.int (y : Nat)]))) t (.tup [.ref sA3, .ref t1, .ref t2]) t = some (.tup [.ref sA3, .ref t1, .ref t2]) := upd_same
                    refine ⟨_, rfl, _, rfl, M, _, rfl, DPut.t (k := k4 (succF m f x y)) (s8 _ _ y1) (s8 _ _ hgA') (small (by omega)), ?_⟩
                    revert s8 g1 g2 g3
                    generalize upd (upd (upd H6 t1 (.tup (nts b3.u ++ [.int (x : Nat)]))) t2 (.tup (nts b3.w ++ [.int (y : Nat)]))) t (.tup [.ref sA3, .ref t1, .ref t2]) = H8
                    intro s8 g1 g2 g3
                    have hLM : Lt ≠ M := hML.symm
                    refine ⟨_, rfl, .inl ⟨rfl, _, SqL.of (by rw [upd_ne hLM]; exact s8 _ _ y4)⟩, _, rfl, Lt, _, _, rfl, rfl, by rw [upd_ne hLM]; exact s8 _ _ y4, ?_, ?_⟩
                    · rw [List.length_map]
                      exact small (by omega)
                    have toE : ∀ {a : Addr} {xs : List V}, H8 a = some (.tup xs) → upd (upd H8 M (.dT (putK kvs4 (k4 (succF m f x y)) (.ref t)))) Lt (.lst (ls4.map V.ref ++ [.ref g])) a = some (.tup xs) := fun {a xs} e => by
                      rw [upd_ne (show a ≠ Lt from fun z => by rw [z, s8 _ _ y4] at e; cases e), upd_ne (show a ≠ M from fun z => by rw [z, s8 _ _ y1] at e; cases e)]
                      exact e
                    refine ⟨⟨Kp.updF (Kp.upd (kpX.trans (Kp.of_same s8)) (.inl (List.mem_singleton.mpr rfl))) hLt, putK kvs4 (k4 (succF m f x y)) (.ref t), met4 ++ [(succF m f x y, b3.snoc x y)], later4 ++ [succF m f x y], ls4 ++ [g], ?_, ?_, y3.add hd hnb hin hrch hx hy, ?_, ?_⟩, ?_, _, _, _, rfl⟩
                    · rw [upd_ne hML]
                      exact upd_same
                    · exact (MapAt.put (F := MetV) (H := H8) (y2.imp fun v b z => z.kp fun a xs e => s8 _ _ e) hin (v := .ref t) (b := b3.snoc x y) ⟨t, sA3, t1, t2, rfl, g3, s8 _ _ (tk k6' q2), g1, g2⟩).imp fun v b z => z.kp fun a xs e => toE e
                    · rw [upd_same, List.map_append]
                      rfl
                    · exact Paired.snoc (Paired.imp y5 fun a f' _ e => toE (s8 _ _ e)) (toE (s8 _ _ hgA'))
                    · exact Kp.upd (Kp.upd (k6'.trans (Kp.of_same s8)) (.inl List.mem_cons_self)) (.inl (List.mem_cons_of_mem _ List.mem_cons_self))
              · rintro st H5 ⟨X5, k5', j14, j15, j16, rfl⟩
                refine ⟨X5.mono fun f' a' b' h => ?_, k5', _, _, _, _, rfl⟩
                rcases h with h | ⟨q1, q2, q3⟩
                · exact .inl h
                · by_cases e : a' < x
                  · exact .inr (.inl ⟨q1, e, q3⟩)
                  · exact .inr (.inr ⟨q1, by omega, q3⟩)
            · rintro st H4 ⟨X4, k4', j13, j14, j15, j16, rfl⟩
              refine ⟨X4.mono fun f' a' b' h => ?_, _, _, _, _, _, _, _, _, _, _, _, _, rfl⟩
              rw [take_snoc hfi] at h
              rcases List.mem_append.mp h.1 with q | q
              · exact .inl ⟨q, h.2⟩
              · exact .inr ⟨List.mem_singleton.mp q, h.2⟩
        · rintro st H2 ⟨X2, j5, j6, j7, j8, j9, j10, j11, j12, j13, j14, j15, j16, rfl⟩
          rw [List.length_map, hlen, List.take_length] at X2
          obtain ⟨kpX, kvs2, met2, later2, ls2, y1, y2, y3, y4, y5⟩ := X2
          have L2 := Mid.next L y3 fun f hf a b ha hb => ⟨hf, ha, hb⟩
          have l2 := sound_lt ok L2.sound L2.nd
          have lk2 : met2.length = met.length + later2.length := by
            have q := congrArg List.length y3.keys
            rw [List.length_append, List.length_map, List.length_map] at q
            exact q
          have sX : Same H H2 := fun b o e => kpX b o (sH _ _ e) fun z => by
            rw [List.mem_singleton.mp z] at e
            rw [hM0] at e
            cases e
          refine ⟨_, rfl, 2 * (256 - met2.length) + (if later2 = [] then 0 else 1), ?_, kx + 1, met2, later2, kvs2, ls2, Lt, rfl, sX, y1, y2, L2, y4, y5, fun hne => ?_, _, _, _, _, _, _, _, _, _, _, _, _, _, rfl⟩
          · rw [if_neg hfr]
            by_cases e : later2 = []
            · rw [if_pos e]; omega
            · rw [if_neg e]
              have q : 0 < later2.length := List.length_pos_iff.mpr e
              omega
          · have q : 0 < later2.length := List.length_pos_iff.mpr hne
            have q2 := hk hfr
            omega
end
end K53
namespace L2.KR
open PySem PySem.Spec PyProof.Rows K53 LamX NdefX

/-! ### a lambda of one parameter, handed to a method and called there -/
theorem cells_un {fs : List Addr} {H HZ : Hp} {h h1 : Heap} {cl : List (Str × Addr)} {fr : List Str} {ws : List (Option V)} (C : CellsAt cl fr ws h H) (un : Un fs [] H HZ h h1) : CellsAt cl fr ws h1 HZ := by
  have kp : ∀ {c : Addr} {v : Option Value}, H c = none → h.IsCell c v → h1.IsCell c v := fun {c v} n ⟨o, ho, hd⟩ => by
    obtain ⟨sl, q⟩ := un.any
                                                                ho n (by simp)
    exact ⟨_, q, hd⟩
  refine ⟨C.len, fun y c e => ?_,
                                                              C.inj, fun i y e => ?_⟩
  · obtain ⟨n, v, z⟩
                                                              := C.all y c e
    obtain ⟨o, ho, _⟩ := id z
    exact ⟨un.free c o ho n (by simp), v, kp n z⟩
  · obtain ⟨c, hc, hv⟩
                                                              := C.has i y e
    refine ⟨c, hc, fun
                                                                v ev => ?_⟩
    obtain ⟨u, r, z⟩ := hv v ev
    exact ⟨u, r, kp (C.all y c hc).1 z⟩
section
variable {X : Cx}
/-- x(y) in the def that got the lambda -/
theorem pe_act1 {pins : List (Addr × Obj)} {st : L2.St} {H : Hp} {s : Shared} {Ng N fr : List Str} {qg q one : Str} {sg : Scope} {g f c' : Addr} {cdg pm ctv : Value} {params : Arguments} {body : Expr} {scope : Scope} {cl : List (Str × Addr)} {ws : List (Option V)} {k i j : Nat} {a b : Str} {tb : TE} {p1 p2 p3 : Pos}
    (_I : L2.Inv X pins st H s) (hf : s.heap.get? f = some (PySem.W.kla_obj "<lambda>" q params body scope cl pm c' ctv)) (hfn : H f = none) (hfr : f ∉ frs X.stack) (C : CellsAt cl fr ws s.heap H) (S : NScope N [one] fr scope)
    (hbind : ∀ u : Value, bindArgs (PySem.W.kla_fn "<lambda>" q params body scope cl pm (.ref c') ctv) ⟨[u], []⟩ = pure [(one, u)]) (hr : Room (k + 1) (X.A.deeper (envOfC qg sg s.heap.objs.size g cdg)))
    (hbody : ∀ (A : Around) (outer : List Env) (s : Shared) (H : Hp), Room k (A.deeper (envF ⟨"<lambda>", q, params, [], scope, cl, c'⟩ f s.heap.objs.size)) → PE (ncx C8.CX0 X.prog X.w X.K X.mg X.base N ⟨"<lambda>", q, params, [], scope, cl, c'⟩ f A outer s H C8.E0) body tb)
    (hN : Ng[i]? = some a) (hv : Vis sg a) (hN2 : Ng[j]? = some b) (hv2 : Vis sg b) (hd : (a == ("__debug__" : Str)) = false := by decide) (hcd : (a == ("__classdict__" : Str)) = false := by decide) (hd2 : (b == ("__debug__" : Str)) = false := by decide) (hcd2 : (b == ("__classdict__" : Str)) = false := by decide) :
    PE ((cxOf C8.CX0 X.prog X.w X.K X.mg X.base Ng qg sg g cdg X.A X.stack s H C8.E0).nox) (.Call (.Name a p1) [.Name b p2] [] p3)
      (fun sZ HZ Q => sZ[i]? = some (some (.ref f)) ∧ ∃ v, sZ[j]? = some (some v) ∧ HZ c' = some (CodeO c' q) ∧ tb (startF N [v] ws) HZ Q) := by
  constructor
  intro pinsZ sZ stZ HZ Q IZ h
  obtain ⟨hs, v, hs2, hc, ht⟩ := h
  have fnAt : ∀ {s1 : Shared} {H1 : Hp} {pz : List (Addr × Obj)} {sz : L2.St}, L2.Inv ((cxOf C8.CX0 X.prog X.w X.K X.mg X.base Ng qg sg g cdg X.A X.stack s H C8.E0).nox) pz sz H1 s1 → s1.heap.get? f = some (PySem.W.kla_obj "<lambda>" q params body scope cl pm c' ctv) := fun I1 =>
    I1.base.keep f _ hf hfn hfr (fun z => nomatch (show f ∈ ([] : List Addr) from z))
  refine wpAny_Call_Name_kw (thn ((pe_var (pos := p1) (i := i) hN hv hd hcd).run pinsZ sZ stZ HZ (fun v H1 => v = .ref f ∧ H1 = HZ) IZ ⟨.ref f, hs, rfl, rfl⟩) fun u s1 ⟨v1, H1, I1, r1, q1⟩ => ?_)
  obtain ⟨ev, eH⟩ := q1
  subst ev
  rw [eH] at I1
  obtain rfl : u =
                                                              Value.ref f := r1
  refine PySem.W.callWith_F (first := []) ⟨_, _, _, _, fnAt I1⟩ (thn ((pa_cons (pe_var (pos := p2) (i := j) hN2 hv2 hd2 hcd2) pa_nil).run p3 pinsZ s1 stZ HZ (fun vs H2 => vs = [v] ∧ H2 = HZ) I1 ⟨v, hs2, rfl, rfl⟩) fun us s2 ⟨vs, H2, I2, r, e1, e2⟩ => ⟨⟨_, _, _, _, fnAt I2⟩, ?_⟩)
  subst e1
  rw [e2] at I2
  obtain ⟨u, eu, ru⟩ := r.one
  subst eu
  have of2 := fnAt I2
  have un : Un (frs X.stack) [] H HZ s.heap s2.heap := I2.base
  have C2 := cells_un C un
  show wpAny _ _ (call (.ref f) [u]) _ _ _
  obtain ⟨⟨oc, vs', t, hoc, hdc, hvc⟩, _, _⟩ := I2.hok c' _ hc
  have lim : s2.heap.NoLimit := I2.nolimit
  have rc : codeAny (model X.prog X.w) (X.A.deeper (envOfC qg sg s.heap.objs.size g cdg)) (.call (.ref f) ⟨[u], []⟩) (CR C8.CX0 (envOfC qg sg s.heap.objs.size g cdg :: X.stack) X.prog X.w HZ s2 Q C8.E0) s2 := by
    refine PySem.W.kla_callFunE hr.depth of2 rfl S.co S.gen rfl ⟨c', oc, vs', t, rfl, hoc, hdc, hvc⟩ ?_
    rw [hbind u]
    refine wpAny_pure (wpAny_newFunctionEnv S.nocell (fun ⟨n, _⟩ hy => S.par n (List.of_mem_zip (show (n, _) ∈ ([one] : List Str).zip [u] from hy)).1) (fun h₁ hns hsb => ⟨lim.fresh _ hsb, ?_⟩) S.kind)
    show codeAny _ _ (.expr body (envF ⟨"<lambda>", q, params, [], scope, cl, c'⟩ f s2.heap.objs.size)) _ _
    have kp : ∀ b o, s2.heap.get? b = some o → h₁.get? b = some o := fun b o e => hsb.extBut b o (Nat.ne_of_lt (Heap.lt_size e)) (Heap.get?_push_of_some _ e)
    have J : L2.Inv (ncx C8.CX0 X.prog X.w X.K X.mg X.base N ⟨"<lambda>", q, params, [], scope, cl, c'⟩ f (X.A.deeper (envOfC qg sg s.heap.objs.size g cdg)) (envOfC qg sg s.heap.objs.size g cdg :: X.stack) s2 HZ C8.E0) [] (startF N [v] ws) HZ { s2 with heap := h₁, toks := s2.toks + ([(one, u)] : List (Str × Value)).length } :=
      inv_startN (us := [u]) S hr.hd I2.env0 rfl (.cons ru .nil) C2 hns kp
    refine PySem.W.kla_codeExpr (wpAny_mono ((hbody _ _ s2 HZ (hr.deeper _)).run [] _ _ HZ Q J ht) (fun v s' hq => ?_) fun e s' hq => hq)
    obtain ⟨w', H', J',
                                                                rv, q⟩ := hq
    exact ⟨w', H', J'.os, J'.bare,
                                                                J'.base, J'.hok, rv, q⟩
  refine wpAny_call (codeAny_mono
                                                              rc fun r s' hq => ?_)
  cases r with
  | error e => exact (show
                                                              False from hq).elim
  | ok fl =>
    cases fl with
    | ret u => exact I2.after hq
    | next => exact False.elim hq
    | brk => exact False.elim hq
    | cont => exact False.elim hq
/-- what the def that got it does with it -/
def tAct (i j : Nat) (f c' : Addr) (q : Str) (N : List Str) (ws : List (Option V)) (tb : TE) : TE := fun sZ HZ Q => sZ[i]? = some (some (.ref f)) ∧ ∃ v, sZ[j]? = some (some v) ∧ HZ c' = some (CodeO c' q) ∧ tb (startF N [v] ws) HZ Q
def tMLam (T : List (Addr × Str)) (C : Addr) (m q : Str) (js : List Nat) (Ng : List Str) (TF : Addr → Addr → List (Option V) → TS) (ta te : TE) : TE := fun st H Q => ta st H fun x H1 => ∃ a dx fs, x = .ref a ∧ H1 a = some (.ins C dx fs) ∧ fs.lookup m = none ∧
  te st H1 fun y H2 => Tabs T H2 ∧ ∀ H3 f c', ExtN H2 H3 → Tabs T H3 → H3 c' = some (CodeO c' q) → TF f c' (js.map (NdefX.slotAt st)) { nx := fun _ H' => Q .non H', rt := Q } (L2.start Ng [.ref a, y, .ref f]) H3
theorem pe_mlam {T : List (Addr × Str)} {C g c P : Addr} {m a b one s1n s2n s3n : Str} {k i j : Nat} {o e : Expr} {ta te tb : TE} {qg : Str} {pg : Arguments} {bg : List Stmt} {sg : Scope} {dV kV doc pm cdv ct oc : Value} {an od : Option Addr} {osl : Array (Option Value)} {Ng N fr : List Str} {js : List Nat}
    {params : Arguments} {body : Expr} {scope : Scope} {lpos pos apos : Pos} {pl : Sem Bool} {TF : Addr → Addr → List (Option V) → TS} (ho : PE X o ta) (hcl : Cls X.K C) (hm : Meth X.K C m g)
    (lk : X.K.lookup g = some ⟨oc, od, .func (PySem.W.fnOf m qg pg bg sg dV kV doc pm an cdv ct), osl⟩) (hcg : PySem.W.codeIn X.K cdv qg = true) (hb : L2.Binds X.K (PySem.W.fnOf m qg pg bg sg dV kV doc pm an cdv ct) [s1n, s2n, s3n] []) (Sg : FnScope Ng [s1n, s2n, s3n] sg) (he : PE X e te)
    (TB : TabB X.base X.mg c P) (hcode : X.env.code = .ref c) (hmT : (P, X.env.qual ++ "<lambda>") ∈ T) (hu : ∀ p ∈ T, p.1 = P → p.2 = X.env.qual ++ "<lambda>") (hr : Room (k + 2) X.A) (S : NScope N [one] fr scope)
    (hfree : ∀ y ∈ scope.names, y.2 = .free → X.env.scope.names.lookup y.1 = some .cell ∨ X.env.scope.names.lookup y.1 = some .free) (hfr : ∀ y ∈ fr, (y, NameKind.free) ∈ scope.names) (hjs : js.map (fun j => X.N[j]?) = fr.map some) (hdef : defaultsOf params X.env = ([], []))
    (hbind : ∀ (q : Str) (cl : List (Str × Addr)) (pm cv ctv : Value) (u : Value), bindArgs (PySem.W.kla_fn "<lambda>" q params body scope cl pm cv ctv) ⟨[u], []⟩ = pure [(one, u)])
    (hbody : ∀ (A : Around) (outer : List Env) (s : Shared) (H : Hp) (f c' : Addr) (q : Str) (cl : List (Str × Addr)), Room k (A.deeper (envF ⟨"<lambda>", q, params, [], scope, cl, c'⟩ f s.heap.objs.size)) → PE (ncx C8.CX0 X.prog X.w X.K X.mg X.base N ⟨"<lambda>", q, params, [], scope, cl, c'⟩ f A outer s H C8.E0) body tb)
    (hN : Ng[i]? = some a) (hv : Vis sg a) (hN2 : Ng[j]? = some b) (hv2 : Vis sg b)
    (hG : ∀ (f c' : Addr) (ws : List (Option V)) (s : Shared) (H : Hp), Room (k + 1) (X.A.deeper (envOfC qg sg s.heap.objs.size g cdv)) →
      (∀ p1 p2 p3 : Pos, PE ((cxOf C8.CX0 X.prog X.w X.K X.mg X.base Ng qg sg g cdv X.A X.stack s H C8.E0).nox) (.Call (.Name a p1) [.Name b p2] [] p3) (tAct i j f c' (X.env.qual ++ "<lambda>") N ws tb)) →
      PSs ((cxOf C8.CX0 X.prog X.w X.K X.mg X.base Ng qg sg g cdv X.A X.stack s H C8.E0).nox) bg (TF f c' ws))
    (hd : (a == ("__debug__" : Str)) = false := by decide) (hcd : (a == ("__classdict__" : Str)) = false := by decide) (hd2 : (b == ("__debug__" : Str)) = false := by decide) (hcd2 : (b == ("__classdict__" : Str)) = false := by decide)
    (hst : starEach [e, .Lambda params body scope lpos] X.env = (false, eval e X.env) :: starEach [.Lambda params body scope lpos] X.env := by rfl) (hpl : (backTo pos (starEach [.Lambda params body scope lpos] X.env)).any (·.1) = false := by rfl)
    (ht : eval (.Call (.Attribute o m apos) [e, .Lambda params body scope lpos] [] pos) X.env = (do
      let ov ← eval o X.env
      standAt apos.atName
      let (f, first) ← holding [ov]
                                                                  (getMethod ov m pl)
      callWith pos f first (backTo pos (starEach [e, .Lambda params body scope lpos] X.env)) (backToKw pos (keywordEach [] X.env))) := by rfl) :
    PE X (.Call (.Attribute o m apos) [e, .Lambda params body scope lpos] [] pos) (tMLam T C m (X.env.qual ++ "<lambda>") js Ng TF ta te) := by
  constructor
  intro pins s st H Q I h
  refine PySem.W.methodCall_KW (pl := pl) (thn (ho.run pins s st H _ I h) fun u s1 ⟨x, H1, I1, rx, p, dx, fs, ex, ea, l, q⟩ => ?_) ht
  subst ex
  obtain rfl : u =
                                                              Value.ref p := rx
  refine getmeth_ok I1 ea hcl hm l ?_
  refine PySem.W.callWith_K (first := [.ref p]) (h₀ := X.base) I.ok.mod.kin hm.kp ?_ hst hpl
  rw [hst]
  show wpAny _ _ (spliced ((false, eval e X.env) :: backTo pos (starEach [.Lambda params body scope lpos] X.env))) _ _ s1
  refine Calls.spliced_cons (thn (he.run pins s1 st H1 _ I1 q) fun y' s2 ⟨y, H2, I2, ry, hT, q2⟩ => ?_)
  show wpAny _ _ (spliced ((false, eval (.Lambda params body scope lpos) X.env) :: backTo pos (starEach [] X.env))) _ _ s2
  have hf2 : ∀ y ∈ scope.names, y.2 = .free → ∃ c, X.env.cells.lookup y.1 = some c := fun y hy z => (hfree y hy z).elim (fun k => I2.ok.has _ (.inl k)) fun k => I2.ok.has _ (.inr k)
  refine Calls.spliced_cons (lam_make2 I2 TB hcode hmT hu hT hdef hf2 fun f c' pm' ctv H3 s3 I3 eN T3 hf hfn hfrs hco => ?_)
  refine Calls.spliced_nil ⟨I3.kIn, ?_⟩
  have rc : codeAny (model X.prog X.w) X.A (.call (.ref g) ⟨[.ref p, y', .ref f], []⟩) (CR C8.CX0 X.stack X.prog X.w H3 s3 Q C8.E0) s3 := by
    refine run_ofS (N := Ng) (ps := [s1n, s2n, s3n]) (us := [.ref p, y', .ref f]) (vs := [.ref p, y, .ref f]) lk hcg Sg hr I3.env0 (hb s3 [.ref p, y', .ref f] I3.kIn rfl) (.cons rfl (.cons ry (.cons rfl .nil))) rfl fun hr' => ?_
    have C3 : CellsAt (cloFrom X.env.cells scope.names []) fr (js.map (NdefX.slotAt st)) s3.heap H3 := cells_of I3 (Caps.made I3.ok hfree hfr hjs)
    refine ⟨_, (hG f c' _ s3 H3 hr' fun p1 p2 p3 => pe_act1 I3 hf hfn hfrs C3 S (hbind _ _ _ _ _) hr' (fun A outer s H hr2 => hbody A outer s H f c' _ _ hr2) hN hv hN2 hv2 hd hcd hd2 hcd2).nox, q2 H3 f c' eN T3 hco⟩
  refine wpAny_call (codeAny_mono rc fun r s4 hq => ?_)
  cases r with
  | error e => exact (show
                                                              False from hq).elim
  | ok fl =>
    cases fl with
    | ret u => exact I3.after hq
    | next => exact False.elim hq
    | brk => exact False.elim hq
    | cont => exact False.elim hq
end
/-! ### a dict with one text key as a dict with nested keys -/
theorem nd_conv {X : Cx} {pins : List (Addr × Obj)} {st : L2.St} {H : Hp} {s : Shared} {d : Addr} {x : Str} {v : V} (I : L2.Inv X pins st H s) (e : H d = some (.dK [(.inr x, v)])) : L2.Inv X pins st (upd H d (NdO X.w d [(.text x, .str x, v)])) s := by
  obtain ⟨z, hd, vs, rel,
                                                              dd⟩ := dk_of I.hok e
  obtain ⟨k', r⟩ : ∃ r, vs = [(Sum.inr x, r)] ∧ RelV v r := by
    cases rel with
    | @cons p q ps qs h t =>
      cases t
      obtain ⟨q1, q2⟩ := q
      obtain ⟨h1, h2⟩ := h
      cases (show Sum.inr x = q1 from h1)
      exact ⟨q2, rfl, h2⟩
  obtain ⟨ev, rv⟩ := r
  subst ev
  obtain ⟨o, es, ep, ho, hx, hdt, hk, hp, _⟩ := dd
  obtain ⟨en, hes, hen, hval⟩ : ∃ en, es.toList = [en] ∧ keyIs (Sum.inr x) en.key = true ∧ en.val = k' := by
    generalize es.toList = l at hp
    cases hp with
    | @cons e kv es kvs h1 h2 h3 =>
      cases h3
      exact ⟨e, rfl, h1, h2⟩
  obtain ⟨i, t, z1, z2⟩ | ⟨y, t, z1, z2⟩ := keyIs_shape hen
  · cases z1
  · cases z1
    have hh : en.hash = hashStr X.w x := by
      obtain ⟨kk, a1, a2⟩ := hk en (Array.mem_toList_iff.mp (by rw [hes]; exact List.mem_cons_self))
      have e1 : kk = Sum.inr x := (mixKind X.prog X.w).inj _ _ _ a1 hen
      rw [a2, e1]
      rfl
    refine d_write (h' := s.heap) (t' := s.toks) I (by rw [e]; exact True.intro) ⟨rfl, fun b _ => rfl⟩ ⟨o, ho⟩ (nd_ok (xs := [(.text x, en.key, en.val)]) hd (by show 1 ≤ sizeLine; decide) (.cons ⟨rfl, ?_, by rw [hval]; exact rv⟩ .nil) ⟨⟨o, es, ep, ho, hx, hdt, ?_⟩, by simp⟩)
    · rw [z2]
      exact ⟨t, rfl⟩
    · rw [hes]
      show [en] = [(⟨hashStr X.w x, en.key, en.val⟩ : DictEntry)]
      rw [← hh]
def tConv (w : World) (t : TE) : TE := fun st H Q => ∃ d x v, H d = some (.dK [(.inr x, v)]) ∧ t st (upd H d (NdO w d [(.text x, .str x, v)])) Q
theorem pe_conv {X : Cx} {e : Expr} {t : TE} (h : PE X e t) : PE X e (tConv X.w t) := ⟨fun pins s st H Q I hw => by
  obtain ⟨d, x, v, hd, hw⟩ := hw
  exact h.run pins s st _ Q (nd_conv I hd) hw⟩
end L2.KR
namespace K53
open PySem PySem.Spec PyProof.Rows L2 L2.KR

def lfs (ls : List Lf) : List V := ls.map Lf.v
/-- a value that is asked about -/
inductive FV where
  | other
  | five (a b c : Lf) (u : Option (List Lf)) (w : List Lf)
def TupL (H : Hp) (v : V) (ls : List Lf) : Prop := ∃ a, v = .ref a ∧ H a = some (.tup (lfs ls))
def LstL (H : Hp) (v : V) : Prop := ∃ a xs, v = .ref a ∧ H a = some (.lst xs)
inductive Shp (H : Hp) : V → FV → Prop
  | non : Shp H .non .other
  | int (i : Int) : Shp H (.int i) .other
  | lst {a : Addr} {xs : List V} : H a = some (.lst xs) → Shp H (.ref a) .other
  | tup {a : Addr} {xs : List V} : H a = some (.tup xs) → xs.length ≠ 5 → Shp H (.ref a) .other
  | five {t : Addr} {a b c : Lf} {u w : V} {uo : Option (List Lf)} {ws : List Lf} : H t = some (.tup [a.v, b.v, c.v, u, w]) → ((uo = none ∧ LstL H u) ∨ ∃ us, uo = some us ∧ TupL H u us) → TupL H w ws → Shp H (.ref t) (.five a b c uo ws)
theorem TupL.same {H H' : Hp} {v : V} {ls : List Lf} (h : TupL H v ls) (s : Same H H') : TupL H' v ls := let ⟨a, h1, h2⟩ := h; ⟨a, h1, s _ _ h2⟩
theorem LstL.same {H H' : Hp} {v : V} (h : LstL H v) (s : Same H H') : LstL H' v := let ⟨a, xs, h1, h2⟩ := h; ⟨a, xs, h1, s _ _ h2⟩
def Lf.nat : Lf → Nat
  | .i x => x.toNat
  | _ => 0
def rowB (m : Mc) (ls : List Lf) : Bool := ls.all fun l => l.ix m.c
def natsL (ls : List Lf) : List Nat := ls.map Lf.nat
def fvB (m : Mc) : FV → Bool
  | .other => false
  | .five _ _ _ none _ => false
  | .five a b c (some u) w => a.ix m.n && b.ix m.n && c.ix m.c && rowB m u && rowB m w && (u.length == w.length) && (m.led a.nat (natsL u) == m.led b.nat (natsL w)) && !(m.led a.nat (c.nat :: natsL u) == m.led b.nat (c.nat :: natsL w))
theorem Lf.ix_nat {l : Lf} {k : Nat} (h : l.ix k = true) : l.v = .int (l.nat : Int) ∧ l.nat < k := by
  cases l with
  | n => cases h
  | b x => cases h
  | i x =>
    have h' : (decide (0 ≤ x) && decide (x < (k : Int))) = true := h
    rw [Bool.and_eq_true] at h'
    have h1 := of_decide_eq_true h'.1
    have h2 := of_decide_eq_true h'.2
    refine ⟨?_, ?_⟩
    · show V.int x = V.int (x.toNat : Int)
      rw [Int.toNat_of_nonneg h1]
    · show x.toNat < k
      omega
theorem row_nat {m : Mc} {ls : List Lf} (h : rowB m ls = true) : lfs ls = nts (natsL ls) ∧ RowOk m (natsL ls) := by
  induction ls with
  | nil => exact ⟨rfl, RowOk.nil m⟩
  | cons l r ih =>
    unfold rowB at h
    rw [List.all_cons,
                                                                Bool.and_eq_true] at h
    obtain ⟨h1, h2⟩ := Lf.ix_nat h.1
    obtain ⟨h3, h4⟩ := ih h.2
    refine ⟨?_, fun x hx => ?_⟩
    · show l.v :: lfs r = V.int (l.nat : Int) :: nts (natsL r)
      rw [h1, h3]
    · rcases List.mem_cons.mp hx with e | e
      · rw [e]; exact h2
      · exact h4 x e
theorem lfs_len (ls : List Lf) : (lfs ls).length = ls.length := List.length_map _
theorem lfs_get {ls : List Lf} {i : Nat} {x : V} (h : (lfs ls)[i]? = some x) : ∃ l, ls[i]? = some l ∧ x = l.v := by
  unfold lfs at h
  rw [List.getElem?_map] at h
  cases e : ls[i]? with
  | none => rw [e]
                                                              at h; cases h
  | some a =>
    rw [e] at h
    exact ⟨a, rfl, (Option.some.inj h).symm⟩
theorem deqI {a b : Nat} : decide (V.int (a : Int) = V.int (b : Int)) = (a == b) := by
  by_cases h : a = b
  · rw [h, decide_eq_true rfl, beq_self_eq_true]
  · rw [decide_eq_false fun z => h (by injection z with z; omega), beq_eq_false_iff_ne.mpr h]
section
variable {P : Program} {w : World} {K : PySem.W.Frag} {mg : Str → Option Value} {base : Heap} {f C : Addr} {fd : FuncData}
def spIsRow (C : Addr) : Sp := fun vs H Q _ => ∃ (p : Addr) (m : Mc) (d : Addr) (v : V), vs = [.ref p, v] ∧ MachAt C H p m d ∧ ((LstL H v ∧ Q (.bl false) H) ∨ ∃ ls, TupL H v ls ∧ ls.length ≤ 4000 ∧ ∀ H', Same H H' → Q (.bl (rowB m ls)) H')
abbrev scIsRowN : List Str := ["machine", "value", "command"]
theorem scIsRow : FnScope scIsRowN ["machine", "value"] (defScope sIsRow) := ⟨rfl, rfl, rfl, by decide +kernel, rfl, by decide +kernel, by decide +kernel⟩
theorem ok_isRow (F : Fun K "is_row" "is_row" sIsRow f fd) (T : Txt mg) (M : MTxt K mg C) (cX : Df P w K mg base 3 "is_index" ["value", "many"] spIx) : FnOk P w K mg base CX0 4 f fd ["machine", "value"] (spIsRow C) := by
  refine F.ok scIsRow (fun vs H Q E h => ?_) (fun cdv A outer s H vs Q E hr h => ?_)
  · obtain ⟨p, m, d, v, rfl, _⟩ := h
    rfl
  · obtain ⟨p, m, d, v, rfl, hm, h⟩ := h
    obtain ⟨ok, dx, sA, rs, h1, h2, h3⟩ := id hm
    refine ⟨_, (pss_one (ps_ret (pe_and (pe_isB T rfl (pv 1) (pe_tyTup T rfl)) (pe_one (pe_callB (cr_all rfl) (by rfl) T.all (by decide +kernel) (pa_cons (pe_lc (own := [("command", 2)]) (g := gName 2) (tt := tYes) (by rfl) scIsRow.nd (pi_tup (pv 1)) (blkOk_by (own := [("command", 2)]) (N := scIsRowN) (sc := defScope sIsRow) (by decide +kernel)) (fun _ _ _ _ _ => pg_name (i := 2) scIsRow.nd rfl (Or.inl rfl)) (fun _ _ _ _ _ => pts_nil) (fun _ _ _ _ _ => (pe_df cX hr (by decide) rfl (pa_cons (pv 2) (pa_cons (pe_fldK (K := K) rfl (pv 0) rfl) pa_nil))))) pa_nil)))))), ?_⟩
    rcases h with ⟨⟨a, xs, rfl, ha⟩, k⟩ | ⟨ls, ⟨a, rfl, ha⟩, hl, k⟩
    · exact ⟨_, rfl, .ref a, .ty "tuple", .type "list", .type "tuple", false, rfl, .ty _, .base (.lst ha), kit_ty (by decide +kernel), false, rfl, iteF k⟩
    · refine ⟨_, rfl, .ref a, .ty "tuple", .type "tuple", .type "tuple", true, rfl, .ty _, .base (.tup ha), kit_ty (by decide +kernel), true, rfl, iteT ?_⟩
      refine ⟨_, rfl, a, rfl, ⟨_, SqT.of ha⟩, fun D hD => ?_⟩
      refine lc_tup (K := K) (a := a) (xs := lfs ls) (fun i H' => Same H H' ∧ H' D = some (.lst (((ls.take i).map fun l => l.ix m.c).map V.bl))) ⟨same_new (fun _ _ e => e) hD, upd_same⟩ (fun i H' _ q => SqT.of (q.1 _ _ ha)) ?_ ?_
      · rintro i x H' hi ⟨sm, eD⟩
        obtain ⟨l, hl', rfl⟩ := lfs_get hi
        refine ⟨rfl, ?_⟩
        refine ⟨_, rfl, _, rfl, p, C, dx, _, _, rfl, sm _ _ h1, M.cl, M.nC, lk_c _ _ _ _, l, _, rfl, ?_⟩
        refine ⟨_, eD, ?_, same_updF sm hD, ?_⟩
        · rw [List.length_map, List.length_map, List.length_take]
          exact small (by omega)
        · rw [upd_same, take_snoc hl', List.map_append, List.map_append]
          rfl
      · rintro H' ⟨sm, eD⟩
        rw [lfs_len, List.take_length] at eD
        refine ⟨D, _, rfl, SqL.of eD, ?_⟩
        have e : (ls.map fun l => l.ix m.c).all id = rowB m ls := by
          unfold rowB
          rw [List.all_map]
          rfl
        rw [e]
        exact k _ sm
def spIsNF (C : Addr) : Sp := fun vs H Q _ => ∃ (p : Addr) (m : Mc) (d : Addr) (v : V) (fv : FV), vs = [.ref p, v] ∧ MachAt C H p m d ∧ Shp H v fv ∧ (∀ a b c u w, fv = .five a b c u w → w.length ≤ 4000 ∧ ∀ us, u = some us → us.length ≤ 4000) ∧ ∀ H', Same H H' → Q (.bl (fvB m fv)) H'
abbrev scIsNFN : List Str := ["machine", "value", "s", "t", "command", "u", "w"]
theorem scIsNF : FnScope scIsNFN ["machine", "value"] (defScope sIsNF) := ⟨rfl, rfl, rfl, by decide +kernel, rfl, by decide +kernel, by decide +kernel⟩
theorem ok_isNF (F : Fun K "is_number_fault" "is_number_fault" sIsNF f fd) (T : Txt mg) (M : MTxt K mg C) (cX : Df P w K mg base 3 "is_index" ["value", "many"] spIx) (cR : Df P w K mg base 4 "is_row" ["machine", "value"] (spIsRow C)) (cL : Df P w K mg base 1 "led" ["machine", "state", "row"] (spLed C)) :
    FnOk P w K mg base CX0 5 f fd ["machine", "value"] (spIsNF C) := by
  refine F.ok scIsNF (fun vs H Q E h => ?_) (fun cdv A outer s H vs Q E hr h => ?_)
  · obtain ⟨p, m, d, v, fv, rfl, _⟩ := h
    rfl
  · obtain ⟨p, m, d, v, fv, rfl, hm, hv, hl, k⟩ := h
    obtain ⟨ok, dx, sA, rs, h1, h2, h3⟩ := id hm
    refine ⟨_, (pss_cons (ps_if (PW.pt (pw_or (pt_not (pt_val (pe_isB T rfl (pv 1) (pe_tyTup T rfl)))) (pw_or1 (pt_cmpR op_ne (pe_callB (lenK (K := K) rfl) (by rfl) T.len PySem.boot_len (pa_cons (pv 1) pa_nil)) pe_int (nomark _))))) (pss_one (ps_ret pe_bl)) pss_nil)
      (pss_cons (ps_asg (pv 1) (pg_tup rfl (pgs_cons (pg_name (i := 2) scIsNF.nd rfl (.inl rfl)) (pgs_cons (pg_name (i := 3) scIsNF.nd rfl (.inl rfl)) (pgs_cons (pg_name (i := 4) scIsNF.nd rfl (.inl rfl)) (pgs_cons (pg_name (i := 5) scIsNF.nd rfl (.inl rfl)) (pgs_cons (pg_name (i := 6) scIsNF.nd rfl (.inl rfl)) pgs_nil)))))))
      (pss_cons (ps_if (PW.pt (pw_or (pt_not (pt_val (pe_df cX hr (by decide) rfl (pa_cons (pv 2) (pa_cons (pe_fldK (K := K) rfl (pv 0) rfl) pa_nil))))) (pw_or (pt_not (pt_val (pe_df cX hr (by decide) rfl (pa_cons (pv 3) (pa_cons (pe_fldK (K := K) rfl (pv 0) rfl) pa_nil))))) (pw_or1 (pt_not (pt_val (pe_df cX hr (by decide) rfl (pa_cons (pv 4) (pa_cons (pe_fldK (K := K) rfl (pv 0) rfl) pa_nil))))))))) (pss_one (ps_ret pe_bl)) pss_nil)
      (pss_cons (ps_if (PW.pt (pw_or (pt_not (pt_val (pe_df cR hr (by decide) rfl (pa_cons (pv 0) (pa_cons (pv 5) pa_nil))))) (pw_or (pt_not (pt_val (pe_df cR hr (by decide) rfl (pa_cons (pv 0) (pa_cons (pv 6) pa_nil))))) (pw_or1 (pt_cmpR op_ne (pe_callB (lenK (K := K) rfl) (by rfl) T.len PySem.boot_len (pa_cons (pv 5) pa_nil)) (pe_callB (lenK (K := K) rfl) (by rfl) T.len PySem.boot_len (pa_cons (pv 6) pa_nil)) (nomark _)))))) (pss_one (ps_ret pe_bl)) pss_nil)
      (pss_cons (ps_if (pt_cmpR op_ne (pe_df cL hr (by decide) rfl (pa_cons (pv 0) (pa_cons (pv 2) (pa_cons (pv 5) pa_nil)))) (pe_df cL hr (by decide) rfl (pa_cons (pv 0) (pa_cons (pv 3) (pa_cons (pv 6) pa_nil)))) (nomark _)) (pss_one (ps_ret pe_bl)) pss_nil)
      (pss_one (ps_ret (pe_cmpR op_ne (pe_df cL hr (by decide) rfl (pa_cons (pv 0) (pa_cons (pv 2) (pa_cons (pe_tup (pa_cons (pv 4) (StX.pa_star (pv 5) pa_nil))) pa_nil)))) (pe_df cL hr (by decide) rfl (pa_cons (pv 0) (pa_cons (pv 3) (pa_cons (pe_tup (pa_cons (pv 4) (StX.pa_star (pv 6) pa_nil))) pa_nil)))) (nomark _))))))))), ?_⟩
    have k0 : Same H H := fun _ _ e => e
    have fld : ∀ {H' : Hp}, Same H H' → H' p = some (.ins C dx (mflds m.c m.n sA d)) := fun s => s _ _ h1
    cases hv with
    | non => exact ⟨_, rfl, .non, .ty "tuple", .type "NoneType", .type "tuple", false, rfl, .ty _, .base .non, kit_ty (by decide +kernel), _, rfl, iteT (iteT (k H k0))⟩
    | int i => exact ⟨_, rfl, .int i, .ty "tuple", .type "int", .type "tuple", false, rfl, .ty _, .base (.int i), kit_ty (by decide +kernel), _, rfl, iteT (iteT (k H k0))⟩
    | @lst a xs ha => exact ⟨_, rfl, .ref a, .ty "tuple", .type "list", .type "tuple", false, rfl, .ty _, .base (.lst ha), kit_ty (by decide +kernel), _, rfl, iteT (iteT (k H k0))⟩
    | @tup a xs ha hn =>
      refine ⟨_, rfl, .ref a, .ty "tuple", .type "tuple", .type "tuple", true, rfl, .ty _, .base (.tup ha), kit_ty (by decide +kernel), _, rfl, iteF ?_⟩
      refine ⟨_, rfl, a, xs, rfl, .inr (SqT.of ha), rfl, _, rfl, ?_⟩
      have e : (!decide (V.int (xs.length : Nat) = V.int 5)) = true := by
        rw [decide_eq_false fun z => hn (by injection z with z; omega)]
        rfl
      rw [e]
      exact iteT (k H k0)
    | @five t a b c u w' uo ws ht hU hW =>
      obtain ⟨wl, ul⟩ := hl a b c uo ws rfl
      refine ⟨_, rfl, .ref t, .ty "tuple", .type "tuple", .type "tuple", true, rfl, .ty _, .base (.tup ht), kit_ty (by decide +kernel), _, rfl, iteF ?_⟩
      refine ⟨_, rfl, t, _, rfl, .inr (SqT.of ht), rfl, _, rfl, iteF ?_⟩
      refine ⟨_, rfl, t, _, rfl, SqT.of ht, rfl, _, _, rfl, _, _, rfl, _, _, rfl, _, _, rfl, _, _, rfl, rfl, ?_⟩
      refine ⟨_, rfl, _, rfl, p, C, dx, _, _, rfl, h1, M.cl, M.nN, lk_n _ _ _ _, a, _, rfl, _, rfl, ?_⟩
      cases ea : a.ix (m.n : Int) with
      | false =>
        have e : fvB m (.five a b c uo ws) = false := by cases uo <;> simp [fvB, ea]
        rw [e] at k
        exact iteT (iteT (k H k0))
      | true =>
      refine iteF ⟨_, rfl, _, rfl, p, C, dx, _, _, rfl, h1, M.cl, M.nN, lk_n _ _ _ _, b, _, rfl, _, rfl, ?_⟩
      cases eb : b.ix (m.n : Int) with
      | false =>
        have e : fvB m (.five a b c uo ws) = false := by cases uo <;> simp [fvB, eb]
        rw [e] at k
        exact iteT (iteT (k H k0))
      | true =>
      refine iteF ⟨_, rfl, _, rfl, p, C, dx, _, _, rfl, h1, M.cl, M.nC, lk_c _ _ _ _, c, _, rfl, _, rfl, ?_⟩
      cases ec : c.ix (m.c : Int) with
      | false =>
        have e : fvB m (.five a b c uo ws) = false := by cases uo <;> simp [fvB, ec]
        rw [e] at k
        exact iteT (k H k0)
      | true =>
      obtain ⟨va, na⟩ := Lf.ix_nat ea
      obtain ⟨vb, nb⟩ := Lf.ix_nat eb
      obtain ⟨vc, nc⟩ := Lf.ix_nat ec
      refine iteF ?_
      rcases hU with ⟨rfl, hU⟩ | ⟨us, rfl, hU⟩
      · -- a list
        refine ⟨_, rfl, _, rfl, p, m, d, u, rfl, hm, .inl ⟨hU, _, rfl, iteT ?_⟩⟩
        exact iteT (k H k0)
      · have ul' := ul us rfl
        refine ⟨_, rfl, _, rfl, p, m, d, u, rfl, hm, .inr ⟨us, hU, ul', fun H1 s1 => ⟨_, rfl, ?_⟩⟩⟩
        cases eu : rowB m us with
        | false =>
          have e : fvB m (.five a b c (some us) ws) = false := by simp [fvB, eu]
          rw [e] at k
          exact iteT (iteT (k H1 s1))
        | true =>
        refine iteF ⟨_, rfl, _, rfl, p, m, d, w', rfl, hm.same s1, .inr ⟨ws, hW.same s1, wl, fun H2 s2 => ⟨_, rfl, ?_⟩⟩⟩
        have s12 := s1.trans s2
        cases ew : rowB m ws with
        | false =>
          have e : fvB m (.five a b c (some us) ws) = false := by simp [fvB, ew]
          rw [e] at k
          exact iteT (iteT (k H2 s12))
        | true =>
        obtain ⟨uA, rfl, hu'⟩ := hU
        obtain ⟨wA, rfl, hw'⟩ := hW
        refine iteF ⟨_, rfl, uA, _, rfl, .inr (SqT.of (s12 _ _ hu')), _, rfl, wA, _, rfl, .inr (SqT.of (s12 _ _ hw')), rfl, _, rfl, ?_⟩
        rw [lfs_len, lfs_len, deqI]
        cases el : us.length == ws.length with
        | false =>
          have e : fvB m (.five a b c (some us) ws) = false := by simp [fvB, el]
          rw [e] at k
          exact iteT (k H2 s12)
        | true =>
        refine iteF ?_
        obtain ⟨r1, r2⟩ := row_nat eu
        obtain ⟨q1, q2⟩ := row_nat ew
        rw [r1] at hu'
        rw [q1] at hw'
        -- led
        refine ⟨_, rfl, _, rfl, _, rfl, p, m, d, uA, a.nat, natsL us, (by rw [va]; rfl), hm.same s12, na, r2, s12 _ _ hu', _, rfl, _, rfl, _, rfl, p, m, d, wA, b.nat, natsL ws, (by rw [vb]; rfl), hm.same s12, nb, q2, s12 _ _ hw', rfl, _, rfl, ?_⟩
        rw [deqI]
        cases e1 : m.led a.nat (natsL us) == m.led b.nat (natsL ws) with
        | false =>
          have e : fvB m (.five a b c (some us) ws) = false := by simp only [fvB, e1, Bool.and_false, Bool.false_and]
          rw [e] at k
          exact iteT (k H2 s12)
        | true =>
        refine iteF ?_
        refine ⟨_, rfl, _, rfl, _, rfl, _, rfl, uA, _, rfl, .inl (SqT.of (s12 _ _ hu')), ?_, fun t1 ht1 => ?_⟩
        · show (nts (natsL us) ++ []).length + 1 ≤ sizeLine
          rw [List.append_nil, nts_len]
          unfold natsL
          rw [List.length_map]
          exact small (by omega)
        have e9 : (c.v :: (nts (natsL us) ++ [])) = nts (c.nat :: natsL us) := by rw [List.append_nil, vc]; rfl
        have e10 : (c.v :: (nts (natsL ws) ++ [])) = nts (c.nat :: natsL ws) := by rw [List.append_nil, vc]; rfl
        have s3 : Same H2 (upd H2 t1 (.tup (c.v :: (nts (natsL us) ++ [])))) := same_new (fun _ _ e => e) ht1
        have s13 := s12.trans s3
        have okc : RowOk m (c.nat :: natsL us) := fun x hx => by
          rcases List.mem_cons.mp hx with e | e
          · rw [e]; exact nc
          · exact r2 x e
        have okd : RowOk m (c.nat :: natsL ws) := fun x hx => by
          rcases List.mem_cons.mp hx with e | e
          · rw [e]; exact nc
          · exact q2 x e
        refine ⟨p, m, d, t1, a.nat, c.nat :: natsL us, (by rw [va]; rfl), hm.same s13, na, okc, by rw [← e9]; exact upd_same, ?_⟩
        refine ⟨_, rfl, _, rfl, _, rfl, _, rfl, wA, _, rfl, .inl (SqT.of (s13 _ _ hw')), ?_, fun t2 ht2 => ?_⟩
        · show (nts (natsL ws) ++ []).length + 1 ≤ sizeLine
          rw [List.append_nil, nts_len]
          unfold natsL
          rw [List.length_map]
          exact small (by omega)
        have s4 : Same H (upd (upd H2 t1 (.tup (c.v :: (nts (natsL us) ++ [])))) t2 (.tup (c.v :: (nts (natsL ws) ++ [])))) := same_new s13 ht2
        refine ⟨p, m, d, t2, b.nat, c.nat :: natsL ws, (by rw [vb]; rfl), hm.same s4, nb, okd, by rw [← e10]; exact upd_same, rfl, ?_⟩
        have e : fvB m (.five a b c (some us) ws) = !(m.led a.nat (c.nat :: natsL us) == m.led b.nat (c.nat :: natsL ws)) := by
          simp only [fvB, ea, eb, ec, eu, ew, el, e1, Bool.true_and]
        rw [e] at k
        rw [deqI]
        exact k _ s4
end
end K53
namespace K53
open PySem PySem.Spec PyProof.Rows L2 L2.KR

theorem MachAt.kp {C : Addr} {H H' : Hp} {p : Addr} {m : Mc} {d : Addr} {l : List Addr} (h : MachAt C H p m d) (k : Kp l H H') (hl : ∀ b ∈ l, ∀ o, H b = some o → (∀ C dx fs, o ≠ .ins C dx fs) ∧ ∀ xs, o ≠ .tup xs) : MachAt C H' p m d := by
  obtain ⟨ok, dx, sA, rs, h1, h2, h3⟩ := h
  exact ⟨ok, dx, sA, rs, k _ _ h1 fun z => (hl _ z _ h1).1 _ _ _ rfl, k _ _ h2 fun z => (hl _ z _ h2).2 _ rfl, Paired.imp h3 fun a xs _ e => k _ _ e fun z => (hl _ z _ e).2 _ rfl⟩
theorem tup_kp {H H' : Hp} {l : List Addr} (k : Kp l H H') (hl : ∀ b ∈ l, ∀ o, H b = some o → (∀ C dx fs, o ≠ .ins C dx fs) ∧ ∀ xs, o ≠ .tup xs) : ∀ a xs, H a = some (.tup xs) → H' a = some (.tup xs) := fun a xs e => k _ _ e fun z => (hl _ z _ e).2 _ rfl
def nfS : Str := "number fault"
section
variable {P : Program} {w : World} {K : PySem.W.Frag} {mg : Str → Option Value} {base : Heap} {f C : Addr} {fd : FuncData}
def NFHeap (m : Mc) (H : Hp) (d : Addr) : Prop := H d = some (.dK []) ∨ ∃ v, H d = some (.dK [(.inr nfS, v)]) ∧ NumV m H v
theorem NFHeap.cls {m : Mc} {H : Hp} {d : Addr} (h : NFHeap m H d) : ∀ b ∈ [d], ∀ o, H b = some o → (∀ C dx fs, o ≠ .ins C dx fs) ∧ ∀ xs, o ≠ .tup xs := fun b hb o e => by
  rw [List.mem_singleton.mp hb] at e
  rcases h with h | ⟨v, h, _⟩ <;> rw [h] at e <;> cases e <;> exact ⟨(fun _ _ _ z => nomatch z), (fun _ z => nomatch z)⟩
def spFoundS (C fe : Addr) : Sp := fun vs H Q _ => ∃ (p : Addr) (m : Mc) (d : Addr), vs = [.ref p, .str nfS, .ref fe] ∧ MachAt C H p m d ∧ NFHeap m H d ∧ ∀ H' v, Kp [d] H H' → H' d = some (.dK [(.inr nfS, v)]) → NumV m H' v → Q v H'
abbrev scFoundN : List Str := ["self", "word", "work"]
theorem scFound : FnScope scFoundN ["self", "word", "work"] (defScope sFound) := ⟨rfl, rfl, rfl, by decide +kernel, rfl, by decide +kernel, by decide +kernel⟩
theorem ok_foundS {fe : Addr} {fde : FuncData} (F : Fun K "found" "Machine.found" sFound f fd) (M : MTxt K mg C) (FE : FnOk P w K mg base CX0 2 fe fde ["machine"] (spExN C)) (kE : PySem.W.keepIn K (.ref fe) = true) (bE : Binds K fde ["machine"] []) :
    FnOk P w K mg base CX0 3 f fd ["self", "word", "work"] (spFoundS C fe) := by
  refine F.ok scFound (fun vs H Q E h => ?_) (fun cdv A outer s H vs Q E hr h => ?_)
  · obtain ⟨p, m, d, rfl, _⟩ := h
    rfl
  · obtain ⟨p, m, d, rfl, hm, hd, k⟩ := h
    have hu := hu_of hr
    obtain ⟨ok, dx, sA, rs, h1, h2, h3⟩ := id hm
    have cls := hd.cls
    refine ⟨_, pss_cons (ps_if (pt_cmp (pc_dnotin hu (pv 1) (pe_fldK (K := K) rfl (pv 0) rfl))) (pss_one (ps_dput hu (pe_fldK (K := K) rfl (pv 0) rfl) (pv 1) (pe_callL (i := 2) FE hr rfl (.inl rfl) kE bE .nil pass0 (pa_cons (pv 0) pa_nil)) rfl)) pss_nil)
      (pss_one (ps_ret (pe_dget hu (pe_fldK (K := K) rfl (pv 0) rfl) (pv 1) (fun _ _ => rfl)))), ?_⟩
    have fin : ∀ (H' : Hp) (v : V), Kp [d] H H' → H' d = some (.dK [(.inr nfS, v)]) → NumV m H' v → tRet (tDGet (tFld K (tVar 0) "_found") (tVar 1)) { nx := fun _ H' => Q .non H', rt := Q } [some (.ref p), some (.str nfS), some (.ref fe)] H' := fun H' v kp hd' hv => by
      have h1' : H' p = some (.ins C dx (mflds m.c m.n sA d)) := kp _ _ h1 fun z => (cls _ z _ h1).1 _ _ _ rfl
      refine ⟨_, rfl, p, C, dx, _, _, rfl, h1', M.cl, M.nF, lk_f _ _ _ _, _, rfl, d, v, rfl, ?_, k H' v kp hd' hv⟩
      have q := DGet.k (k := Sum.inr nfS) hd'
      rw [valV_pos (p := (Sum.inr nfS, v)) rfl] at q
      exact q
    rcases hd with hd | ⟨v, hd, hv⟩
    · refine ⟨_, rfl, _, rfl, p, C, dx, _, _, rfl, h1, M.cl, M.nF, lk_f _ _ _ _, d, _, rfl, DGet.k (k := Sum.inr nfS) hd, _, rfl, ?_⟩
      refine iteT ?_
      refine ⟨rfl, _, rfl, p, m, d, rfl, hm, fun H1 v s1 hv => ?_⟩
      refine ⟨_, rfl, p, C, dx, _, _, rfl, s1 _ _ h1, M.cl, M.nF, lk_f _ _ _ _, _, rfl, d, _, rfl, DPut.k (k := Sum.inr nfS) (s1 _ _ hd) (by show 0 < sizeLine; decide), ?_⟩
      refine fin _ v (Kp.upd (Kp.of_same s1) (.inl (List.mem_singleton.mpr rfl))) upd_same (hv.kp fun a xs e => ?_)
      rw [upd_ne (show a ≠ d from fun z => by rw [z, s1 _ _ hd] at e; cases e)]
      exact e
    · refine ⟨_, rfl, _, rfl, p, C, dx, _, _, rfl, h1, M.cl, M.nF, lk_f _ _ _ _, d, _, rfl, DGet.k (k := Sum.inr nfS) hd, _, rfl, ?_⟩
      rw [valV_pos (p := (Sum.inr nfS, v)) rfl]
      exact iteF (fin H v (Kp.refl _ _) hd hv)
/-! ### number_fault -/
def spNumF (C : Addr) : Sp := fun vs H Q _ => ∃ (p : Addr) (m : Mc) (d : Addr), vs = [.ref p] ∧ MachAt C H p m d ∧ NFHeap m H d ∧ ∀ H' v, Kp [d] H H' → H' d = some (.dK [(.inr nfS, v)]) → NumV m H' v → Q v H'
theorem scNumF : FnScope ["machine"] ["machine"] (defScope sNumF) := ⟨rfl, rfl, rfl, by decide +kernel, rfl, by decide +kernel, by decide +kernel⟩
theorem ok_numF {g fe : Addr} {fdg : FuncData} (F : Fun K "number_fault" "number_fault" sNumF f fd) (M : MTxt K mg C) (hm : Meth K C "found" g) (G : FnOk P w K mg base CX0 3 g fdg ["self", "word", "work"] (spFoundS C fe)) (bG : Binds K fdg ["self", "word", "work"] []) (hfe : mg "explored_bynumber" = some (.ref fe)) :
    FnOk P w K mg base CX0 4 f fd ["machine"] (spNumF C) := by
  refine F.ok scNumF (fun vs H Q E h => ?_) (fun cdv A outer s H vs Q E hr h => ?_)
  · obtain ⟨p, m, d, rfl, _⟩ := h
    rfl
  · obtain ⟨p, m, d, rfl, hma, hd, k⟩ := h
    obtain ⟨ok, dx, sA, rs, h1, h2, h3⟩ := id hma
    refine ⟨_, pss_one (ps_ret (pe_meth (pv 0) M.cl hm G hr bG .nil pass0 (pa_cons pe_str (pa_cons (pe_glob (v := .ref fe) rfl hfe rfl) pa_nil)))), ?_⟩
    exact ⟨_, rfl, p, dx, _, rfl, h1, lk_no _ _ _ _, p, m, d, rfl, hma, hd, k⟩
end
end K53
namespace K53
open PySem PySem.Spec PyProof.Rows L2 L2.KR

structure ColOk (m : Mc) (col : List Nat) : Prop where
  len : col.length = m.n
  lt : ∀ x ∈ col, x < m.n
section
variable {P : Program} {w : World} {K : PySem.W.Frag} {mg : Str → Option Value} {base : Heap} {f C : Addr} {fd : FuncData}
def spAre (C : Addr) : Sp := fun vs H Q _ => ∃ (p : Addr) (m : Mc) (d ch : Addr) (col : List Nat), vs = [.ref p, .ref ch, .int (m.n : Int)] ∧ MachAt C H p m d ∧ H ch = some (.tup (nts col)) ∧ ColOk m col ∧ ∀ H', Same H H' → Q (.bl true) H'
abbrev scAreStN : List Str := ["machine", "value", "many", "state"]
theorem scAreSt : FnScope scAreStN ["machine", "value", "many"] (defScope sAreSt) := ⟨rfl, rfl, rfl, by decide +kernel, rfl, by decide +kernel, by decide +kernel⟩
theorem ok_areSt (F : Fun K "are_states" "are_states" sAreSt f fd) (T : Txt mg) (M : MTxt K mg C) (cX : Df P w K mg base 3 "is_index" ["value", "many"] spIx) : FnOk P w K mg base CX0 4 f fd ["machine", "value", "many"] (spAre C) := by
  refine F.ok scAreSt (fun vs H Q E h => ?_) (fun cdv A outer s H vs Q E hr h => ?_)
  · obtain ⟨p, m, d, ch, col, rfl, _⟩ := h
    rfl
  · obtain ⟨p, m, d, ch, col, rfl, hm, hc, co, k⟩ := h
    obtain ⟨ok, dx, sA, rs, h1, h2, h3⟩ := id hm
    refine ⟨_, (pss_cons (ps_if (PW.pt (pw_or (pt_not (pt_val (pe_isB T rfl (pv 1) (pe_tyTup T rfl)))) (pw_or1 (pt_cmpR op_ne (pe_callB (lenK (K := K) rfl) (by rfl) T.len PySem.boot_len (pa_cons (pv 1) pa_nil)) (pv 2) (nomark _))))) (pss_one (ps_ret pe_bl)) pss_nil)
      (pss_one (ps_ret (pe_callB (cr_all rfl) (by rfl) T.all (by decide +kernel) (pa_cons (pe_lc (own := [("state", 3)]) (g := gName 3) (tt := tYes) (by rfl) scAreSt.nd (pi_tup (pv 1)) (blkOk_by (own := [("state", 3)]) (N := scAreStN) (sc := defScope sAreSt) (by decide +kernel)) (fun _ _ _ _ _ => pg_name (i := 3) scAreSt.nd rfl (Or.inl rfl)) (fun _ _ _ _ _ => pts_nil) (fun _ _ _ _ _ => (pe_df cX hr (by decide) rfl (pa_cons (pv 3) (pa_cons (pe_fldK (K := K) rfl (pv 0) rfl) pa_nil))))) pa_nil))))), ?_⟩
    refine ⟨_, rfl, .ref ch, .ty "tuple", .type "tuple", .type "tuple", true, rfl, .ty _, .base (.tup hc), kit_ty (by decide +kernel), _, rfl, iteF ?_⟩
    refine ⟨_, rfl, ch, _, rfl, .inr (SqT.of hc), _, rfl, rfl, _, rfl, ?_⟩
    rw [nts_len, co.len, deqI, beq_self_eq_true]
    refine iteF ?_
    refine ⟨_, rfl, ch, rfl, ⟨_, SqT.of hc⟩, fun D hD => ?_⟩
    refine lc_tup (K := K) (a := ch) (xs := nts col) (fun i H' => Same H H' ∧ H' D = some (.lst ((List.replicate i true).map V.bl))) ⟨same_new (fun _ _ e => e) hD, upd_same⟩ (fun i H' _ q => SqT.of (q.1 _ _ hc)) ?_ ?_
    · rintro i x H' hi ⟨sm, eD⟩
      obtain ⟨a, ha, rfl⟩ := nts_map hi
      refine ⟨rfl, ?_⟩
      refine ⟨_, rfl, _, rfl, p, C, dx, _, _, rfl, sm _ _ h1, M.cl, M.nN, lk_n _ _ _ _, .i (a : Int), _, rfl, ?_⟩
      have e : (Lf.i (a : Int)).ix (m.n : Int) = true := by
        have q := co.lt a (List.mem_of_getElem? ha)
        show (decide (0 ≤ (a : Int)) && decide ((a : Int) < (m.n : Int))) = true
        rw [decide_eq_true (by omega), decide_eq_true (by omega)]
        rfl
      rw [e]
      refine ⟨_, eD, ?_, same_updF sm hD, ?_⟩
      · have q := (List.getElem?_eq_some_iff.mp ha).1
        have n4 : m.n ≤ 4 := ok.n4
        have e2 := co.len
        rw [List.length_map, List.length_replicate]
        exact small (by omega)
      · rw [upd_same, rep_snoc, List.map_append]
        rfl
    · rintro H' ⟨sm, eD⟩
      refine ⟨D, _, rfl, SqL.of eD, ?_⟩
      rw [all_true]
      exact k _ sm
def spChk (C : Addr) : Sp := fun vs H Q _ => ∃ (p : Addr) (m : Mc) (d ch : Addr) (col : List Nat), vs = [.ref p, .ref ch] ∧ MachAt C H p m d ∧ H ch = some (.tup (nts col)) ∧ ColOk m col ∧ ∀ H', Same H H' → Q (.ref ch) H'
abbrev scChkN : List Str := ["machine", "value"]
theorem scChk : FnScope scChkN ["machine", "value"] (defScope sChk) := ⟨rfl, rfl, rfl, by decide +kernel, rfl, by decide +kernel, by decide +kernel⟩
theorem ok_chk (F : Fun K "checked_change" "checked_change" sChk f fd) (M : MTxt K mg C) (cAre : Df P w K mg base 4 "are_states" ["machine", "value", "many"] (spAre C)) : FnOk P w K mg base CX0 5 f fd ["machine", "value"] (spChk C) := by
  refine F.ok scChk (fun vs H Q E h => ?_) (fun cdv A outer s H vs Q E hr h => ?_)
  · obtain ⟨p, m, d, ch, col, rfl, _⟩ := h
    rfl
  · obtain ⟨p, m, d, ch, col, rfl, hm, hc, co, k⟩ := h
    obtain ⟨ok, dx, sA, rs, h1, h2, h3⟩ := id hm
    refine ⟨_, (pss_cons (ps_if (pt_not (pt_val (pe_df cAre hr (by decide) rfl (pa_cons (pv 0) (pa_cons (pv 1) (pa_cons (pe_fldK (K := K) rfl (pv 0) rfl) pa_nil)))))) (pss_one ps_never) pss_nil)
      (pss_one (ps_ret (pv 1)))), ?_⟩
    exact ⟨_, rfl, _, rfl, _, rfl, p, C, dx, _, _, rfl, h1, M.cl, M.nN, lk_n _ _ _ _, p, m, d, ch, col, rfl, hm, hc, co, fun H1 s1 => ⟨_, rfl, iteF ⟨_, rfl, k H1 s1⟩⟩⟩
/-! ### starts -/
def FourV (H : Hp) (v : V) (f : Four) : Prop := ∃ a, v = .ref a ∧ H a = some (.tup (v4 f))
theorem FourV.same {H H' : Hp} {v : V} {f : Four} (h : FourV H v f) (s : ∀ a xs, H a = some (.tup xs) → H' a = some (.tup xs)) : FourV H' v f := let ⟨a, h1, h2⟩ := h; ⟨a, h1, s _ _ h2⟩
def StartF (m : Mc) (col : List Nat) (f : Four) : Prop := ∃ s t, s < m.n ∧ t < m.n ∧ f = (s, t, col.getD s 0, col.getD t 0)
def spStarts (C : Addr) : Sp := fun vs H Q _ => ∃ (p : Addr) (m : Mc) (d ch : Addr) (col : List Nat), vs = [.ref p, .ref ch] ∧ MachAt C H p m d ∧ H ch = some (.tup (nts col)) ∧ ColOk m col ∧
  ∀ H' l xs, Same H H' → H' l = some (.lst xs) → xs.length ≤ 16 → (∀ x ∈ xs, ∃ f, FourV H' x f ∧ StartF m col f) → Q (.ref l) H'
abbrev scStartsN : List Str := ["machine", "change", "found", "t", "s"]
theorem scStarts : FnScope scStartsN ["machine", "change"] (defScope sStarts) := ⟨rfl, rfl, rfl, by decide +kernel, rfl, by decide +kernel, by decide +kernel⟩
theorem ok_starts (F : Fun K "starts" "starts" sStarts f fd) (T : Txt mg) (M : MTxt K mg C) : FnOk P w K mg base CX0 1 f fd ["machine", "change"] (spStarts C) := by
  refine F.ok scStarts (fun vs H Q E h => ?_) (fun cdv A outer s H vs Q E hr h => ?_)
  · obtain ⟨p, m, d, ch, col, rfl, _⟩ := h
    rfl
  · obtain ⟨p, m, d, ch, col, rfl, hm, hc, co, k⟩ := h
    obtain ⟨ok, dx, sA, rs, h1, h2, h3⟩ := id hm
    refine ⟨_, (pss_cons (ps_set (i := 2) scStarts.nd rfl (.inl rfl) (pe_lst pa_nil))
      (pss_cons (ps_for PassesOwn.never rfl (pi_range1 (by rfl) T.range (pa_cons (pe_fldK (K := K) rfl (pv 0) rfl) pa_nil)) (pg_name (i := 3) scStarts.nd rfl (.inl rfl))
      (pss_one (ps_for PassesOwn.never rfl (pi_range1 (by rfl) T.range (pa_cons (pv 3) pa_nil)) (pg_name (i := 4) scStarts.nd rfl (.inl rfl))
      (pss_one (ps_if (pt_cmpR op_ne (pe_ix (ixT (K := K) rfl) (pv 1) (pv 4) (fun _ _ => rfl)) (pe_ix (ixT (K := K) rfl) (pv 1) (pv 3) (fun _ _ => rfl)) (nomark _)) (pss_one (ps_expr (pe_bm PySem.F.plainAttrs_list PySem.F.slot_list_append PySem.F.type_list_append mt_append (pv 2) (pa_cons (pe_tup (pa_cons (pv 4) (pa_cons (pv 3) (pa_cons (pe_ix (ixT (K := K) rfl) (pv 1) (pv 4) (fun _ _ => rfl)) (pa_cons (pe_ix (ixT (K := K) rfl) (pv 1) (pv 3) (fun _ _ => rfl)) pa_nil))))) pa_nil)))) pss_nil)))))
      (pss_one (ps_ret (pe_callB (cr_sortT (d := 4) (B := 64) (by decide)) (by rfl) T.sorted (by decide +kernel) (pa_cons (pv 2) pa_nil)))))), ?_⟩
    have n4 : m.n ≤ 4 := ok.n4
    have colAt : ∀ {a : Nat}, a < m.n → (nts col)[a]? = some (.int (col.getD a 0 : Nat)) := fun {a} ha => nts_get (by simp [List.getD, List.getElem?_eq_getElem (show a < col.length by rw [co.len]; exact ha)])
    have colLt : ∀ {a : Nat}, a < m.n → col.getD a 0 < m.n := fun {a} ha => by
      have ha' : a < col.length := by rw [co.len]; exact ha
      rw [show col.getD a 0 = col[a] by simp [List.getD, List.getElem?_eq_getElem ha']]
      exact co.lt _ (List.getElem_mem ha')
    refine ⟨Nat.zero_le _, fun l hl => ?_⟩
    have s0 : Same H (upd H l (.lst [])) := same_new (fun _ _ e => e) hl
    refine ⟨_, rfl, p, C, dx, _, _, rfl, s0 _ _ h1, M.cl, M.nN, lk_n _ _ _ _, (m.n : Int), rfl, by omega, by omega, ?_⟩
    rw [show ((m.n : Int).toNat) = m.n by omega]
    refine for_range (lo := 0) (n := m.n) (fun i st H' => Same H H' ∧ (∃ xs, H' l = some (.lst xs) ∧ xs.length ≤ 4 * i ∧ ∀ x ∈ xs, ∃ f, FourV H' x f ∧ StartF m col f) ∧ ∃ j3 j4, st = [some (.ref p), some (.ref ch), some (.ref l), j3, j4])
      ⟨s0, ⟨[], upd_same, Nat.le_refl _, fun _ h => absurd h List.not_mem_nil⟩, none, none, rfl⟩ ?_ ?_
    · rintro t st H2 ht ⟨s2, ⟨xs, e2, l2, f2⟩, j3, j4, rfl⟩
      have et : ((0 : Int) + (t : Nat)) = (t : Int) := by omega
      refine ⟨_, rfl, (t : Int), by rw [et], by omega, by omega, ?_⟩
      rw [show ((t : Int).toNat) = t by omega]
      refine for_range (lo := 0) (n := t) (fun i st H' => Same H H' ∧ (∃ xs, H' l = some (.lst xs) ∧ xs.length ≤ 4 * t + i ∧ ∀ x ∈ xs, ∃ f, FourV H' x f ∧ StartF m col f) ∧ ∃ j4, st = [some (.ref p), some (.ref ch), some (.ref l), some (.int (t : Int)), j4])
        ⟨s2, ⟨xs, e2, l2, f2⟩, j4, by rw [et]; rfl⟩ ?_ ?_
      · rintro s' st H3 hs ⟨s3, ⟨xs, e3, l3, f3⟩, j4, rfl⟩
        have es : ((0 : Int) + (s' : Nat)) = (s' : Int) := by omega
        rw [es]
        have hsn : s' < m.n := by omega
        have ix : ∀ {a : Nat} {H' : Hp}, Same H H' → a < m.n → SqT K H' ch (nts col) := fun s _ => SqT.of (s _ _ hc)
        refine ⟨_, rfl, _, rfl, ch, _, _, _, rfl, rfl, ix s3 hsn, atI_nat (colAt hsn), _, rfl, _, rfl, ch, _, _, _, rfl, rfl, ix s3 ht, atI_nat (colAt ht), rfl, _, rfl, ?_⟩
        rw [deqI]
        cases eb : (col.getD s' 0 == col.getD t 0) with
        | true => exact iteF ⟨s3, ⟨xs, e3, by omega, f3⟩, _, rfl⟩
        | false =>
          refine iteT ?_
          refine ⟨_, rfl, .inl ⟨rfl, _, SqL.of e3⟩, _, rfl, _, rfl, _, rfl, _, rfl, ch, _, _, _, rfl, rfl, ix s3 hsn, atI_nat (colAt hsn), _, rfl, _, rfl, ch, _, _, _, rfl, rfl, ix s3 ht, atI_nat (colAt ht), (by show 4 ≤ sizeLine; decide), fun g hg => ?_⟩
          have s4 : Same H3 (upd H3 g (.tup (v4 (s', t, col.getD s' 0, col.getD t 0)))) := same_new (fun _ _ e => e) hg
          refine ⟨l, _, _, rfl, rfl, s4 _ _ e3, small (by omega), ?_⟩
          have tk : ∀ a ys, H3 a = some (.tup ys) → upd (upd H3 g (.tup (v4 (s', t, col.getD s' 0, col.getD t 0)))) l (.lst (xs ++ [.ref g])) a = some (.tup ys) := fun a ys e => by
            rw [upd_ne (show a ≠ l from fun z => by rw [z, e3] at e; cases e)]
            exact s4 _ _ e
          have gl : g ≠ l := fun z => by rw [z, e3] at hg; cases hg
          refine ⟨same_updF (s3.trans s4) hl, ⟨_, upd_same, ?_, fun x hx => ?_⟩, _, rfl⟩
          · rw [List.length_append]
            show xs.length + 1 ≤ _
            omega
          · rcases List.mem_append.mp
                                                                      hx with hx | hx
            · obtain ⟨f, q1, q2⟩ := f3 x hx
              exact ⟨f, q1.same tk, q2⟩
            · rw [List.mem_singleton.mp hx]
              exact ⟨_, ⟨g, rfl, by rw [upd_ne gl]; exact upd_same⟩, s', t, hsn, ht, rfl⟩
      · rintro st H3 ⟨s3, ⟨xs, e3, l3, f3⟩, j4, rfl⟩
        exact ⟨s3, ⟨xs, e3, by omega, f3⟩, _, _, rfl⟩
    · rintro st H2 ⟨s2, ⟨xs, e2, l2, f2⟩, j3, j4, rfl⟩
      refine ⟨_, rfl, l, xs, rfl, SqL.of e2, by omega, fun x hx => ?_, fun ys q hp _ hq => ?_⟩
      · obtain ⟨f, ⟨a, rfl, ha⟩, s', t, hs, ht, rfl⟩ := f2 x hx
        refine ⟨[(s' : Int), (t : Int), (col.getD s' 0 : Nat), (col.getD t 0 : Nat)], ⟨a, rfl, SqT.of ha⟩, rfl, fun n hn => ?_⟩
        have c1 := colLt hs
        have c2 := colLt ht
        simp only [List.mem_cons, List.not_mem_nil, or_false] at hn
        rcases hn with e | e | e | e <;> rw [e] <;> omega
      · have s3 : Same H2 (upd H2 q (.lst ys)) := same_new (fun _ _ e => e) hq
        refine k _ q ys (s2.trans s3) upd_same (by rw [hp.length_eq]; omega) fun x hx => ?_
        obtain ⟨f, q1, q2⟩ := f2 x (hp.mem_iff.mp hx)
        exact ⟨f, q1.same fun a xs e => s3 _ _ e, q2⟩
/-! ### nexts -/
def NextV (m : Mc) (f : Four) (H : Hp) (x : V) : Prop := ∃ t g a, x = .ref t ∧ H t = some (.tup [.int (a : Nat), .ref g]) ∧ a < m.c ∧ H g = some (.tup (v4 (succF m f a a))) ∧ (succF m f a a).2.2.1 ≠ (succF m f a a).2.2.2
theorem NextV.same {m : Mc} {f : Four} {H H' : Hp} {x : V} (h : NextV m f H x) (s : ∀ a xs, H a = some (.tup xs) → H' a = some (.tup xs)) : NextV m f H' x := by
  obtain ⟨t, g, a, h1, h2, h3, h4, h5⟩ := h
  exact ⟨t, g, a, h1, s _ _ h2, h3, s _ _ h4, h5⟩
def spNexts (C : Addr) : Sp := fun vs H Q _ => ∃ (p : Addr) (m : Mc) (d fA : Addr) (f : Four), vs = [.ref p, .ref fA] ∧ MachAt C H p m d ∧ H fA = some (.tup (v4 f)) ∧ (∀ x ∈ fourL f, x < m.n) ∧
  ∀ H' l xs, Same H H' → H l = none → H' l = some (.lst xs) → xs.length ≤ 3 → (∀ x ∈ xs, NextV m f H' x) → Q (.ref l) H'
abbrev scNextsN : List Str := ["machine", "four", "p", "q", "y", "z", "state", "at"]
theorem scNexts : FnScope scNextsN ["machine", "four"] (defScope sNexts) := ⟨rfl, rfl, rfl, by decide +kernel, rfl, by decide +kernel, by decide +kernel⟩
theorem ok_nexts (F : Fun K "nexts" "nexts" sNexts f fd) (T : Txt mg) (M : MTxt K mg C) : FnOk P w K mg base CX0 1 f fd ["machine", "four"] (spNexts C) := by
  refine F.ok scNexts (fun vs H Q E h => ?_) (fun cdv A outer s H vs Q E hr h => ?_)
  · obtain ⟨p, m, d, fA, f, rfl, _⟩ := h
    rfl
  · obtain ⟨p, m, d, fA, f, rfl, hm, hf, fl, k⟩ := h
    obtain ⟨ok, dx, sA, rs, h1, h2, h3⟩ := id hm
    refine ⟨_, (pss_cons (ps_asg (pe_lc (own := [("state", 6)]) (g := gName 6) (tt := tYes) (by rfl) scNexts.nd (pi_tup (pv 1)) (blkOk_by (own := [("state", 6)]) (N := scNextsN) (sc := defScope sNexts) (by decide +kernel)) (fun _ _ _ _ _ => pg_name (i := 6) scNexts.nd rfl (Or.inl rfl)) (fun _ _ _ _ _ => pts_nil) (fun _ _ _ _ _ => (pe_ix (ixT (K := K) rfl) (pe_fldK (K := K) rfl (pv 0) rfl) (pv 6) (fun _ _ => rfl)))) (pg_unl rfl (pgs_cons (pg_name (i := 2) scNexts.nd rfl (.inr rfl)) (pgs_cons (pg_name (i := 3) scNexts.nd rfl (.inr rfl)) (pgs_cons (pg_name (i := 4) scNexts.nd rfl (.inr rfl)) (pgs_cons (pg_name (i := 5) scNexts.nd rfl (.inr rfl)) pgs_nil))))))
      (pss_one (ps_ret (pe_lc (own := [("at", 7)]) (g := gName 7) (tt := _) (by rfl) scNexts.nd (pi_range1 (by rfl) T.range (pa_cons (pe_fldK (K := K) rfl (pv 0) rfl) pa_nil)) (blkOk_by (own := [("at", 7)]) (N := scNextsN) (sc := defScope sNexts) (by decide +kernel)) (fun _ _ _ _ _ => pg_name (i := 7) scNexts.nd rfl (Or.inl rfl)) (fun _ _ _ _ _ => pts_one (pt_cmpR op_ne (pe_ix (ixT (K := K) rfl) (pv 4) (pv 7) (fun _ _ => rfl)) (pe_ix (ixT (K := K) rfl) (pv 5) (pv 7) (fun _ _ => rfl)) (nomark _))) (fun _ _ _ _ _ => (pe_tup (pa_cons (pv 7) (pa_cons (pe_tup (pa_cons (pe_ix (ixT (K := K) rfl) (pv 2) (pv 7) (fun _ _ => rfl)) (pa_cons (pe_ix (ixT (K := K) rfl) (pv 3) (pv 7) (fun _ _ => rfl)) (pa_cons (pe_ix (ixT (K := K) rfl) (pv 4) (pv 7) (fun _ _ => rfl)) (pa_cons (pe_ix (ixT (K := K) rfl) (pv 5) (pv 7) (fun _ _ => rfl)) pa_nil))))) pa_nil)))))))), ?_⟩
    have c3 := ok.c3
    refine ⟨_, rfl, fA, rfl, ⟨_, SqT.of hf⟩, fun D hD => ?_⟩
    refine lc_tup (K := K) (a := fA) (xs := v4 f) (fun j H' => Same H H' ∧ H' D = some (.lst (rowsV rs ((fourL f).take j)))) ⟨same_new (fun _ _ e => e) hD, upd_same⟩ (fun j H' _ q => SqT.of (q.1 _ _ hf)) ?_ ?_
    · rintro j x H3 hj ⟨sm3, eD⟩
      rw [v4_nts] at hj
      obtain ⟨a, hja, rfl⟩ := nts_map hj
      obtain ⟨r, r1, r2, r3⟩ := h3.row (fl a (List.mem_of_getElem? hja))
      refine ⟨rfl, ?_⟩
      refine ⟨_, rfl, p, C, dx, _, _, rfl, sm3 _ _ h1, M.cl, M.nS, lk_s _ _ _ _, _, rfl, sA, _, _, _, rfl, rfl, SqT.of (sm3 _ _ h2), atI_nat r2, ?_⟩
      refine ⟨_, eD, ?_, same_updF sm3 hD, ?_⟩
      · unfold rowsV
        rw [List.length_map, List.length_take]
        exact small (by have : (fourL f).length = 4 := rfl; omega)
      · rw [upd_same, take_snoc hja]
        unfold rowsV
        rw [List.map_append]
        show some (HO.lst (_ ++ [V.ref r])) = some (HO.lst (_ ++ [V.ref (rs.getD a 0)]))
        rw [rows_at r1]
    · rintro H3 ⟨s3, eD⟩
      refine ⟨D, _, rfl, SqL.of eD, rfl, _, _, rfl, _, _, rfl, _, _, rfl, _, _, rfl, rfl, ?_⟩
      have rowE : ∀ {a : Nat} {H' : Hp}, Same H H' → a ∈ fourL f → SqT K H' (rs.getD a 0) (nts (m.st.getD a [])) := fun {a H'} s ha => by
        obtain ⟨r, r1, r2, r3⟩ := h3.row (fl a ha)
        rw [rows_at r1]
        exact SqT.of (s _ _ r3)
      have m1 : f.1 ∈ fourL f := List.mem_cons_self
      have m2 : f.2.1 ∈ fourL f := List.mem_cons_of_mem _ List.mem_cons_self
      have m3 : f.2.2.1 ∈ fourL f := List.mem_cons_of_mem _ (List.mem_cons_of_mem _ List.mem_cons_self)
      have m4 : f.2.2.2 ∈ fourL f := List.mem_cons_of_mem _ (List.mem_cons_of_mem _ (List.mem_cons_of_mem _ List.mem_cons_self))
      refine ⟨_, rfl, p, C, dx, _, _, rfl, s3 _ _ h1, M.cl, M.nC, lk_c _ _ _ _, (m.c : Int), rfl, by omega, by omega, fun L hL => ?_⟩
      rw [show ((m.c : Int).toNat) = m.c by omega]
      refine lc_range (lo := 0) (n := m.c) (fun i H' => Same H H' ∧ ∃ xs, H' L = some (.lst xs) ∧ xs.length ≤ i ∧ ∀ x ∈ xs, NextV m f H' x) ⟨same_new s3 hL, [], upd_same, Nat.le_refl _, fun _ h => absurd h List.not_mem_nil⟩ ?_ ?_
      · rintro i H4 hi ⟨s4, xs, e4, l4, f4⟩
        have ei : ((0 : Int) + (i : Nat)) = (i : Int) := by omega
        rw [ei]
        have at1 := @Mc.Ok.at_to m ok _ i (fl _ m1) hi
        have at2 := @Mc.Ok.at_to m ok _ i (fl _ m2) hi
        have at3 := @Mc.Ok.at_to m ok _ i (fl _ m3) hi
        have at4 := @Mc.Ok.at_to m ok _ i (fl _ m4) hi
        refine ⟨rfl, ?_⟩
        refine ⟨_, rfl, _, rfl, _, _, _, _, rfl, rfl, rowE s4 m3, atI_nat at3, _, rfl, _, rfl, _, _, _, _, rfl, rfl, rowE s4 m4, atI_nat at4, rfl, _, rfl, ?_⟩
        rw [deqI]
        cases eb : (m.to f.2.2.1 i == m.to f.2.2.2 i) with
        | true => exact iteF ⟨s4, xs, e4, by omega, f4⟩
        | false =>
          refine iteT ?_
          refine ⟨_, rfl, _, rfl, _, rfl, _, _, _, _, rfl, rfl, rowE s4 m1, atI_nat at1, _, rfl, _, rfl, _, _, _, _, rfl, rfl, rowE s4 m2, atI_nat at2, _, rfl, _, rfl, _, _, _, _, rfl, rfl, rowE s4 m3, atI_nat at3, _, rfl, _, rfl, _, _, _, _, rfl, rfl, rowE s4 m4, atI_nat at4, (by show 4 ≤ sizeLine; decide), fun g hg => ⟨(by show 2 ≤ sizeLine; decide), fun t ht => ?_⟩⟩
          have s5 : Same H4 (upd (upd H4 g (.tup (v4 (succF m f i i)))) t (.tup [.int (i : Nat), .ref g])) := same_new (same_new (fun _ _ e => e) hg) ht
          have gt : g ≠ t := fun z => by rw [← z, upd_same] at ht; cases ht
          refine ⟨xs, s5 _ _ e4, small (by omega), same_updF (s4.trans s5) (s3.free hL), _, upd_same, ?_, fun x hx => ?_⟩
          · rw [List.length_append]
            show xs.length + 1 ≤ _
            omega
          · have tk : ∀ a ys, upd (upd H4 g (.tup (v4 (succF m f i i)))) t (.tup [.int (i : Nat), .ref g]) a = some (.tup ys) → upd (upd (upd H4 g (.tup (v4 (succF m f i i)))) t (.tup [.int (i : Nat), .ref g])) L (.lst (xs ++ [.ref t])) a = some (.tup ys) := fun a ys e => by
              rw [upd_ne (show a ≠ L from fun z => by rw [z, s5 _ _ e4] at e; cases e)]
              exact e
            rcases List.mem_append.mp
                                                                        hx with hx | hx
            · exact (f4 x hx).same fun a ys e => tk _ _ (s5 _ _ e)
            · rw [List.mem_singleton.mp hx]
              exact ⟨t, g, i, rfl, tk _ _ upd_same, hi, tk _ _ (by rw [upd_ne gt]; exact upd_same), fun z => by rw [show m.to f.2.2.1 i = m.to f.2.2.2 i from z, beq_self_eq_true] at eb; cases eb⟩
      · rintro H4 ⟨s4, xs, e4, l4, f4⟩
        exact k H4 L xs s4 (s3.free hL) e4 (by omega) f4
end
end K53
namespace K53
open PySem PySem.Spec PyProof.Rows L2 L2.KR

theorem slT {X : Cx} {K : PySem.W.Frag} (h : X.K = K) : SlR X (rSlT K) := by
  subst h
  exact sl_tup
def Keys4 (kvs : List (List Key × V)) (ks : List Four) : Prop := kvs.map (·.1) = ks.map k4
theorem Keys4.len {kvs : List (List Key × V)} {ks : List Four} (h : Keys4 kvs ks) : kvs.length = ks.length := by
  have q := congrArg List.length h
  rw [List.length_map,
                                                              List.length_map] at q
  exact q
theorem Keys4.none_ {kvs : List (List Key × V)} {ks : List Four} (h : Keys4 kvs ks) {f : Four} (n : f ∉ ks) : valV kvs (k4 f) = none := by
  cases e : valV kvs (k4 f) with
  | none => rfl
  | some v =>
    have q := valV_in e
    rw [show kvs.map (·.1) = ks.map k4 from h] at q
    obtain ⟨g, hg, e2⟩ := List.mem_map.mp q
    rw [k4_inj e2] at hg
    exact absurd hg n
theorem Keys4.some_ {kvs : List (List Key × V)} {ks : List Four} (h : Keys4 kvs ks) {f : Four} (n : f ∈ ks) : (valV kvs (k4 f)).isSome = true := by
  cases e : valV kvs (k4 f) with
  | some v => rfl
  | none =>
    have q := valV_not e
    rw [show kvs.map (·.1) = ks.map k4 from h] at q
    exact absurd (List.mem_map.mpr ⟨f, n, rfl⟩) q
theorem Keys4.new {kvs : List (List Key × V)} {ks : List Four} (h : Keys4 kvs ks) {f : Four} (n : f ∉ ks) (v : V) : Keys4 (putK kvs (k4 f) v) (ks ++ [f]) := by
  unfold Keys4
  rw [putK_new v (h.none_ n), List.map_append, List.map_append, show kvs.map (·.1) = ks.map k4 from h]
  rfl
theorem Keys4.old {kvs : List (List Key × V)} {ks : List Four} (h : Keys4 kvs ks) {f : Four} (n : f ∈ ks) (v : V) : Keys4 (putK kvs (k4 f) v) ks := by
  unfold Keys4 putK
  rw [if_pos (by rw [valV_any]; exact h.some_ n), List.map_map, ← show kvs.map (·.1) = ks.map k4 from h]
  refine List.map_congr_left
                                                              fun x _ => ?_
  show (if x.1 = k4 f then (x.1, v) else x).1 = x.1
  split <;> rfl
def Reach (m : Mc) (f : Four) : Prop := ∃ v k, Rch m f v k
theorem reach_le {m : Mc} (ok : m.Ok) {ks : List Four} (nd : ks.Nodup) (h : ∀ f ∈ ks, Reach m f) : ks.length ≤ 256 := fours_le nd fun f hf => by
  obtain ⟨v, k, r⟩ := h f hf
  exact r.lt4 ok
def FreshE (m : Mc) (k : Nat) (H : Hp) (x : V) : Prop := ∃ t fA pA rA f ys zs, x = .ref t ∧ H t = some (.tup [.ref fA, .ref pA, .ref rA]) ∧ H fA = some (.tup (v4 f)) ∧ H pA = some (.tup ys) ∧ H rA = some (.tup zs) ∧ zs.length ≤ k ∧ Reach m f
theorem FreshE.same {m : Mc} {k : Nat} {H H' : Hp} {x : V} (h : FreshE m k H x) (s : ∀ a xs, H a = some (.tup xs) → H' a = some (.tup xs)) : FreshE m k H' x := by
  obtain ⟨t, fA, pA, rA, f, ys, zs, h1, h2, h3, h4, h5, h6⟩ := h
  exact ⟨t, fA, pA, rA, f, ys, zs, h1, s _ _ h2, s _ _ h3, s _ _ h4, s _ _ h5, h6⟩
def colOf (m : Mc) (a : Nat) : List Nat := (List.range m.n).map fun s => m.to s a
theorem colOf_ok {m : Mc} (ok : m.Ok) {a : Nat} (ha : a < m.c) : ColOk m (colOf m a) := by
  refine ⟨by unfold colOf; rw [List.length_map, List.length_range], fun x hx => ?_⟩
  obtain ⟨s, hs, rfl⟩ := List.mem_map.mp hx
  exact ok.to_lt (List.mem_range.mp hs) ha
theorem colOf_at {m : Mc} {a s : Nat} (hs : s < m.n) : (colOf m a).getD s 0 = m.to s a := by
  unfold colOf
  simp [List.getD, List.getElem?_map, List.getElem?_range hs]
theorem start_reach {m : Mc} {a : Nat} (ha : a < m.c) {f : Four} (h : StartF m (colOf m a) f) : Reach m f := by
  obtain ⟨s, t, hs, ht, rfl⟩ := h
  refine ⟨⟨s, t, a, [], []⟩, 0, ⟨hs, ht, ha, RowOk.nil m, RowOk.nil m, rfl, rfl⟩, ?_⟩
  rw [colOf_at hs, colOf_at ht]
  rfl
def St10 (a b c d : V) (st : L2.St) : Prop := ∃ j4 j5 j6 j7 j8 j9, st = [some a, some b, some c, some d, j4, j5, j6, j7, j8, j9]
/-- at the search's head -/
def WC (m : Mc) (H : Hp) (p ch M : Addr) (mu : Nat) (st : L2.St) (H' : Hp) : Prop := ∃ (k : Nat) (ks : List Four) (kvs : List (List Key × V)) (F : Addr) (xs : List V), mu = 2 * (256 - ks.length) + (if xs = [] then 0 else 1) ∧ Same H H' ∧ H' M = some (.dT kvs) ∧ Keys4 kvs ks ∧ ks.Nodup ∧ (∀ f ∈ ks, Reach m f) ∧
  H' F = some (.lst xs) ∧ (∀ x ∈ xs, FreshE m k H' x) ∧ xs.length ≤ 300 ∧ (xs ≠ [] → k ≤ ks.length) ∧ St10 (.ref p) (.ref ch) (.ref F) (.ref M) st
/-- within a level -/
structure XC (m : Mc) (H1 H' : Hp) (M Lt : Addr) (k : Nat) (ks : List Four) : Prop where
  kp : Kp [M] H1 H'
  ex : ∃ kvs ks' ys, H' M = some (.dT kvs) ∧ Keys4 kvs ks' ∧ ks'.Nodup ∧ (∀ f ∈ ks', Reach m f) ∧ H' Lt = some (.lst ys) ∧ (∀ y ∈ ys, FreshE m (k + 1) H' y) ∧ ks'.length = ks.length + ys.length
theorem XC.same {m : Mc} {H1 H2 H3 : Hp} {M Lt : Addr} {k : Nat} {ks : List Four} (h : XC m H1 H2 M Lt k ks) (s : Same H2 H3) : XC m H1 H3 M Lt k ks := by
  obtain ⟨kp, kvs, ks', ys, h1, h2, h3, h4, h5, h6, h7⟩ := h
  exact ⟨kp.trans (Kp.of_same s), kvs, ks', ys, s _ _ h1, h2, h3, h4, s _ _ h5, fun y hy => (h6 y hy).same fun a xs e => s _ _ e, h7⟩
section
variable {P : Program} {w : World} {K : PySem.W.Frag} {mg : Str → Option Value} {base : Heap} {f C : Addr} {fd : FuncData}
def spExC (C : Addr) : Sp := fun vs H Q _ => ∃ (p : Addr) (m : Mc) (d ch : Addr) (a : Nat), vs = [.ref p, .ref ch] ∧ MachAt C H p m d ∧ a < m.c ∧ H ch = some (.tup (nts (colOf m a))) ∧ (∀ j, ¬ Fault m j) ∧ ∀ H' t ys, Same H H' → H' t = some (.tup (.non :: ys)) → Q (.ref t) H'
abbrev scExCN : List Str := ["machine", "change", "fresh", "met", "later", "four", "pair", "row", "command", "after"]
theorem scExC : FnScope scExCN ["machine", "change"] (defScope sExC) := ⟨rfl, rfl, rfl, by decide +kernel, rfl, by decide +kernel, by decide +kernel⟩
theorem ok_exC (F : Fun K "explored" "explored" sExC f fd) (T : Txt mg) (M_ : MTxt K mg C) (cSt : Df P w K mg base 1 "starts" ["machine", "change"] (spStarts C)) (cNx : Df P w K mg base 1 "nexts" ["machine", "four"] (spNexts C)) : FnOk P w K mg base CX0 2 f fd ["machine", "change"] (spExC C) := by
  refine F.ok scExC (fun vs H Q E h => ?_) (fun cdv A outer s H vs Q E hr h => ?_)
  · obtain ⟨p, m, d, ch, a, rfl, _⟩ := h
    rfl
  · obtain ⟨p, m, d, ch, a, rfl, hm, ha, hc, nof, k⟩ := h
    have hu := hu_of hr
    have hu8 : (A.deeper (envOfC "explored" (defScope sExC) s.heap.objs.size f cdv)).units + 8 < cLine := by have q := hr.un; omega
    refine ⟨_, (pss_cons (ps_setLc (i := 2) (own := [("four", 5)]) (g := gName 5) (tt := tYes) rfl scExC.nd rfl rfl (sw_true rfl rfl rfl (by decide +kernel)) (pi_list (pe_df cSt hr (by decide) rfl (pa_cons (pv 0) (pa_cons (pv 1) pa_nil)))) (blkOk_by (own := [("four", 5)]) (N := scExCN) (sc := defScope sExC) (by decide +kernel)) (fun _ _ _ _ _ => pg_name (i := 5) scExC.nd rfl (Or.inl rfl)) (fun _ _ _ _ _ => pts_nil) (fun _ _ _ _ _ => (pe_tup (pa_cons (pv 5) (pa_cons (pe_slice (slT (K := K) rfl) (pv 5) po_none (po_some pe_int)) (pa_cons (pe_tup pa_nil) pa_nil))))))
      (pss_cons (ps_setDcT (i := 3) (own := [("four", 5), ("pair", 6), ("row", 7)]) (g := gTup K 3 (gCons (gName 5) (gCons (gName 6) (gCons (gName 7) gNil)))) (tt := tYes) hu rfl scExC.nd rfl rfl (sw_dict rfl rfl rfl (by decide +kernel)) (pi_list (pv 2)) (blkOk_by (own := [("four", 5), ("pair", 6), ("row", 7)]) (N := scExCN) (sc := defScope sExC) (by decide +kernel))
          (fun _ _ _ _ _ => pg_tup rfl (pgs_cons (pg_name (i := 5) scExC.nd rfl (Or.inl rfl)) (pgs_cons (pg_name (i := 6) scExC.nd rfl (Or.inl rfl)) (pgs_cons (pg_name (i := 7) scExC.nd rfl (Or.inl rfl)) pgs_nil)))) (fun _ _ _ _ _ => pts_nil) (fun _ _ _ _ _ => pv 5) (fun _ _ _ _ _ => pe_bl))
      (pss_cons (ps_while PassesOwn.never (pt_cmpR op_gt (pe_callB (lenK (K := K) rfl) (by rfl) T.len PySem.boot_len (pa_cons (pv 2) pa_nil)) pe_int (nomark _))
      (pss_cons (ps_set (i := 4) scExC.nd rfl (.inl rfl) (pe_lst pa_nil))
      (pss_cons (ps_for PassesOwn.never rfl (pi_list (pv 2)) (pg_tup rfl (pgs_cons (pg_name (i := 5) scExC.nd rfl (.inl rfl)) (pgs_cons (pg_name (i := 6) scExC.nd rfl (.inl rfl)) (pgs_cons (pg_name (i := 7) scExC.nd rfl (.inl rfl)) pgs_nil))))
      (pss_one (ps_for PassesOwn.never rfl (pi_list (pe_df cNx hr (by decide) rfl (pa_cons (pv 0) (pa_cons (pv 5) pa_nil)))) (pg_tup rfl (pgs_cons (pg_name (i := 8) scExC.nd rfl (.inl rfl)) (pgs_cons (pg_name (i := 9) scExC.nd rfl (.inl rfl)) pgs_nil)))
      (pss_cons (ps_if (pt_cmpR op_eq (pe_ix (ixT (K := K) rfl) (pv 9) pe_int (fun _ _ => rfl)) (pe_ix (ixT (K := K) rfl) (pv 9) pe_int (fun _ _ => rfl)) (nomark _)) (pss_one ps_never) pss_nil)
      (pss_one (ps_if (pt_cmp (pc_dnotin hu (pv 9) (pv 3))) (pss_cons (ps_dput hu (pv 3) (pv 9) pe_bl rfl)
      (pss_one (ps_expr (pe_bm PySem.F.plainAttrs_list PySem.F.slot_list_append PySem.F.type_list_append mt_append (pv 4) (pa_cons (pe_tup (pa_cons (pv 9) (pa_cons (pv 6) (pa_cons (pe_tup (StX.pa_star (pv 7) (pa_cons (pv 8) pa_nil))) pa_nil)))) pa_nil))))) pss_nil))))))
      (pss_one (ps_set (i := 2) scExC.nd rfl (.inl rfl) (pv 4))))))
      (pss_one (ps_ret (pe_tup (pa_cons pe_non (pa_cons (pe_callTy (tupK (K := K) rfl) (by rfl) T.tuple (by decide +kernel) (pa_cons (pe_callB (call_sortedDT rfl hu8) (by rfl) T.sorted (by decide +kernel) (pa_cons (pv 3) pa_nil)) pa_nil)) pa_nil)))))))), ?_⟩
    obtain ⟨ok, dx, sA, rs, h1, h2, h3⟩ := id hm
    have c3 := ok.c3
    -- fresh
    refine ⟨_, rfl, _, rfl, p, m, d, ch, colOf m a, rfl, hm, hc, colOf_ok ok ha, fun H1 l xs s1 e1 l1 f1 => ⟨l, rfl, ⟨_, SqL.of e1⟩, fun D hD => ?_⟩⟩
    refine lc_list (K := K) (a := l) (xs := xs) (fun i H' => Same H1 H' ∧ ∃ ys, H' D = some (.lst ys) ∧ ys.length = i ∧ ∀ y ∈ ys, FreshE m 0 H' y) ⟨same_new (fun _ _ e => e) hD, [], upd_same, rfl, fun _ h => absurd h List.not_mem_nil⟩ (fun i H' _ q => SqL.of (q.1 _ _ e1)) ?_ ?_
    · rintro i x H2 hi ⟨s2, ys, e2, l2, f2⟩
      obtain ⟨g, ⟨gA, rfl, hg⟩, sg⟩ := f1 x (List.mem_of_getElem? hi)
      refine ⟨rfl, ?_⟩
      refine ⟨_, rfl, _, rfl, _, rfl, gA, v4 g, rfl, SqT.of (s2 _ _ hg), (show ¬ (HT.sIx 4 0 none = 0 ∧ HT.sIx 4 4 (some 2) = 4) by decide), fun q1 hq1 => ⟨Nat.zero_le _, fun q2 hq2 => ⟨(by show 3 ≤ sizeLine; decide), fun t ht => ?_⟩⟩⟩
      have q12 : q1 ≠ q2 := fun z => by rw [← z, upd_same] at hq2; cases hq2
      have q1t : q1 ≠ t := fun z => by rw [← z, upd_ne q12, upd_same] at ht; cases ht
      have q2t : q2 ≠ t := fun z => by rw [← z, upd_same] at ht; cases ht
      have s3 : Same H2 (upd (upd (upd H2 q1 (.tup (cutV (v4 g) none (some 2)))) q2 (.tup [])) t (.tup [.ref gA, .ref q1, .ref q2])) := same_new (same_new (same_new (fun _ _ e => e) hq1) hq2) ht
      have g1 : upd (upd (upd H2 q1 (.tup (cutV (v4 g) none (some 2)))) q2 (.tup [])) t (.tup [.ref gA, .ref q1, .ref q2]) q1 = some (.tup (cutV (v4 g) none (some 2))) := by rw [upd_ne q1t, upd_ne q12]; exact upd_same
      have g2 : upd (upd (upd H2 q1 (.tup (cutV (v4 g) none (some 2)))) q2 (.tup [])) t (.tup [.ref gA, .ref q1, .ref q2]) q2 = some (.tup []) := by rw [upd_ne q2t]; exact upd_same
      have g3 : upd (upd (upd H2 q1 (.tup (cutV (v4 g) none (some 2)))) q2 (.tup [])) t (.tup [.ref gA, .ref q1, .ref q2]) t = some (.tup [.ref gA, .ref q1, .ref q2]) := upd_same
      have hgA := s3 _ _ (s2 _ _ hg)
      revert s3 g1 g2 g3 hgA
      generalize upd (upd (upd H2 q1 (.tup (cutV (v4 g) none (some 2)))) q2 (.tup [])) t (.tup [.ref gA, .ref q1, .ref q2]) = H3
      intro s3 g1 g2 g3 hgA
      have hil : i < 16 := by have q := (List.getElem?_eq_some_iff.mp hi).1; omega
      refine ⟨ys, s3 _ _ e2, small (by omega), same_updF (s2.trans s3) hD, _, upd_same, by rw [List.length_append, l2]; rfl, fun y hy => ?_⟩
      have tk : ∀ a zs, H3 a = some (.tup zs) → upd H3 D (.lst (ys ++ [.ref t])) a = some (.tup zs) := fun a zs e => by
        rw [upd_ne (show a ≠ D from fun z => by rw [z, s3 _ _ e2] at e; cases e)]
        exact e
      rcases List.mem_append.mp
                                                                  hy with hy | hy
      · exact (f2 y hy).same fun a zs e => tk _ _ (s3 _ _ e)
      · rw [List.mem_singleton.mp hy]
        exact ⟨t, gA, q1, q2, g, _, [], rfl, tk _ _ g3, tk _ _ hgA, tk _ _ g1, tk _ _ g2, Nat.le_refl _, start_reach ha sg⟩
    · rintro H2 ⟨s2, ys, e2, l2, f2⟩
      have s02 := s1.trans s2
      have h30 : ys.length ≤ 16 := by omega
      -- met
      refine ⟨_, rfl, D, rfl, ⟨_, SqL.of e2⟩, fun M hM => ?_⟩
      have hM0 : H M = none := s02.free hM
      refine dcT_it (walk_list (K := K) (a := D) (xs := ys)) (fun i H' => Same H2 H' ∧ ∃ kvs ks, H' M = some (.dT kvs) ∧ Keys4 kvs ks ∧ ks.Nodup ∧ (∀ f ∈ ks, Reach m f) ∧ ks.length ≤ i) ⟨same_new (fun _ _ e => e) hM, [], [], upd_same, rfl, List.nodup_nil, fun _ h => absurd h List.not_mem_nil, Nat.le_refl _⟩ (fun i H' _ q => SqL.of (q.1 _ _ e2)) ?_ ?_
      · rintro i x H3 H4 hi ⟨s3, kvs, ks, e3, k3, n3, r3, l3⟩ ⟨rfl, hx⟩
        obtain ⟨t, fA, pA, rA, g, zs1, zs2, rfl, t1, t2, t3, t4, _, hr1⟩ := f2 x (List.mem_of_getElem? hx)
        refine ⟨t, _, rfl, SqT.of (s3 _ _ t1), rfl, _, _, rfl, _, _, rfl, _, _, rfl, rfl, rfl, ?_⟩
        refine ⟨_, rfl, kvs, k4 g, fA, rfl, s3 _ _ t2, e3, ?_, same_updF s3 hM, ?_⟩
        · rw [k3.len]
          exact small (by omega)
        · by_cases hg : g ∈ ks
          · exact ⟨_, ks, upd_same, k3.old hg _, n3, r3, by omega⟩
          · refine ⟨_, ks ++ [g], upd_same, k3.new hg _, ?_, fun f hf => ?_, by rw [List.length_append]; show ks.length + 1 ≤ i + 1; omega⟩
            · rw [List.nodup_append]
              refine ⟨n3, by simp, fun x hx y hy e => ?_⟩
              rw [List.mem_singleton] at hy
              exact hg (by rw [← hy, ← e]; exact hx)
            · rcases List.mem_append.mp hf with hf | hf
              · exact r3 f hf
              · rw [List.mem_singleton.mp hf]; exact hr1
      · rintro H3 ⟨s3, kvs, ks, e3, k3, n3, r3, l3⟩
        refine ⟨WC m H p ch M, ⟨_, 0, ks, kvs, D, ys, rfl, s02.trans s3, e3, k3, n3, r3, s3 _ _ e2, fun x hx => (f2 x hx).same fun a zs e => s3 _ _ e, by omega, fun _ => Nat.zero_le _, _, _, _, _, _, _, rfl⟩, ?_⟩
        clear r3 n3 k3 e3 s3 l3 f2 e2 l2 s2 f1 l1 e1 hD hM h30 s02 s1
        rintro mu st Hh ⟨kx, ks, kvs, F, xs, rfl, sH, hM, hK, nd, hR, hF, hxs, hl3, hk, j4, j5, j6, j7, j8, j9, rfl⟩
        refine ⟨_, rfl, F, _, rfl, .inl (SqL.of hF), _, _, rfl, rfl, _, rfl, ?_⟩
        have kle := reach_le ok nd hR
        by_cases hx0 : xs = []
        · have e0 : decide ((0 : Int) < (xs.length : Nat)) = false := decide_eq_false (by rw [hx0]; decide)
          rw [e0]
          refine iteF ?_
          refine ⟨_, rfl, M, kvs, ks.map fun f => [(f.1 : Int), (f.2.1 : Int), (f.2.2.1 : Int), (f.2.2.2 : Int)], rfl, .inl hM, ?_, fun l hl => ?_, fun ys q hq => ?_⟩
          · rw [show kvs.map (·.1) = ks.map k4 from hK, List.map_map]
            rfl
          · obtain ⟨f, _, rfl⟩ := List.mem_map.mp hl
            exact fun z => by cases z
          · refine ⟨q, ys, rfl, .inl ⟨SqL.of upd_same, fun l hl => ⟨(by show 2 ≤ sizeLine; decide), fun t ht => ?_⟩⟩⟩
            exact k _ t _ (sH.trans (same_new (same_new (same_new (fun _ _ e => e) hq) hl) ht)) upd_same
        · have e0 : decide ((0 : Int) < (xs.length : Nat)) = true := decide_eq_true (by
            have q : 0 < xs.length := List.length_pos_iff.mpr hx0
            omega)
          rw [e0]
          refine iteT ⟨fun st' H' => ∃ mu', mu' < 2 * (256 - ks.length) + (if xs = [] then 0 else 1) ∧ WC m H p ch M mu' st' H', fun _ _ h => h, ?_⟩
          refine ⟨Nat.zero_le _, fun Lt hLt => ?_⟩
          have hML : M ≠ Lt := ne_of_none hM hLt
          have kp0 : Kp [M] Hh (upd Hh Lt (.lst [])) := Kp.upd (Kp.refl _ _) (.inr hLt)
          have hmh : MachAt C Hh p m d := hm.same sH
          have clsM : ∀ b ∈ [M], ∀ o, Hh b = some o → (∀ C dx fs, o ≠ .ins C dx fs) ∧ ∀ xs, o ≠ .tup xs := fun b hb o e => by
            rw [List.mem_singleton.mp hb, hM] at e
            cases e
            exact ⟨(fun _ _ _ z => nomatch z), (fun _ z => nomatch z)⟩
          refine ⟨_, rfl, F, rfl, ⟨_, SqL.of (kp_at kp0 hM hF (fun z => nomatch z))⟩, ?_⟩
          refine for_list (K := K) (a := F) (xs := xs) (fun i st H' => XC m Hh H' M Lt kx ks ∧ ∃ j5 j6 j7 j8 j9, st = [some (.ref p), some (.ref ch), some (.ref F), some (.ref M), some (.ref Lt), j5, j6, j7, j8, j9])
            ⟨⟨kp0, kvs, ks, [], by rw [upd_ne hML]; exact hM, hK, nd, hR, upd_same, fun _ h => absurd h List.not_mem_nil, rfl⟩, _, _, _, _, _, rfl⟩ (fun i st H' _ q => SqL.of (kp_at q.1.kp hM hF (fun z => nomatch z))) ?_ ?_
          · rintro i x st H2 hi ⟨X2, j5, j6, j7, j8, j9, rfl⟩
            obtain ⟨t, fA, pA, rA, g, zs1, zs2, rfl, t1, t2, t3, t4, hz, hreach⟩ := hxs x (List.mem_of_getElem? hi)
            refine ⟨t, _, rfl, SqT.of (kp_at X2.kp hM t1 (fun z => nomatch z)), rfl, _, _, rfl, _, _, rfl, _, _, rfl, rfl, ?_⟩
            obtain ⟨wt, kr, hrch⟩ := hreach
            obtain ⟨lf1, lf2, lf3, lf4⟩ := hrch.ltn ok
            refine ⟨_, rfl, _, rfl, p, m, d, fA, g, rfl, hmh.kp X2.kp clsM, kp_at X2.kp hM t2 (fun z => nomatch z), fun x hx => ?_, fun H3 l ns s3 nl e3 l3 f3 => ⟨l, rfl, ⟨_, SqL.of e3⟩, ?_⟩⟩
            · simp only [fourL, List.mem_cons, List.not_mem_nil, or_false] at hx
              rcases hx with e | e | e | e <;> rw [e] <;> assumption
            have X3 := X2.same s3
            have lM : l ≠ M := fun z => by
              obtain ⟨kvs', _, _, y1, _⟩ := X3.ex
              rw [z, y1] at e3
              cases e3
            have lLt : l ≠ Lt := fun z => by
              obtain ⟨_, _, _, _, _, _, _, y5, _⟩ := X2.ex
              rw [z, y5] at nl
              cases nl
            refine for_list (K := K) (a := l) (xs := ns) (fun i st H' => XC m Hh H' M Lt kx ks ∧ Kp [M, Lt] H3 H' ∧ ∃ j8 j9, st = [some (.ref p), some (.ref ch), some (.ref F), some (.ref M), some (.ref Lt), some (.ref fA), some (.ref pA), some (.ref rA), j8, j9])
              ⟨X3, Kp.refl _ _, _, _, rfl⟩ (fun i st H' _ q => SqL.of (q.2.1 _ _ e3 fun z => by
                simp only [List.mem_cons, List.not_mem_nil, or_false] at z
                exact z.elim lM lLt)) ?_ ?_
            · rintro i x st H4 hi ⟨X4, k4', j8, j9, rfl⟩
              obtain ⟨t', gA, b, rfl, u1, hb, u2, u3⟩ := f3 x (List.mem_of_getElem? hi)
              have tk : ∀ {H' : Hp} {a : Addr} {zs : List V}, Kp [M, Lt] H3 H' → H3 a = some (.tup zs) → H' a = some (.tup zs) := fun kp e => kp _ _ e fun z => by
                simp only [List.mem_cons, List.not_mem_nil, or_false] at z
                obtain ⟨_, _, _, y1, _, _, _, y5, _⟩ := X3.ex
                rcases z with z | z
                · rw [z, y1] at e; cases e
                · rw [z, y5] at e; cases e
              refine ⟨t', _, rfl, SqT.of (tk k4' u1), rfl, _, _, rfl, _, _, rfl, rfl, ?_⟩
              have hg4 := tk k4' u2
              have hrs : Rch m (succF m g b b) (wt.snoc b b) (kr + 1) := hrch.snoc hb hb
              refine ⟨_, rfl, gA, _, _, _, rfl, rfl, SqT.of hg4, atI_nat (j := 0) rfl, _, rfl, gA, _, _, _, rfl, rfl, SqT.of hg4, atI_nat (j := 1) rfl, rfl, _, rfl, ?_⟩
              rw [deqI]
              have e1 : ((succF m g b b).1 == (succF m g b b).2.1) = false := by
                cases e : ((succF m g b b).1 == (succF m g b b).2.1) with
                | false => rfl
                | true => exact absurd ⟨_, hrs.1, by rw [hrs.2]; exact ⟨eq_of_beq e, u3⟩⟩ (nof (kr + 1))
              rw [e1]
              refine iteF ?_
              obtain ⟨kpX, kvs4, ks4, ys4, y1, y2, y3, y4, y5, y6, y7⟩ := X4
              have k4l := reach_le ok y3 y4
              refine ⟨_, rfl, _, rfl, M, _, rfl, DGet.t (k := k4 (succF m g b b)) y1 hg4, _, rfl, ?_⟩
              by_cases hin : succF m g b b ∈ ks4
              · rw [y2.some_ hin]
                exact iteF ⟨⟨kpX, kvs4, ks4, ys4, y1, y2, y3, y4, y5, y6, y7⟩, k4', _, _, rfl⟩
              · rw [y2.none_ hin]
                refine iteT ?_
                refine ⟨_, rfl, _, rfl, M, _, rfl, DPut.t (k := k4 (succF m g b b)) y1 hg4 (by rw [y2.len]; exact small (by omega)), ?_⟩
                have hLM : Lt ≠ M := hML.symm
                have tkM : ∀ {a : Addr} {o : HO}, H4 a = some o → o ≠ .dT kvs4 → upd H4 M (.dT (putK kvs4 (k4 (succF m g b b)) (.bl true))) a = some o := fun {a o} e ne => by
                  rw [upd_ne (show a ≠ M from fun z => by rw [z, y1] at e; exact ne (Option.some.inj e).symm)]
                  exact e
                have hpA := kp_at kpX hM t3 (fun z => nomatch z)
                have hrA := kp_at kpX hM t4 (fun z => nomatch z)
                refine ⟨_, rfl, .inl ⟨rfl, _, SqL.of (tkM y5 (fun z => nomatch z))⟩, _, rfl, _, rfl, _, rfl, rA, _, rfl, .inl (SqT.of (tkM hrA (fun z => nomatch z))), _, rfl, ?_, fun q1 hq1 => ⟨(by show 3 ≤ sizeLine; decide), fun q2 hq2 => ?_⟩⟩
                · have kq := hk fun z => by rw [z] at hx0; exact hx0 rfl
                  rw [List.length_append]
                  show zs2.length + 1 ≤ sizeLine
                  exact small (by omega)
                have s5 : Same (upd H4 M (.dT (putK kvs4 (k4 (succF m g b b)) (.bl true)))) (upd (upd (upd H4 M (.dT (putK kvs4 (k4 (succF m g b b)) (.bl true)))) q1 (.tup (zs2 ++ [.int (b : Nat)]))) q2 (.tup [.ref gA, .ref pA, .ref q1])) := same_new (same_new (fun _ _ e => e) hq1) hq2
                have q12 : q1 ≠ q2 := fun z => by rw [← z, upd_same] at hq2; cases hq2
                have g1 : upd (upd (upd H4 M (.dT (putK kvs4 (k4 (succF m g b b)) (.bl true)))) q1 (.tup (zs2 ++ [.int (b : Nat)]))) q2 (.tup [.ref gA, .ref pA, .ref q1]) q1 = some (.tup (zs2 ++ [.int (b : Nat)])) := by rw [upd_ne q12]; exact upd_same
                have g2 : upd (upd (upd H4 M (.dT (putK kvs4 (k4 (succF m g b b)) (.bl true)))) q1 (.tup (zs2 ++ [.int (b : Nat)]))) q2 (.tup [.ref gA, .ref pA, .ref q1]) q2 = some (.tup [.ref gA, .ref pA, .ref q1]) := upd_same
                have kpM : Kp [M] Hh (upd H4 M (.dT (putK kvs4 (k4 (succF m g b b)) (.bl true)))) := Kp.upd kpX (.inl (List.mem_singleton.mpr rfl))
                have eM : upd H4 M (.dT (putK kvs4 (k4 (succF m g b b)) (.bl true))) M = some (.dT (putK kvs4 (k4 (succF m g b b)) (.bl true))) := upd_same
                have eL := tkM y5 (fun z => nomatch z)
                have e6 : ∀ y ∈ ys4, FreshE m (kx + 1) (upd H4 M (.dT (putK kvs4 (k4 (succF m g b b)) (.bl true)))) y := fun y hy => (y6 y hy).same fun a zs e => tkM e (fun z => nomatch z)
                have eg := tkM hg4 (fun z => nomatch z)
                have ep := tkM hpA (fun z => nomatch z)
                have k5 : Kp [M, Lt] H3 (upd H4 M (.dT (putK kvs4 (k4 (succF m g b b)) (.bl true)))) := Kp.upd k4' (.inl List.mem_cons_self)
                clear hq1 hq2 tkM
                revert s5 g1 g2 kpM eM eL e6 eg ep k5
                generalize upd H4 M (.dT (putK kvs4 (k4 (succF m g b b)) (.bl true))) = H5
                generalize upd (upd H5 q1 (.tup (zs2 ++ [.int (b : Nat)]))) q2 (.tup [.ref gA, .ref pA, .ref q1]) = H6
                intro s5 g1 g2 kpM eM eL e6 eg ep k5
                refine ⟨Lt, _, _, rfl, rfl, s5 _ _ eL, small (by omega), ?_⟩
                have tk6 : ∀ a zs, H6 a = some (.tup zs) → upd H6 Lt (.lst (ys4 ++ [.ref q2])) a = some (.tup zs) := fun a zs e => by
                  rw [upd_ne (show a ≠ Lt from fun z => by rw [z, s5 _ _ eL] at e; cases e)]
                  exact e
                refine ⟨⟨Kp.updF (kpM.trans (Kp.of_same s5)) hLt, _, ks4 ++ [succF m g b b], _, ?_, y2.new hin (.bl true), ?_, fun f hf => ?_, upd_same, fun y hy => ?_, ?_⟩, Kp.upd (k5.trans (Kp.of_same s5)) (.inl (List.mem_cons_of_mem _ List.mem_cons_self)), _, _, rfl⟩
                · rw [upd_ne hML]
                  exact s5 _ _ eM
                · rw [List.nodup_append]
                  refine ⟨y3, by simp, fun x hx y hy e => ?_⟩
                  rw [List.mem_singleton] at hy
                  exact hin (by rw [← hy, ← e]; exact hx)
                · rcases List.mem_append.mp hf with hf | hf
                  · exact y4 f hf
                  · rw [List.mem_singleton.mp hf]
                    exact ⟨_, _, hrs⟩
                · rcases List.mem_append.mp hy with hy | hy
                  · exact (e6 y hy).same fun a zs e => tk6 _ _ (s5 _ _ e)
                  · rw [List.mem_singleton.mp hy]
                    refine ⟨q2, gA, pA, q1, succF m g b b, _, _, rfl, tk6 _ _ g2, tk6 _ _ (s5 _ _ eg), tk6 _ _ (s5 _ _ ep), tk6 _ _ g1, ?_, _, _, hrs⟩
                    rw [List.length_append]
                    show zs2.length + 1 ≤ kx + 1
                    omega
                · rw [List.length_append, List.length_append]
                  show ks4.length + 1 = ks.length + (ys4.length + 1)
                  omega
            · rintro st H4 ⟨X4, k4', j8, j9, rfl⟩
              exact ⟨X4, _, _, _, _, _, rfl⟩
          · rintro st H2 ⟨X2, j5, j6, j7, j8, j9, rfl⟩
            obtain ⟨kpX, kvs2, ks2, ys2, y1, y2, y3, y4, y5, y6, y7⟩ := X2
            have k2 := reach_le ok y3 y4
            have sX : Same H H2 := fun b o e => kpX b o (sH _ _ e) fun z => by
              rw [List.mem_singleton.mp z] at e
              rw [hM0] at e
              cases e
            refine ⟨_, rfl, 2 * (256 - ks2.length) + (if ys2 = [] then 0 else 1), ?_, kx + 1, ks2, kvs2, Lt, ys2, rfl, sX, y1, y2, y3, y4, y5, y6, by omega, fun hne => ?_, _, _, _, _, _, _, rfl⟩
            · rw [if_neg hx0]
              by_cases e : ys2 = []
              · rw [if_pos e]; omega
              · rw [if_neg e]
                have q : 0 < ys2.length := List.length_pos_iff.mpr e
                omega
            · have q : 0 < ys2.length := List.length_pos_iff.mpr hne
              have q2 := hk hx0
              omega
end
end K53
namespace K53
open PySem PySem.Spec PyProof.Rows L2 L2.KR LamX NdefX

/-- all but what stands at d and the tables is as it was -/
def Kt (d : Addr) (H H' : Hp) : Prop := ∀ b o, H b = some o → b ≠ d → (∀ ps, o ≠ .tbl ps) → H' b = some o
theorem Kt.refl (d : Addr) (H : Hp) : Kt d H H := fun _ _ h _ _ => h
theorem Kt.trans {d : Addr} {H H1 H2 : Hp} (a : Kt d H H1) (b : Kt d H1 H2) : Kt d H H2 := fun c o h n t => b c o (a c o h n t) n t
theorem Kt.of_same {d : Addr} {H H' : Hp} (s : Same H H') : Kt d H H' := fun b o e _ _ => s b o e
theorem Kt.of_ext {d : Addr} {H H' : Hp} (s : ExtN H H') : Kt d H H' := fun b o e _ t => s b o e t
theorem Kt.upd {d : Addr} {H H1 : Hp} {o : HO} (a : Kt d H H1) : Kt d H (L2.upd H1 d o) := fun b z e n t => by
  rw [upd_ne n]
  exact a b z e n t
theorem ndO_ne {w : World} {d : Addr} {L : List NK} : (∀ C dx fs, NdO w d L ≠ .ins C dx fs) ∧ (∀ xs, NdO w d L ≠ .tup xs) ∧ ∀ ps, NdO w d L ≠ .tbl ps := ⟨(fun _ _ _ z => by cases z), (fun _ z => by cases z), (fun _ z => by cases z)⟩
theorem Kt.tup {w : World} {d : Addr} {L : List NK} {H H' : Hp} (k : Kt d H H') (hd : H d = some (NdO w d L)) {a : Addr} {xs : List V} (e : H a = some (.tup xs)) : H' a = some (.tup xs) :=
  k a _ e (fun z => ndO_ne.2.1 xs (Option.some.inj (by rw [← hd, ← z]; exact e))) (fun ps z => nomatch z)
theorem MachAt.kt {C : Addr} {w : World} {H H' : Hp} {p : Addr} {m : Mc} {d : Addr} {L : List NK} (h : MachAt C H p m d) (k : Kt d H H') (hd : H d = some (NdO w d L)) : MachAt C H' p m d := by
  obtain ⟨ok, dx, sA, rs, h1, h2, h3⟩ := h
  exact ⟨ok, dx, sA, rs, k p _ h1 (fun z => ndO_ne.1 _ _ _ (Option.some.inj (by rw [← hd, ← z]; exact h1))) (fun ps z => nomatch z), k.tup hd h2, Paired.imp h3 fun a xs _ e => k.tup hd e⟩
theorem codeO_neN {c d : Addr} {q : Str} {w : World} {L : List NK} : CodeO c q ≠ NdO w d L := fun e => by
  unfold CodeO NdO at e
  injection e with e
  let o : Obj := { cls := .none, data := .fields #[.none, .str q 0] }
  let hp : Heap := { objs := Array.replicate (max c d + 1) o }
  have gt : ∀ a, a ≤ max c d → hp.get? a = some o := fun a ha => by
    unfold Heap.get?
    have q : hp.objs[a]? = some o := by
      show (Array.replicate (max c d + 1) o)[a]? = some o
      rw [Array.getElem?_replicate, if_pos (Nat.lt_succ_of_le ha)]
    rw [q]
  have h1 : ∃ (oc : Obj) (vs : Array Value) (t : Tok), hp.get? c = some oc ∧ oc.data = .fields vs ∧ vs[1]? = some (.str q t) := ⟨o, _, 0, gt c (Nat.le_max_left _ _), rfl, rfl⟩
  have h2 := (congrFun e hp).mp h1
  obtain ⟨_, _, xs, _, R⟩ := h2
  obtain ⟨o2, es, ep, g1, _, g3, _⟩ := R.ob
  rw [gt d (Nat.le_max_right _ _)] at g1
  cases g1
  cases g3
theorem tabs_d {w : World} {d : Addr} {L : List NK} {o : HO} {T : List (Addr × Str)} {H : Hp} (h : Tabs T H) (hd : H d = some (NdO w d L)) : Tabs T (upd H d o) := fun p hp => by
  obtain ⟨ps, h1, h2, h3⟩ := h p hp
  refine ⟨ps, by rw [upd_ne (show p.1 ≠ d from fun z => by rw [z, hd] at h1; exact ndO_ne.2.2 _ (Option.some.inj h1))]; exact h1, h2, fun pos cv hcv => ?_⟩
  obtain ⟨c, e1, e2⟩ := h3 pos cv hcv
  exact ⟨c, e1, by rw [upd_ne (show c ≠ d from fun z => by rw [z, hd] at e2; exact codeO_neN (Option.some.inj e2).symm)]; exact e2⟩
structure FoundD (w : World) (d : Addr) (H : Hp) (L : List NK) : Prop where
  at_ : H d = some (NdO w d L)
  keys : KeysO H L
  vals : ∀ q ∈ L, ∀ ks, q.1 = .tup ks → ∃ t ys, q.2.2 = .ref t ∧ H t = some (.tup (.non :: ys))
theorem FoundD.kp {w : World} {d : Addr} {H H' : Hp} {L : List NK} (h : FoundD w d H L) (hd : H' d = some (NdO w d L)) (m : ∀ a xs, H a = some (.tup xs) → H' a = some (.tup xs)) : FoundD w d H' L :=
  ⟨hd, h.keys.mono m, fun q hq ks e => let ⟨t, ys, h1, h2⟩ := h.vals q hq ks e; ⟨t, ys, h1, m _ _ h2⟩⟩
def colK (col : List Nat) : NestedKey := .tup [.text "change", .tup (col.map fun x : Nat => .num (x : Int))]
theorem nums_all (H : Hp) : ∀ col : List Nat, KAll H (col.map fun x : Nat => NestedKey.num (x : Int)) (nts col)
  | [] => .nil
  | x :: r => .cons (.num _) (nums_all H r)
theorem nums_depth : ∀ col : List Nat, NestedKey.depthAll (col.map fun x : Nat => NestedKey.num (x : Int)) = 0
  | [] => by simp [NestedKey.depthAll]
  | x :: r => by
    rw [List.map_cons, NestedKey.depthAll, nums_depth r]
    simp [NestedKey.depth]
theorem colK_depth (col : List Nat) : (colK col).depth ≤ 8 := by
  unfold colK
  simp only [NestedKey.depth, NestedKey.depthAll, nums_depth]
  decide
theorem colK_is {H : Hp} {col : List Nat} {ch k : Addr} (hc : H ch = some (.tup (nts col))) (hk : H k = some (.tup [.str "change", .ref ch])) : KIs H (colK col) (.ref k) :=
  .tup hk (.cons (.text _) (.cons (.tup hc (nums_all H col)) .nil))
def lamQ : Str := "seen.<locals>." ++ "<lambda>"
section
variable {P : Program} {w : World} {K : PySem.W.Frag} {mg : Str → Option Value} {base : Heap} {f C : Addr} {fd : FuncData}
def spSeen (w : World) (C PT : Addr) : Sp := fun vs H Q _ => ∃ (p : Addr) (m : Mc) (d ch : Addr) (a : Nat) (L : List NK), vs = [.ref p, .ref ch] ∧ MachAt C H p m d ∧ a < m.c ∧ H ch = some (.tup (nts (colOf m a))) ∧ (∀ j, ¬ Fault m j) ∧ FoundD w d H L ∧ L.length ≤ 1000 ∧ Tabs [(PT, lamQ)] H ∧
  ∀ H' t ys L', Kt d H H' → Tabs [(PT, lamQ)] H' → FoundD w d H' L' → L'.length ≤ L.length + 1 → H' t = some (.tup (.non :: ys)) → Q (.ref t) H'
abbrev scSeenN : List Str := ["machine", "change", "some"]
theorem scSeen : FnScope scSeenN ["machine", "change"] (defScope sSeen) := ⟨rfl, rfl, rfl, by decide +kernel, rfl, by decide +kernel, by decide +kernel⟩
def lamOf : Stmt → Expr
  | .Return (some (.Call _ [_, e] _ _)) _ => e
  | _ => .Constant .none 0 ⟨0, 0, 0, 0⟩
def lamE : Expr := lamOf ((defBody sSeen).getD 1 (.Pass ⟨0, 0, 0, 0⟩))
def lamScope : Scope := match lamE with
  | .Lambda _ _ sc _ => sc
  | _ => defScope sSeen
theorem scLam : NScope ["one", "some"] ["one"] ["some"] lamScope := nscope_by (by decide +kernel)
def retOf : Stmt → Expr
  | .Return (some e) _ => e
  | _ => .Constant .none 0 ⟨0, 0, 0, 0⟩
def seenE : Expr := retOf ((defBody sSeen).getD 1 (.Pass ⟨0, 0, 0, 0⟩))
def tFoundT (w : World) (K : PySem.W.Frag) (C : Addr) (f' c' : Addr) (ws : List (Option V)) : TS := tSeq (tIfS (tB (tNdIn w true (tVar 1) (tFld K (tVar 0) "_found")))
  (sNdPut w (tFld K (tVar 0) "_found") (tVar 1) (tAct 2 0 f' c' lamQ ["one", "some"] ws (tCall (spExC C) [] E0 (tCons (tVar 0) (tCons (tVar 1) tNil))))) tNext) (tRet (tNdGet w (tFld K (tVar 0) "_found") (tVar 1)))
def tSeenCall (w : World) (K : PySem.W.Frag) (C PT : Addr) : TE := tMLam [(PT, lamQ)] C "found" lamQ [2] scFoundN (tFoundT w K C) (tVar 0) (tTup (tCons (tC (.str "change")) (tCons (tVar 2) tNil)))
theorem hfreeB : ∀ y ∈ lamScope.names, y.2 = .free → (defScope sSeen).names.lookup y.1 = some .cell ∨ (defScope sSeen).names.lookup y.1 = some .free := ndef_free (fr := ["some"]) (by decide +kernel)
theorem hfrB : ∀ y ∈ (["some"] : List Str), (y, NameKind.free) ∈ lamScope.names := ndef_fr (sc := defScope sSeen) (by decide +kernel)
theorem ok_seen {oc : Value} {od : Option Addr} {kV doc pm : Value} {an : Option Addr} {ct : Value} {osl : Array (Option Value)} {c PT g : Addr} {oc2 : Value} {od2 : Option Addr} {dV2 kV2 doc2 pm2 cdv2 ct2 : Value} {an2 : Option Addr} {osl2 : Array (Option Value)}
    (lk : K.lookup f = some ⟨oc, od, .func (PySem.W.fnOf "seen" "seen" (defArgs sSeen) (defBody sSeen) (defScope sSeen) .none kV doc pm an (.ref c) ct), osl⟩) (hcd : PySem.W.codeIn K (.ref c) "seen" = true)
    (M : MTxt K mg C) (hm : Meth K C "found" g) (lk2 : K.lookup g = some ⟨oc2, od2, .func (PySem.W.fnOf "found" "Machine.found" (defArgs sFound) (defBody sFound) (defScope sFound) dV2 kV2 doc2 pm2 an2 cdv2 ct2), osl2⟩) (hcg : PySem.W.codeIn K cdv2 "Machine.found" = true)
    (bG : Binds K (PySem.W.fnOf "found" "Machine.found" (defArgs sFound) (defBody sFound) (defScope sFound) dV2 kV2 doc2 pm2 an2 cdv2 ct2) ["self", "word", "work"] []) (TB : TabB base mg c PT)
    (cChk : Df P w K mg base 5 "checked_change" ["machine", "value"] (spChk C)) (cEx : Df P w K mg base 2 "explored_changes" ["machine", "change"] (spExC C)) :
    FnOk P w K mg base CX0 6 f (PySem.W.fnOf "seen" "seen" (defArgs sSeen) (defBody sSeen) (defScope sSeen) .none kV doc pm an (.ref c) ct) ["machine", "change"] (spSeen w C PT) := by
  refine fn_of lk hcd scSeen (fun vs H Q E h => ?_) (fun A outer s H vs Q E hr h => ?_)
  · obtain ⟨p, m, d, ch, a, L, rfl, _⟩ := h
    rfl
  · obtain ⟨p, m, d, ch, a, L, rfl, hma, ha, hc, nof, hF, hL, hT, k⟩ := h
    have hr4 : Room 4 (A.deeper (envOfC "seen" (defScope sSeen) s.heap.objs.size f (.ref c))) := hr.mono (by decide)
    have body : ∃ t, PSs (cxOf CX0 P w K mg base scSeenN "seen" (defScope sSeen) f (.ref c) A outer s H E).nox (defBody sSeen) t ∧ t { nx := fun _ H' => Q .non H', rt := Q } (L2.start scSeenN [.ref p, .ref ch]) H := by
      have hlam : PE (cxOf CX0 P w K mg base scSeenN "seen" (defScope sSeen) f (.ref c) A outer s H E).nox seenE (tSeenCall w K C PT) := by
        unfold tSeenCall
        refine pe_mlam (T := [(PT, lamQ)]) (Ng := scFoundN) (N := ["one", "some"]) (fr := ["some"]) (js := [2]) (k := 2) (i := 2) (j := 0) (a := "work") (b := "self") (one := "one") (tb := tCall (spExC C) [] E0 (tCons (tVar 0) (tCons (tVar 1) tNil))) (pv 0) M.cl hm lk2 hcg bG scFound (pe_tup (pa_cons pe_str (pa_cons (pv 2) pa_nil))) TB rfl ?hmT ?hu hr4 scLam ?hfree ?hfr rfl rfl ?hbind ?hbody rfl (.inl rfl) rfl (.inl rfl) ?hG
        case hmT => exact List.mem_singleton.mpr rfl
        case hu => exact fun q hq _ => by rw [List.mem_singleton.mp hq]; rfl
        case hfree => exact hfreeB
        case hfr => exact hfrB
        case hbind => exact fun _ _ _ _ _ _ => rfl
        case hbody => exact fun A outer s H f c' q cl hr => pe_df cEx hr (by decide) rfl (pa_cons (pv 0) (pa_cons (pv 1) pa_nil))
        case hG =>
          intro f' c' ws s' H' hr' act
          have hu9 : ((A.deeper (envOfC "seen" (defScope sSeen) s.heap.objs.size f (.ref c))).deeper (envOfC "Machine.found" (defScope sFound) s'.heap.objs.size g cdv2)).units + 9 < cLine := by
            have q := hr'.un
            show (A.deeper (envOfC "seen" (defScope sSeen) s.heap.objs.size f (.ref c))).units + 3 + 9 < cLine
            have q' : (A.deeper (envOfC "seen" (defScope sSeen) s.heap.objs.size f (.ref c))).units + 3 + 16 * (2 + 1) + 200 < cLine := q
            omega
          exact pss_cons (ps_if (pt_cmp (pc_ndnotin hu9 (pv 1) (pe_fldK (K := K) rfl (pv 0) rfl))) (pss_one (ps_ndput hu9 (pe_fldK (K := K) rfl (pv 0) rfl) (pv 1) (act _ _ _) rfl)) pss_nil)
            (pss_one (ps_ret (pe_ndget hu9 (pe_fldK (K := K) rfl (pv 0) rfl) (pv 1) (fun _ _ => rfl))))
      refine ⟨_, pss_cons (ps_set (i := 2) scSeen.nd rfl (.inr rfl) (pe_df cChk hr (by decide) rfl (pa_cons (pv 0) (pa_cons (pv 1) pa_nil)))) (pss_one (ps_ret hlam)), ?_⟩
      obtain ⟨ok, dx, sA, rs, h1, h2, h3⟩ := id hma
      -- some = checked_change(machine, change)
      refine ⟨_, rfl, _, rfl, p, m, d, ch, colOf m a, rfl, hma, hc, colOf_ok ok ha, fun H1 s1 => ?_⟩
      have hma1 := hma.same s1
      have hc1 := s1 _ _ hc
      have hF1 : FoundD w d H1 L := hF.kp (s1 _ _ hF.at_) fun a xs e => s1 _ _ e
      have hT1 : Tabs [(PT, lamQ)] H1 := hT.ext fun b o e => s1 b o e
      have k1 : Kt d H H1 := Kt.of_same s1
      refine ⟨_, rfl, p, dx, _, rfl, s1 _ _ h1, lk_no _ _ _ _, _, rfl, (by show 2 ≤ sizeLine; decide), fun wd hwd => ?_⟩
      have s2 : Same H1 (upd H1 wd (.tup [.str "change", .ref ch])) := same_new (fun _ _ e => e) hwd
      refine ⟨hT1.ext fun b o e => s2 b o e, fun H3 f' c' eN hT3 hco => ?_⟩
      have k3 : Kt d H1 H3 := (Kt.of_same s2).trans (Kt.of_ext eN)
      have k03 := k1.trans k3
      have tup3 : ∀ {a : Addr} {xs : List V}, H1 a = some (.tup xs) → H3 a = some (.tup xs) := fun e => eN _ _ (s2 _ _ e) (fun ps z => nomatch z)
      have hd3 : H3 d = some (NdO w d L) := eN _ _ (s2 _ _ hF1.at_) ndO_ne.2.2
      have hF3 : FoundD w d H3 L := hF1.kp hd3 fun a xs e => tup3 e
      have hma3 := hma1.kt k3 hF1.at_
      have hw3 : H3 wd = some (.tup [.str "change", .ref ch]) := eN _ _ upd_same (fun ps z => nomatch z)
      have hk3 : KIs H3 (colK (colOf m a)) (.ref wd) := colK_is (tup3 hc1) hw3
      have h13 : H3 p = some (.ins C dx (mflds m.c m.n sA d)) := eN _ _ (s2 _ _ (s1 _ _ h1)) (fun ps z => nomatch z)
      -- the end
      have fin : ∀ (H' : Hp) (L' : List NK), Kt d H H' → Tabs [(PT, lamQ)] H' → FoundD w d H' L' → L'.length ≤ L.length + 1 → colK (colOf m a) ∈ L'.map (·.1) → KIs H' (colK (colOf m a)) (.ref wd) → H' p = some (.ins C dx (mflds m.c m.n sA d)) →
          tRet (tNdGet w (tFld K (tVar 0) "_found") (tVar 1)) { nx := fun _ H' => Q .non H', rt := Q } [some (.ref p), some (.ref wd), some (.ref f')] H' := fun H' L' kt ht hf hl hin hk hp => by
        refine ⟨_, rfl, p, C, dx, _, _, rfl, hp, M.cl, M.nF, lk_f _ _ _ _, _, rfl, d, L', _, wd, rfl, rfl, hf.at_, hf.keys, hk, colK_depth _, hin, fun u v hm => ?_⟩
        obtain ⟨t, ys, rfl, hty⟩ := hf.vals _ hm _ rfl
        exact k H' t ys L' kt ht hf hl hty
      refine ⟨_, rfl, _, rfl, p, C, dx, _, _, rfl, h13, M.cl, M.nF, lk_f _ _ _ _, d, L, _, wd, rfl, rfl, hd3, hF3.keys, hk3, colK_depth _, fun hin => ⟨_, rfl, iteF ?_⟩, fun hin => ⟨_, rfl, iteT ?_⟩⟩
      · exact fin H3 L k03 hT3 hF3 (Nat.le_succ _) hin hk3 h13
      · refine ⟨rfl, .ref p, rfl, hco, _, rfl, _, rfl, p, m, d, ch, a, rfl, hma3, ha, tup3 hc1, nof, fun H4 t ys s4 ht => ?_⟩
        have hd4 := s4 _ _ hd3
        refine ⟨_, rfl, p, C, dx, _, _, rfl, s4 _ _ h13, M.cl, M.nF, lk_f _ _ _ _, _, rfl, d, L, _, wd, rfl, rfl, hd4, hF3.keys.mono fun a xs e => s4 _ _ e, hk3.mono fun a xs e => s4 _ _ e, colK_depth _, small (by omega), ?_⟩
        have eL : putNK L (colK (colOf m a)) (.ref wd) (.ref t) = L ++ [(colK (colOf m a), .ref wd, .ref t)] := by
          unfold putNK
          rw [if_neg hin]
        rw [eL]
        have tup5 : ∀ b xs, H4 b = some (.tup xs) → upd H4 d (NdO w d (L ++ [(colK (colOf m a), .ref wd, .ref t)])) b = some (.tup xs) := fun b xs e => by
          rw [upd_ne (show b ≠ d from fun z => by rw [z, hd4] at e; exact ndO_ne.2.1 _ (Option.some.inj e))]
          exact e
        have hk5 := (hk3.mono fun a xs e => s4 _ _ e).mono tup5
        refine fin _ _ ((k03.trans (Kt.of_same s4)).upd) ?_ ⟨upd_same, fun q hq => ?_, fun q hq ks e => ?_⟩ (by rw [List.length_append]; exact Nat.le_refl _) (by rw [List.map_append]; exact List.mem_append_right _ List.mem_cons_self) hk5 ?_
        · exact tabs_d (hT3.ext fun b o e => s4 b o e) hd4
        · rcases List.mem_append.mp
                                                                    hq with hq | hq
          · obtain ⟨z1, z2⟩ := hF3.keys q hq
            exact ⟨(z1.mono fun a xs e => s4 _ _ e).mono tup5, z2⟩
          · rw [List.mem_singleton.mp
                                                                      hq]
            exact ⟨hk5, colK_depth _⟩
        · rcases List.mem_append.mp
                                                                    hq with hq | hq
          · obtain ⟨t', ys', z1, z2⟩ := hF3.vals q hq ks e
            exact ⟨t', ys', z1, tup5 _ _ (s4 _ _ z2)⟩
          · rw [List.mem_singleton.mp
                                                                      hq]
            exact ⟨t, ys, rfl, tup5 _ _ ht⟩
        · rw [upd_ne (show p ≠ d from fun z => by rw [z, hd3] at h13; exact ndO_ne.1 _ _ _ (Option.some.inj h13))]
          exact s4 _ _ h13
    obtain ⟨t, h1, h2⟩ := body
    exact ⟨t, h1.nox, h2⟩
end
end K53
namespace K53
open PySem PySem.Spec PyProof.Rows L2 L2.KR LamX NdefX
section
variable {P : Program} {w : World} {K : PySem.W.Frag} {mg : Str → Option Value} {base : Heap} {f C PT : Addr} {fd : FuncData}
def spFault (w : World) (C PT : Addr) : Sp := fun vs H Q _ => ∃ (p : Addr) (m : Mc) (d ch : Addr) (a : Nat) (L : List NK), vs = [.ref p, .ref ch] ∧ MachAt C H p m d ∧ a < m.c ∧ H ch = some (.tup (nts (colOf m a))) ∧ (∀ j, ¬ Fault m j) ∧ FoundD w d H L ∧ L.length ≤ 1000 ∧ Tabs [(PT, lamQ)] H ∧
  ∀ H' L', Kt d H H' → Tabs [(PT, lamQ)] H' → FoundD w d H' L' → L'.length ≤ L.length + 1 → Q .non H'
abbrev scFaultN : List Str := ["machine", "change"]
theorem scFault : FnScope scFaultN ["machine", "change"] (defScope sFault) := ⟨rfl, rfl, rfl, by decide +kernel, rfl, by decide +kernel, by decide +kernel⟩
theorem ok_fault (F : Fun K "fault" "fault" sFault f fd) (cSeen : Df P w K mg base 6 "seen" ["machine", "change"] (spSeen w C PT)) : FnOk P w K mg base CX0 7 f fd ["machine", "change"] (spFault w C PT) := by
  refine F.ok scFault (fun vs H Q E h => ?_) (fun cdv A outer s H vs Q E hr h => ?_)
  · obtain ⟨p, m, d, ch, a, L, rfl, _⟩ := h
    rfl
  · obtain ⟨p, m, d, ch, a, L, rfl, hm, ha, hc, nof, hF, hL, hT, k⟩ := h
    refine ⟨_, (pss_one (ps_ret (pe_ix (ixT (K := K) rfl) (pe_df cSeen hr (by decide) rfl (pa_cons (pv 0) (pa_cons (pv 1) pa_nil))) pe_int (fun _ _ => rfl)))), ?_⟩
    refine ⟨_, rfl, _, rfl, p, m, d, ch, a, L, rfl, hm, ha, hc, nof, hF, hL, hT, fun H' t ys L' kt ht hf hl hty => ?_⟩
    exact ⟨t, _, _, _, rfl, rfl, SqT.of hty, atI_nat (j := 0) rfl, k H' L' kt ht hf hl⟩
def spLate (w : World) (C PT : Addr) : Sp := fun vs H Q _ => ∃ (p : Addr) (m : Mc) (d : Addr) (L : List NK), vs = [.ref p] ∧ MachAt C H p m d ∧ (∀ j, ¬ Fault m j) ∧ FoundD w d H L ∧ L.length ≤ 900 ∧ Tabs [(PT, lamQ)] H ∧ ∀ H' t xs, Kt d H H' → H' t = some (.tup xs) → xs.length = m.c → Q (.ref t) H'
abbrev scLateN : List Str := ["machine", "one"]
theorem scLate : FnScope scLateN ["machine"] (defScope sLate) := ⟨rfl, rfl, rfl, by decide +kernel, rfl, by decide +kernel, by decide +kernel⟩
theorem ok_late {gD : Addr} {fdD : FuncData} (F : Fun K "late_commands" "late_commands" sLate f fd) (T : Txt mg) (M : MTxt K mg C) (hmD : Meth K C "does" gD) (GD : FnOk P w K mg base CX0 1 gD fdD ["self", "command"] (spDoes C)) (bD : Binds K fdD ["self", "command"] [])
    (cFault : Df P w K mg base 7 "fault" ["machine", "change"] (spFault w C PT)) : FnOk P w K mg base CX0 8 f fd ["machine"] (spLate w C PT) := by
  refine F.ok scLate (fun vs H Q E h => ?_) (fun cdv A outer s H vs Q E hr h => ?_)
  · obtain ⟨p, m, d, L, rfl, _⟩ := h
    rfl
  · obtain ⟨p, m, d, L, rfl, hm, nof, hF, hL, hT, k⟩ := h
    have GD := GD
    have hr1 : Room 1 (A.deeper (envOfC "late_commands" (defScope sLate) s.heap.objs.size f cdv)) := hr.mono (by decide)
    refine ⟨_, (pss_one (ps_ret (pe_callTy (tupK (K := K) rfl) (by rfl) T.tuple (by decide +kernel) (pa_cons (pe_lc (own := [("one", 1)]) (g := gName 1) (tt := _) (by rfl) scLate.nd (pi_range1 (by rfl) T.range (pa_cons (pe_fldK (K := K) rfl (pv 0) rfl) pa_nil)) (blkOk_by (own := [("one", 1)]) (N := scLateN) (sc := defScope sLate) (by decide +kernel)) (fun _ _ _ _ _ => pg_name (i := 1) scLate.nd rfl (Or.inl rfl)) (fun _ _ _ _ _ => pts_one (pt_cmpR op_isN (pe_df cFault hr (by decide) rfl (pa_cons (pv 0) (pa_cons (pe_meth (pv 0) M.cl hmD GD hr1 bD .nil pass0 (pa_cons (pv 1) pa_nil)) pa_nil))) pe_non (nomark _))) (fun _ _ _ _ _ => (pv 1))) pa_nil)))), ?_⟩
    obtain ⟨ok, dx, sA, rs, h1, h2, h3⟩ := id hm
    have c3 := ok.c3
    refine ⟨_, rfl, p, C, dx, _, _, rfl, h1, M.cl, M.nC, lk_c _ _ _ _, (m.c : Int), rfl, by omega, by omega, fun D hD => ?_⟩
    rw [show ((m.c : Int).toNat) = m.c by omega]
    refine lc_range (lo := 0) (n := m.c) (fun i H' => Kt d H H' ∧ Tabs [(PT, lamQ)] H' ∧ (∃ L', FoundD w d H' L' ∧ L'.length ≤ L.length + i) ∧ ∃ xs, H' D = some (.lst xs) ∧ xs.length = i)
      ⟨Kt.of_same (same_new (fun _ _ e => e) hD), hT.ext fun b o e => same_new (fun _ _ e => e) hD b o e, ⟨L, hF.kp (by rw [upd_ne (ne_of_none hF.at_ hD)]; exact hF.at_) fun a xs e => by rw [upd_ne (ne_of_none e hD)]; exact e, Nat.le_refl _⟩, [], upd_same, rfl⟩ ?_ ?_
    · rintro i H2 hi ⟨kt, ht, ⟨L', hf, hl⟩, xs, eD, lx⟩
      have ei : ((0 : Int) + (i : Nat)) = (i : Int) := by omega
      rw [ei]
      have hm2 := hm.kt kt hF.at_
      obtain ⟨_, dx2, sA2, rs2, g1, _, _⟩ := id hm2
      refine ⟨rfl, ?_⟩
      refine ⟨_, rfl, _, rfl, p, dx2, _, rfl, g1, lk_no2 _ _ _ _, _, rfl, p, m, d, i, rfl, hm2, hi, fun H3 t s3 nt et => ?_⟩
      have hf3 : FoundD w d H3 L' := hf.kp (s3 _ _ hf.at_) fun a xs e => s3 _ _ e
      refine ⟨p, m, d, t, i, L', rfl, hm2.same s3, hi, et, nof, hf3, by omega, ht.ext fun b o e => s3 b o e, fun H4 L4 kt4 ht4 hf4 hl4 => ?_⟩
      refine ⟨rfl, _, rfl, iteT ?_⟩
      have eD4 : H4 D = some (.lst xs) := kt4 _ _ (s3 _ _ eD) (fun z => by rw [z, hf.at_] at eD; cases eD) (fun ps z => nomatch z)
      have Dd : D ≠ d := fun z => by rw [z, hf.at_] at eD; cases eD
      refine ⟨_, rfl, xs, eD4, small (by omega), ?_, ?_, ⟨L4, ?_, by omega⟩, _, upd_same, by rw [List.length_append, lx]; rfl⟩
      · exact fun b o e n t => by
          rw [upd_ne (ne_of_none e hD)]
          exact kt4 b o (s3 _ _ (kt b o e n t)) n t
      · exact fun q hq => by
          obtain ⟨ps, z1, z2, z3⟩ := ht4 q hq
          refine ⟨ps, by rw [upd_ne (show q.1 ≠ D from fun z => by rw [z, eD4] at z1; cases z1)]; exact z1, z2, fun pos cv hcv => ?_⟩
          obtain ⟨c, a1, a2⟩ := z3 pos cv hcv
          exact ⟨c, a1, by rw [upd_ne (show c ≠ D from fun z => by rw [z, eD4] at a2; cases a2)]; exact a2⟩
      · exact hf4.kp (by rw [upd_ne Dd.symm]; exact hf4.at_) fun a zs e => by
          rw [upd_ne (show a ≠ D from fun z => by rw [z, eD4] at e; cases e)]
          exact e
    · rintro H2 ⟨kt, ht, ⟨L', hf, hl⟩, xs, eD, lx⟩
      refine ⟨D, xs, rfl, .inl ⟨SqL.of eD, fun t ht2 => ?_⟩⟩
      exact k _ t xs (kt.trans (Kt.of_same (same_new (fun _ _ e => e) ht2))) upd_same lx
def spBlind (C PT : Addr) : Sp := fun vs H Q _ => ∃ (p : Addr) (m : Mc) (d : Addr) (v : V), vs = [.ref p] ∧ MachAt C H p m d ∧ (∀ j, ¬ Fault m j) ∧ H d = some (.dK [(.inr nfS, v)]) ∧ Tabs [(PT, lamQ)] H ∧ ∀ H', Kt d H H' → Q (.bl false) H'
abbrev scBlindN : List Str := ["machine"]
theorem scBlind : FnScope scBlindN ["machine"] (defScope sBlind) := ⟨rfl, rfl, rfl, by decide +kernel, rfl, by decide +kernel, by decide +kernel⟩
theorem ok_blind (F : Fun K "is_blind" "is_blind" sBlind f fd) (T : Txt mg) (M : MTxt K mg C) (cLate : Df P w K mg base 8 "late_commands" ["machine"] (spLate w C PT)) : FnOk P w K mg base CX0 9 f fd ["machine"] (spBlind C PT) := by
  refine F.ok scBlind (fun vs H Q E h => ?_) (fun cdv A outer s H vs Q E hr h => ?_)
  · obtain ⟨p, m, d, v, rfl, _⟩ := h
    rfl
  · obtain ⟨p, m, d, v, rfl, hm, nof, hd, hT, k⟩ := h
    refine ⟨_, pss_one (ps_ret (pe_conv (pe_cmpR op_lt (pe_callB (lenK (K := K) rfl) (by rfl) T.len PySem.boot_len (pa_cons (pe_df cLate hr (by decide) rfl (pa_cons (pv 0) pa_nil)) pa_nil)) (pe_fldK (K := K) rfl (pv 0) rfl) (nomark _)))), ?_⟩
    have tk : ∀ {a : Addr} {o : HO}, H a = some o → o ≠ .dK [(.inr nfS, v)] → upd H d (NdO w d [(.text nfS, .str nfS, v)]) a = some o := fun {a o} e ne => by
      rw [upd_ne (show a ≠ d from fun z => by rw [z, hd] at e; exact ne (Option.some.inj e).symm)]
      exact e
    have kt0 : Kt d H (upd H d (NdO w d [(.text nfS, .str nfS, v)])) := fun b o e n _ => by rw [upd_ne n]; exact e
    have hm1 : MachAt C (upd H d (NdO w d [(.text nfS, .str nfS, v)])) p m d := by
      obtain ⟨ok, dx, sA, rs, h1, h2, h3⟩ := hm
      exact ⟨ok, dx, sA, rs, tk h1 (fun z => nomatch z), tk h2 (fun z => nomatch z), Paired.imp h3 fun a xs _ e => tk e (fun z => nomatch z)⟩
    have hT1 : Tabs [(PT, lamQ)] (upd H d (NdO w d [(.text nfS, .str nfS, v)])) := fun q hq => by
      obtain ⟨ps, z1, z2, z3⟩ := hT q hq
      refine ⟨ps, tk z1 (fun z => nomatch z), z2, fun pos cv hcv => ?_⟩
      obtain ⟨c, a1, a2⟩ := z3 pos cv hcv
      exact ⟨c, a1, tk a2 (fun z => by unfold CodeO at z; cases z)⟩
    have hF : FoundD w d (upd H d (NdO w d [(.text nfS, .str nfS, v)])) [(.text nfS, .str nfS, v)] := ⟨upd_same, fun q hq => by rw [List.mem_singleton.mp hq]; exact ⟨.text _, by show 0 ≤ 8; decide⟩, fun q hq ks e => by rw [List.mem_singleton.mp hq] at e; cases e⟩
    refine ⟨d, nfS, v, hd, ?_⟩
    refine ⟨_, rfl, p, m, d, _, rfl, hm1, nof, hF, by show 1 ≤ 900; decide, hT1, fun H' t xs kt et lx => ?_⟩
    have hm2 := hm1.kt kt hF.at_
    obtain ⟨_, dx2, sA2, rs2, g1, _, _⟩ := id hm2
    refine ⟨t, xs, rfl, .inr (SqT.of et), _, rfl, p, C, dx2, _, _, rfl, g1, M.cl, M.nC, lk_c _ _ _ _, _, _, rfl, rfl, ?_⟩
    show Q (.bl (decide ((xs.length : Int) < (m.c : Int)))) H'
    rw [lx, decide_eq_false (Int.lt_irrefl _)]
    exact k H' (kt0.trans kt)
end
end K53
namespace K53
open PySem PySem.Spec PyProof.Rows L2 L2.KR

def ilst (ns : List Int) : List V := ns.map V.int
def DealAt (H : Hp) (D dl : Addr) : Prop := ∃ b ns, H D = some (.lst [.ref dl, .int b]) ∧ H dl = some (.lst (ilst ns)) ∧ ns.length ≤ 1000
theorem DealAt.ne {H : Hp} {D dl : Addr} (h : DealAt H D dl) : D ≠ dl := fun z => by
  obtain ⟨b, ns, h1, h2, _⟩ := h
  rw [z, h2] at h1
  have e := HO.lst.inj (Option.some.inj h1)
  cases ns with
  | nil => cases e
  | cons x r => cases e
theorem DealAt.same {H H' : Hp} {D dl : Addr} (h : DealAt H D dl) (s : Same H H') : DealAt H' D dl := let ⟨b, ns, h1, h2, h3⟩ := h; ⟨b, ns, s _ _ h1, s _ _ h2, h3⟩
theorem ilst_len (ns : List Int) : (ilst ns).length = ns.length := List.length_map _
theorem cut_ints (ns : List Int) (lo hi : Option Int) : ∃ ms, cutV (ilst ns) lo hi = ilst ms ∧ ms.length ≤ ns.length := by
  refine ⟨(ns.drop (HT.sIx (ilst ns).length 0 lo)).take (HT.sIx (ilst ns).length (ilst ns).length hi - HT.sIx (ilst ns).length 0 lo), ?_, ?_⟩
  · unfold cutV ilst
    rw [List.map_take,
                                                                List.map_drop]
  · rw [List.length_take, List.length_drop]
    omega
theorem ilst_get {ns : List Int} {i : Nat} {x : V} (h : (ilst ns)[i]? = some x) : ∃ n, ns[i]? = some n ∧ x = .int n := by
  unfold ilst at h
  rw [List.getElem?_map] at h
  cases e : ns[i]? with
  | none => rw [e]
                                                              at h; cases h
  | some a =>
    rw [e] at h
    exact ⟨a, rfl, (Option.some.inj h).symm⟩
theorem dpInts (K : PySem.W.Frag) (H : Hp) : ∀ ns : List Int, DpAll K H (ilst ns) (ns.map .int)
  | [] => .nil
  | x :: r => .cons (.int x) (dpInts K H r)
theorem canLay_ints : ∀ ns : List Int, PyData.canLayAll0 (ns.map .int) = true
  | [] => rfl
  | x :: r => by
    rw [List.map_cons]
    simp [PyData.canLayAll0, PyData.canLay0, canLay_ints r]
theorem shaped_ints (ns : List Int) : SeqAt.shaped (.list (ns.map .int)) = true := by
  unfold SeqAt.shaped
  rw [Bool.and_eq_true]
  refine ⟨?_, decide_eq_true ?_⟩
  · simp [PyData.canLay0, canLay_ints]
  · show PyData.depthAll (ns.map .int) + 1 ≤ 64
    rw [PySem.W.depth_ints]
    decide
theorem eqv_nil (ns : List Int) : PyData.eqv (.list (ns.map .int)) (.list []) = ns.isEmpty := by
  cases ns with
  | nil => simp [PyData.eqv, PyData.eqvAll]
  | cons x r => simp [PyData.eqv, PyData.eqvAll]
theorem seq_p {a b : TS} {D : Ends} {st : L2.St} {H : Hp} (Post : L2.St → Hp → Prop) (hd : ∀ st H, Post st H → b D st H) (h : ∀ NX : L2.St → Hp → Prop, (∀ st H, Post st H → NX st H) → a { D with nx := NX } st H) : tSeq a b D st H := h (b D) hd
theorem mod_nat (z : Int) {k : Nat} (hk : 0 < k) : ∃ x : Nat, x < k ∧ z % (k : Int) = (x : Int) := by
  have h1 := Int.emod_nonneg z (show (k : Int) ≠ 0 by omega)
  have h2 := Int.emod_lt_of_pos z (show (0 : Int) < k by omega)
  exact ⟨(z % (k : Int)).toNat, by omega, by omega⟩
section
variable {P : Program} {w : World} {K : PySem.W.Frag} {mg : Str → Option Value} {base : Heap} {f C PT : Addr} {fd : FuncData}
def spDraw (K : PySem.W.Frag) : Sp := fun vs H Q _ => ∃ (a : Addr) (ns : List Int) (k : Int), vs = [.ref a, .int k] ∧ 0 ≤ k ∧ k < 1000 ∧ SqL K H a (ilst ns) ∧ ns.length ≤ 63 ∧ ∀ H' D dl, Same H H' → H D = none → H dl = none → DealAt H' D dl → Q (.ref D) H'
abbrev scDrawN : List Str := ["_law_script", "_law_salt", "_law_cells", "_law_blend", "_law_cell"]
theorem scDraw : FnScope scDrawN ["_law_script", "_law_salt"] (defScope sDraw) := ⟨rfl, rfl, rfl, by decide +kernel, rfl, by decide +kernel, by decide +kernel⟩
theorem ok_draw (F : Fun K "_law_draw" "_law_draw" sDraw f fd) (T : Txt mg) : FnOk P w K mg base CX0 1 f fd ["_law_script", "_law_salt"] (spDraw K) := by
  refine F.ok scDraw (fun vs H Q E h => ?_) (fun cdv A outer s H vs Q E hr h => ?_)
  · obtain ⟨a, ns, k, rfl, _⟩ := h
    rfl
  · obtain ⟨a, ns, k0, rfl, hk0, hk1, ha, hl, k⟩ := h
    refine ⟨_, (pss_cons (ps_setLc (i := 2) (own := [("_law_cell", 4)]) (g := gName 4) (tt := tYes) rfl scDraw.nd rfl rfl (sw_true rfl rfl rfl (by decide +kernel)) (pi_list (pe_slice sl_list (pv 0) po_none (po_some pe_int))) (blkOk_by (own := [("_law_cell", 4)]) (N := scDrawN) (sc := defScope sDraw) (by decide +kernel)) (fun _ _ _ _ _ => pg_name (i := 4) scDraw.nd rfl (Or.inl rfl)) (fun _ _ _ _ _ => pts_nil) (fun _ _ _ _ _ => (pe_callB call_abs (by rfl) T.abs (by decide +kernel) (pa_cons (pe_callTy call_int1 (by rfl) T.int (by decide +kernel) (pa_cons (pv 4) pa_nil)) pa_nil))))
      (pss_cons (ps_set (i := 3) scDraw.nd rfl (.inl rfl) (pe_op op_add pe_int (pe_op op_mul pe_int (pv 1))))
      (pss_cons (ps_for PassesOwn.never rfl (pi_list (pv 2)) (pg_name (i := 4) scDraw.nd rfl (.inl rfl))
      (pss_one (ps_set (i := 3) scDraw.nd rfl (.inl rfl) (pe_op op_mod (pe_callTy call_int1 (by rfl) T.int (by decide +kernel) (pa_cons (pe_op op_add (pe_op op_add (pe_op op_mul (pv 3) pe_int) (pe_op op_mod (pv 4) pe_int)) pe_int) pa_nil)) pe_int))))
      (pss_one (ps_ret (pe_lst (pa_cons (pe_revL (pe_lc (own := [("_law_cell", 4)]) (g := gName 4) (tt := _) (by rfl) scDraw.nd (pi_list (pv 2)) (blkOk_by (own := [("_law_cell", 4)]) (N := scDrawN) (sc := defScope sDraw) (by decide +kernel)) (fun _ _ _ _ _ => pg_name (i := 4) scDraw.nd rfl (Or.inl rfl)) (fun _ _ _ _ _ => pts_one (pt_cmpR op_ge (pv 4) (pe_op op_pow pe_int pe_int) (nomark _))) (fun _ _ _ _ _ => (pv 4)))) (pa_cons (pv 3) pa_nil)))))))), ?_⟩
    obtain ⟨ms, ecut, lm⟩ := cut_ints ns none (some 48)
    refine ⟨_, rfl, _, rfl, a, ilst ns, rfl, ha, fun c hc => ⟨c, rfl, ⟨_, SqL.of upd_same⟩, fun D hD => ?_⟩⟩
    rw [ecut] at hD ⊢
    have s1 : Same H (upd H c (.lst (ilst ms))) := same_new (fun _ _ e => e) hc
    have e1 : upd H c (.lst (ilst ms)) c = some (.lst (ilst ms)) := upd_same
    revert hD s1 e1
    generalize upd H c (.lst (ilst ms)) = H1
    intro hD s1 e1
    refine lc_list (K := K) (a := c) (xs := ilst ms) (fun i H' => Same H1 H' ∧ ∃ ks : List Int, H' D = some (.lst (ilst ks)) ∧ ks.length = i) ⟨same_new (fun _ _ e => e) hD, [], upd_same, rfl⟩ (fun i H' _ q => SqL.of (q.1 _ _ e1)) ?_ ?_
    · rintro i x H2 hi ⟨s2, ks, e2, l2⟩
      obtain ⟨n, hn, rfl⟩ := ilst_get hi
      have hil := (List.getElem?_eq_some_iff.mp hn).1
      refine ⟨rfl, ?_⟩
      refine ⟨_, rfl, .inl ⟨n, rfl, n, rfl, ilst ks, e2, by rw [ilst_len]; exact small (by omega), same_updF s2 hD, ks ++ [if n < 0 then -n else n], ?_, by rw [List.length_append, l2]; rfl⟩⟩
      rw [upd_same]
      unfold ilst
      rw [List.map_append]
      rfl
    · rintro H2 ⟨s2, ks, e2, l2⟩
      rw [ilst_len] at l2
      have s02 := s1.trans s2
      -- the blend
      refine ⟨_, rfl, _, _, rfl, rfl, .inl ⟨by decide, by decide⟩, _, _, rfl, rfl, ?_⟩
      refine ⟨_, rfl, D, rfl, ⟨_, SqL.of e2⟩, for_list (K := K) (a := D) (xs := ilst ks) (fun i st H' => H' = H2 ∧ ∃ (b : Int) (j : Option V), st = [some (.ref a), some (.int k0), some (.ref D), some (.int b), j]) ⟨rfl, _, _, rfl⟩ (fun i st H' _ q => by rw [q.1]; exact SqL.of e2) ?_ ?_⟩
      · rintro i x st H3 hi ⟨rfl, b, j, rfl⟩
        obtain ⟨n, hn, rfl⟩ := ilst_get hi
        refine ⟨_, rfl, _, _, rfl, rfl, .inr ⟨by decide, by decide⟩, _, rfl, _, _, rfl, rfl, (by show (0 : Int) < 2147483549; decide), _, _, rfl, rfl, _, _, rfl, rfl, .inl ⟨_, rfl, _, _, rfl, rfl, (by show (0 : Int) < 2147483647; decide), ?_⟩⟩
        exact ⟨rfl, _, _, rfl⟩
      · rintro st H3 ⟨rfl, b, j, rfl⟩
        refine ⟨_, rfl, D, rfl, ⟨_, SqL.of e2⟩, fun G hG => ?_⟩
        refine lc_list (K := K) (a := D) (xs := ilst ks) (fun i H' => Same H3 H' ∧ ∃ zs : List Int, H' G = some (.lst (ilst zs)) ∧ zs.length ≤ i) ⟨same_new (fun _ _ e => e) hG, [], upd_same, Nat.le_refl _⟩ (fun i H' _ q => SqL.of (q.1 _ _ e2)) ?_ ?_
        · rintro i x H4 hi ⟨s4, zs, e4, l4⟩
          obtain ⟨n, hn, rfl⟩ := ilst_get hi
          have hil := (List.getElem?_eq_some_iff.mp hn).1
          refine ⟨rfl, ?_⟩
          refine ⟨_, rfl, _, _, rfl, rfl, ⟨by decide, by decide, by decide⟩, _, _, rfl, rfl, _, rfl, ?_⟩
          refine ite2 (fun _ => ?_) (fun _ => ?_)
          · refine ⟨_, rfl, ilst zs, e4, by rw [ilst_len]; exact small (by omega), same_updF s4 hG, zs ++ [n], ?_, by rw [List.length_append]; show zs.length + 1 ≤ i + 1; omega⟩
            rw [upd_same]
            unfold ilst
            rw [List.map_append]
            rfl
          · exact ⟨s4, zs, e4, by omega⟩
        · rintro H4 ⟨s4, zs, e4, l4⟩
          rw [ilst_len] at l4
          refine ⟨G, _, rfl, SqL.of e4, fun r hr' => ⟨_, rfl, (by show 2 ≤ sizeLine; decide), fun l hl' => ?_⟩⟩
          have s04 := s02.trans s4
          have s05 : Same H (upd H4 r (.lst (ilst zs).reverse)) := same_new s04 hr'
          have rl : r ≠ l := fun z => by rw [← z, upd_same] at hl'; cases hl'
          refine k _ l r (same_new s05 hl') (s05.free hl') (s04.free hr') ⟨b, zs.reverse, upd_same, ?_, by rw [List.length_reverse]; omega⟩
          rw [upd_ne rl, upd_same]
          unfold ilst
          rw [List.map_reverse]
def spAny : Sp := fun vs H Q _ => ∃ (D dl : Addr) (k : Nat), vs = [.ref D, .int (k : Int)] ∧ 0 < k ∧ k < 1000000 ∧ DealAt H D dl ∧ ∀ H' x, Kp [D, dl] H H' → DealAt H' D dl → x < k → Q (.int (x : Nat)) H'
abbrev scAnyN : List Str := ["_law_deal", "_law_bound", "_law_rest"]
theorem scAny : FnScope scAnyN ["_law_deal", "_law_bound"] (defScope sAny) := ⟨rfl, rfl, rfl, by decide +kernel, rfl, by decide +kernel, by decide +kernel⟩
theorem ok_any (F : Fun K "_law_any" "_law_any" sAny f fd) (T : Txt mg) : FnOk P w K mg base CX0 1 f fd ["_law_deal", "_law_bound"] spAny := by
  refine F.ok scAny (fun vs H Q E h => ?_) (fun cdv A outer s H vs Q E hr h => ?_)
  · obtain ⟨D, dl, k, rfl, _⟩ := h
    rfl
  · obtain ⟨D, dl, k0, rfl, hk0, hk1, hD, k⟩ := h
    have hu64 : (A.deeper (envOfC "_law_any" (defScope sAny) s.heap.objs.size f cdv)).units + 64 < cLine := by have q := hr.un; omega
    refine ⟨_, (pss_cons (ps_while PassesOwn.never (PW.pt (pw_and (pt_cmpR (op_neD hu64) (pe_ix (ixL (K := K) rfl) (pv 0) pe_int (fun _ _ => rfl)) (pe_lst pa_nil) (nomark _)) (pw_and1 (pt_cmpR op_eq (pe_ix (ixL (K := K) rfl) (pe_ix (ixL (K := K) rfl) (pv 0) pe_int (fun _ _ => rfl)) (pe_un un_neg pe_int) (fun _ _ => rfl)) pe_int (nomark _)))))
      (pss_one (ps_expr (pe_bm0 PySem.F.plainAttrs_list PySem.F.slot_list_pop PySem.F.type_list_pop mt_pop (pe_ix (ixL (K := K) rfl) (pv 0) pe_int (fun _ _ => rfl))))))
      (pss_cons (ps_if (pt_cmpR (op_neD hu64) (pe_ix (ixL (K := K) rfl) (pv 0) pe_int (fun _ _ => rfl)) (pe_lst pa_nil) (nomark _)) (pss_cons (ps_set (i := 2) scAny.nd rfl (.inl rfl) (pe_callTy call_int1 (by rfl) T.int (by decide +kernel) (pa_cons (pe_bm0 PySem.F.plainAttrs_list PySem.F.slot_list_pop PySem.F.type_list_pop mt_pop (pe_ix (ixL (K := K) rfl) (pv 0) pe_int (fun _ _ => rfl))) pa_nil)))
      (pss_cons (ps_expr (pe_bm PySem.F.plainAttrs_list PySem.F.slot_list_append PySem.F.type_list_append mt_append (pe_ix (ixL (K := K) rfl) (pv 0) pe_int (fun _ _ => rfl)) (pa_cons (pe_op op_fdiv (pv 2) (pv 1)) pa_nil)))
      (pss_one (ps_ret (pe_op op_mod (pv 2) (pv 1)))))) pss_nil)
      (pss_cons (ps_asg (pe_op op_mod (pe_callTy call_int1 (by rfl) T.int (by decide +kernel) (pa_cons (pe_op op_add (pe_op op_mul (pe_ix (ixL (K := K) rfl) (pv 0) pe_int (fun _ _ => rfl)) pe_int) pe_int) pa_nil)) pe_int) (pg_sub (pv 0) pe_int set_list))
      (pss_one (ps_ret (pe_op op_mod (pe_callTy call_int1 (by rfl) T.int (by decide +kernel) (pa_cons (pe_op op_fdiv (pe_ix (ixL (K := K) rfl) (pv 0) pe_int (fun _ _ => rfl)) pe_int) pa_nil)) (pv 1))))))), ?_⟩
    have ne := hD.ne
    have tst : ∀ (H' : Hp) (ns : List Int) (b : Int) (e : Addr), H' D = some (.lst [.ref dl, .int b]) → H' dl = some (.lst (ilst ns)) → H' e = none → Dp K (upd H' e (.lst [])) (.ref dl) (.list (ns.map .int)) ∧ Dp K (upd H' e (.lst [])) (.ref e) (.list []) := fun H' ns b e h1 h2 h3 =>
      ⟨.lst (SqL.of (by rw [upd_ne (ne_of_none h2 h3)]; exact h2)) (dpInts K _ ns), .lst (SqL.of upd_same) .nil⟩
    have inD : D ∈ [D, dl] := List.mem_cons_self
    have inl : dl ∈ [D, dl] := List.mem_cons_of_mem _ List.mem_cons_self
    refine seq_p (fun st H' => Kp [D, dl] H H' ∧ (∃ b ns, H' D = some (.lst [.ref dl, .int b]) ∧ H' dl = some (.lst (ilst ns)) ∧ ns.length ≤ 1000) ∧ ∃ j, st = [some (.ref D), some (.int (k0 : Int)), j]) ?_ ?_
    · -- behind the loop
      rintro st H1 ⟨kp, ⟨b, ns, h1, h2, h3⟩, j, rfl⟩
      refine ⟨_, rfl, D, _, _, _, rfl, rfl, SqL.of h1, atI_nat (j := 0) rfl, Nat.zero_le _, fun e he => ?_⟩
      have s1 : Same H1 (upd H1 e (.lst [])) := same_new (fun _ _ e => e) he
      obtain ⟨q1, q2⟩ := tst H1 ns b e h1 h2 he
      refine ⟨_, _, q1, q2, shaped_ints ns, shaped_ints [], _, rfl, ?_⟩
      rw [eqv_nil]
      have h1' := s1 _ _ h1
      have h2' := s1 _ _ h2
      have kp1 := kp.trans (Kp.of_same (l := [D, dl]) s1)
      revert h1' h2' kp1
      generalize upd H1 e (.lst []) = H2
      intro h1' h2' kp1
      have hk : (0 : Int) < (k0 : Int) := by omega
      cases ns with
      | nil =>
        refine iteF ?_
        refine ⟨_, rfl, D, _, _, _, rfl, rfl, SqL.of h1', atI_nat (j := 1) rfl, _, _, rfl, rfl, .inr ⟨by decide, by decide⟩, _, _, rfl, rfl, .inl ⟨_, rfl, _, _, rfl, rfl, (by show (0 : Int) < 2147483647; decide), ?_⟩⟩
        refine ⟨_, rfl, D, _, _, 1, rfl, rfl, h1', rfl, ?_⟩
        refine ⟨_, rfl, D, _, _, _, rfl, rfl, SqL.of upd_same, atI_nat (j := 1) rfl, _, _, rfl, rfl, ⟨by decide, by decide⟩, .inl ⟨_, rfl, _, rfl, _, _, rfl, rfl, hk, ?_⟩⟩
        obtain ⟨x, hx, ex⟩ := mod_nat ((b * 40693 + 71) % 2147483647 / 64) hk0
        show Q (.int ((b * 40693 + 71) % 2147483647 / 64 % (k0 : Int))) _
        rw [ex]
        exact k _ x (Kp.upd kp1 (.inl inD)) ⟨_, [], upd_same, by rw [upd_ne ne.symm]; exact h2', Nat.zero_le _⟩ hx
      | cons y r =>
        refine iteT ?_
        obtain ⟨zs, z, ez⟩ : ∃ zs z, y :: r = zs ++ [z] := ⟨(y :: r).dropLast, (y :: r).getLast (by simp), (List.dropLast_concat_getLast (by simp)).symm⟩
        rw [ez] at h2' h3
        have el : ilst (zs ++ [z]) = ilst zs ++ [.int z] := by unfold ilst; rw [List.map_append]; rfl
        rw [el] at h2'
        rw [List.length_append] at h3
        have h3' : zs.length + 1 ≤ 1000 := h3
        refine ⟨_, rfl, D, _, _, _, rfl, rfl, SqL.of h1', atI_nat (j := 0) rfl, .inl ⟨rfl, _, SqL.of h2'⟩, dl, _, _, rfl, rfl, h2', ?_, .inl ⟨z, rfl, ?_⟩⟩
        · rw [List.length_append]
          show (ilst zs ++ [V.int z])[(ilst zs).length + 1 - 1]? = some (.int z)
          rw [Nat.add_sub_cancel, List.getElem?_append_right (Nat.le_refl _), Nat.sub_self]
          rfl
        rw [List.dropLast_concat]
        have hD3 : upd H2 dl (.lst (ilst zs)) D = some (.lst [.ref dl, .int b]) := by rw [upd_ne ne]; exact h1'
        refine ⟨_, rfl, D, _, _, _, rfl, rfl, SqL.of hD3, atI_nat (j := 0) rfl, .inl ⟨rfl, _, SqL.of upd_same⟩, _, rfl, _, rfl, _, _, rfl, rfl, ⟨hk, by show (k0 : Int) < 1073741824; omega⟩, dl, _, _, rfl, rfl, upd_same, by rw [ilst_len]; exact small (by omega), ?_⟩
        refine ⟨_, rfl, _, rfl, _, _, rfl, rfl, hk, ?_⟩
        obtain ⟨x, hx, ex⟩ := mod_nat z hk0
        show Q (.int (z % (k0 : Int))) _
        rw [ex]
        refine k _ x (Kp.upd (Kp.upd kp1 (.inl inl)) (.inl inl)) ⟨b, zs ++ [z / k0], by rw [upd_ne ne]; exact hD3, ?_, by rw [List.length_append]; exact h3'⟩ hx
        rw [upd_same]
        unfold ilst
        rw [List.map_append]
        rfl
    · -- the loop
      intro NX hNX
      refine ⟨fun mu st H' => Kp [D, dl] H H' ∧ (∃ b ns, H' D = some (.lst [.ref dl, .int b]) ∧ H' dl = some (.lst (ilst ns)) ∧ ns.length ≤ 1000 ∧ mu = ns.length) ∧ ∃ j, st = [some (.ref D), some (.int (k0 : Int)), j], ?_, ?_⟩
      · obtain ⟨b, ns, h1, h2, h3⟩ := id hD
        exact ⟨ns.length, Kp.refl _ _, ⟨b, ns, h1, h2, h3, rfl⟩, _, rfl⟩
      · rintro mu st H1 ⟨kp, ⟨b, ns, h1, h2, h3, rfl⟩, j, rfl⟩
        refine ⟨_, rfl, D, _, _, _, rfl, rfl, SqL.of h1, atI_nat (j := 0) rfl, Nat.zero_le _, fun e he => ?_⟩
        have s1 : Same H1 (upd H1 e (.lst [])) := same_new (fun _ _ e => e) he
        obtain ⟨q1, q2⟩ := tst H1 ns b e h1 h2 he
        refine ⟨_, _, q1, q2, shaped_ints ns, shaped_ints [], _, rfl, ?_⟩
        rw [eqv_nil]
        have h1' := s1 _ _ h1
        have h2' := s1 _ _ h2
        have kp1 := kp.trans (Kp.of_same (l := [D, dl]) s1)
        revert h1' h2' kp1
        generalize upd H1 e (.lst []) = H2
        intro h1' h2' kp1
        cases ns with
        | nil => exact iteF (iteF (hNX _ _ ⟨kp1, ⟨b, [], h1', h2', h3⟩, _, rfl⟩))
        | cons y r =>
          refine iteT ?_
          obtain ⟨zs, z, ez⟩ : ∃ zs z, y :: r = zs ++ [z] := ⟨(y :: r).dropLast, (y :: r).getLast (by simp), (List.dropLast_concat_getLast (by simp)).symm⟩
          rw [ez] at h2' h3 ⊢
          have el : ilst (zs ++ [z]) = ilst zs ++ [.int z] := by unfold ilst; rw [List.map_append]; rfl
          have h4 := h2'
          rw [el] at h2'
          rw [List.length_append] at h3
          have h3' : zs.length + 1 ≤ 1000 := h3
          refine ⟨_, rfl, D, _, _, _, rfl, rfl, SqL.of h1', atI_nat (j := 0) rfl, 1, rfl, dl, _, _, _, rfl, rfl, SqL.of h2', atI_last _ _, rfl, _, rfl, ?_⟩
          refine ite2 (fun _ => ?_) (fun _ => hNX _ _ ⟨kp1, ⟨b, zs ++ [z], h1', h4, by rw [List.length_append]; exact h3'⟩, _, rfl⟩)
          refine ⟨fun st' H' => ∃ m', m' < (zs ++ [z]).length ∧ (Kp [D, dl] H H' ∧ (∃ b ns, H' D = some (.lst [.ref dl, .int b]) ∧ H' dl = some (.lst (ilst ns)) ∧ ns.length ≤ 1000 ∧ m' = ns.length) ∧ ∃ j, st' = [some (.ref D), some (.int (k0 : Int)), j]), fun _ _ h => h, ?_⟩
          refine ⟨_, rfl, D, _, _, _, rfl, rfl, SqL.of h1', atI_nat (j := 0) rfl, .inl ⟨rfl, _, SqL.of h2'⟩, dl, _, .int z, rfl, rfl, h2', ?_, ?_⟩
          · rw [List.length_append]
            show (ilst zs ++ [V.int z])[(ilst zs).length + 1 - 1]? = some (.int z)
            rw [Nat.add_sub_cancel, List.getElem?_append_right (Nat.le_refl _), Nat.sub_self]
            rfl
          · rw [List.dropLast_concat]
            exact ⟨zs.length, by rw [List.length_append]; exact Nat.lt_succ_self _, Kp.upd kp1 (.inl inl), ⟨b, zs, by rw [upd_ne ne]; exact h1', upd_same, by omega, rfl⟩, _, rfl⟩
end
end K53
namespace K53
open PySem PySem.Spec PyProof.Rows L2 L2.KR
theorem pi_listK {X : Cx} {K : PySem.W.Frag} {tg l : Expr} {tl : TE} (h : X.K = K) (hl : PE X l tl) : PI X tg l (iList K tl) := by
  subst h
  exact pi_list hl
theorem pi_tupK {X : Cx} {K : PySem.W.Frag} {tg l : Expr} {tl : TE} (h : X.K = K) (hl : PE X l tl) : PI X tg l (iTup K tl) := by
  subst h
  exact pi_tup hl
theorem erase_map {α β : Type} (f : α → β) : ∀ (l : List α) (i : Nat), (l.map f).eraseIdx i = (l.eraseIdx i).map f
  | [], _ => rfl
  | _ :: _, 0 => rfl
  | x :: r, i + 1 => by
    rw [List.map_cons, List.eraseIdx_cons_succ, List.eraseIdx_cons_succ, List.map_cons, erase_map f r i]
def scColsIn : Scope := { kind := .function, names := [(".0", .local), ("_law_state", .cell), ("_law_columns_here", .cell)], isGenerator := false, isCoroutine := false }
def compSc : Expr → Scope
  | .ListComp _ _ sc _ => sc
  | _ => defScope sLaw
section
variable {P : Program} {w : World} {K : PySem.W.Frag} {mg : Str → Option Value} {base : Heap} {f C PT : Addr} {fd : FuncData}
def spOf : Sp := fun vs H Q _ => ∃ (D dl l : Addr) (xs : List V), vs = [.ref D, .ref l] ∧ DealAt H D dl ∧ H l = some (.lst xs) ∧ l ∉ [D, dl] ∧ 0 < xs.length ∧ xs.length ≤ 1000 ∧ ∀ H' x, Kp [D, dl] H H' → DealAt H' D dl → x ∈ xs → Q x H'
abbrev scOfN : List Str := ["_law_deal", "_law_some"]
theorem scOf : FnScope scOfN ["_law_deal", "_law_some"] (defScope sOf) := ⟨rfl, rfl, rfl, by decide +kernel, rfl, by decide +kernel, by decide +kernel⟩
theorem ok_of (F : Fun K "_law_of" "_law_of" sOf f fd) (T : Txt mg) (cAny : Df P w K mg base 1 "_law_any" ["_law_deal", "_law_bound"] spAny) : FnOk P w K mg base CX0 2 f fd ["_law_deal", "_law_some"] spOf := by
  refine F.ok scOf (fun vs H Q E h => ?_) (fun cdv A outer s H vs Q E hr h => ?_)
  · obtain ⟨D, dl, l, xs, rfl, _⟩ := h
    rfl
  · obtain ⟨D, dl, l, xs, rfl, hD, hl, nl, h0, h1, k⟩ := h
    refine ⟨_, (pss_one (ps_ret (pe_ix (ixL (K := K) rfl) (pv 1) (pe_df cAny hr (by decide) rfl (pa_cons (pv 0) (pa_cons (pe_callB (lenK (K := K) rfl) (by rfl) T.len PySem.boot_len (pa_cons (pv 1) pa_nil)) pa_nil))) (fun _ _ => rfl)))), ?_⟩
    refine ⟨_, rfl, _, rfl, _, rfl, l, xs, rfl, .inl (SqL.of hl), D, dl, xs.length, rfl, h0, by omega, hD, fun H' x kp hd hx => ?_⟩
    exact ⟨l, _, _, xs[x], rfl, rfl, SqL.of (kp _ _ hl nl), atI_nat (List.getElem?_eq_getElem hx), k H' _ kp hd (List.getElem_mem hx)⟩
def spMixed : Sp := fun vs H Q _ => ∃ (D dl l : Addr) (xs : List Nat), vs = [.ref D, .ref l] ∧ DealAt H D dl ∧ H l = some (.lst (nts xs)) ∧ xs.length ≤ 1000 ∧ ∀ H' r ys, Kp [D, dl] H H' → DealAt H' D dl → H r = none → H' r = some (.lst (nts ys)) → ys.length = xs.length → (∀ y ∈ ys, y ∈ xs) → Q (.ref r) H'
abbrev scMixedN : List Str := ["_law_deal", "_law_some", "_law_left", "_law_found"]
theorem scMixed : FnScope scMixedN ["_law_deal", "_law_some"] (defScope sMixed) := ⟨rfl, rfl, rfl, by decide +kernel, rfl, by decide +kernel, by decide +kernel⟩
theorem ok_mixed (F : Fun K "_law_mixed" "_law_mixed" sMixed f fd) (T : Txt mg) (cAny : Df P w K mg base 1 "_law_any" ["_law_deal", "_law_bound"] spAny) : FnOk P w K mg base CX0 2 f fd ["_law_deal", "_law_some"] spMixed := by
  refine F.ok scMixed (fun vs H Q E h => ?_) (fun cdv A outer s H vs Q E hr h => ?_)
  · obtain ⟨D, dl, l, xs, rfl, _⟩ := h
    rfl
  · obtain ⟨D, dl, l, xs, rfl, hD, hl, h1, k⟩ := h
    have hu64 : (A.deeper (envOfC "_law_mixed" (defScope sMixed) s.heap.objs.size f cdv)).units + 64 < cLine := by have q := hr.un; omega
    refine ⟨_, (pss_cons (ps_par (i := 2) (j := 3) (by rfl) scMixed.nd rfl rfl (by decide) rfl rfl (pa_cons (pe_callTy call_list_of (by rfl) T.list (by decide +kernel) (pa_cons (pv 1) pa_nil)) (pa_cons (pe_lst pa_nil) pa_nil)) (by rfl))
      (pss_cons (ps_while PassesOwn.never (pt_cmpR (op_neD hu64) (pv 2) (pe_lst pa_nil) (nomark _))
      (pss_one (ps_expr (pe_bm PySem.F.plainAttrs_list PySem.F.slot_list_append PySem.F.type_list_append mt_append (pv 3) (pa_cons (pe_bm PySem.F.plainAttrs_list PySem.F.slot_list_pop PySem.F.type_list_pop mt_popAt (pv 2) (pa_cons (pe_df cAny hr (by decide) rfl (pa_cons (pv 0) (pa_cons (pe_callB (lenK (K := K) rfl) (by rfl) T.len PySem.boot_len (pa_cons (pv 2) pa_nil)) pa_nil))) pa_nil)) pa_nil)))))
      (pss_one (ps_ret (pv 3))))), ?_⟩
    obtain ⟨b0, ns0, d1, d2, _⟩ := id hD
    have nts_i : ∀ l : List Nat, nts l = ilst (l.map fun x : Nat => (x : Int)) := fun l => by
      unfold nts ilst
      rw [List.map_map]
      rfl
    refine ⟨_, rfl, l, _, rfl, .inl (SqL.of hl), fun a ha => ⟨Nat.zero_le _, fun b hb => ⟨_, _, rfl, ?_⟩⟩⟩
    have hab : a ≠ b := fun z => by rw [← z, upd_same] at hb; cases hb
    have s2 : Same H (upd (upd H a (.lst (nts xs))) b (.lst [])) := same_new (same_new (fun _ _ e => e) ha) hb
    have hb0 : H b = none := by rw [upd_ne hab.symm] at hb; exact hb
    have na : a ∉ [D, dl] := fun z => by
      simp only [List.mem_cons, List.not_mem_nil, or_false] at z
      rcases z with z | z
      · rw [z, d1] at ha; cases ha
      · rw [z, d2] at ha; cases ha
    have nb : b ∉ [D, dl] := fun z => by
      simp only [List.mem_cons, List.not_mem_nil, or_false] at z
      rcases z with z | z
      · rw [z, d1] at hb0; cases hb0
      · rw [z, d2] at hb0; cases hb0
    refine ⟨fun mu st H' => Kp [D, dl] H H' ∧ DealAt H' D dl ∧ (∃ zs ys, H' a = some (.lst (nts zs)) ∧ H' b = some (.lst (nts ys)) ∧ mu = zs.length ∧ zs.length + ys.length = xs.length ∧ (∀ z ∈ zs, z ∈ xs) ∧ ∀ y ∈ ys, y ∈ xs) ∧ st = [some (.ref D), some (.ref l), some (.ref a), some (.ref b)],
      ⟨xs.length, Kp.of_same s2, hD.same s2, ⟨xs, [], by rw [upd_ne hab]; exact upd_same, upd_same, rfl, rfl, fun z h => h, fun _ h => absurd h List.not_mem_nil⟩, rfl⟩, ?_⟩
    rintro mu st H1 ⟨kp, hd, ⟨zs, ys, ea, eb, rfl, hlen, hz, hy⟩, rfl⟩
    refine ⟨_, rfl, Nat.zero_le _, fun e he => ?_⟩
    have s3 : Same H1 (upd H1 e (.lst [])) := same_new (fun _ _ e => e) he
    have q1 : Dp K (upd H1 e (.lst [])) (.ref a) (.list ((zs.map fun x : Nat => (x : Int)).map .int)) := .lst (SqL.of (by rw [← nts_i]; exact s3 _ _ ea)) (dpInts K _ _)
    have q2 : Dp K (upd H1 e (.lst [])) (.ref e) (.list []) := .lst (SqL.of upd_same) .nil
    refine ⟨_, _, q1, q2, shaped_ints _, shaped_ints [], _, rfl, ?_⟩
    rw [eqv_nil]
    have kp1 := kp.trans (Kp.of_same (l := [D, dl]) s3)
    have hd1 := hd.same s3
    have ea1 := s3 _ _ ea
    have eb1 := s3 _ _ eb
    revert kp1 hd1 ea1 eb1
    generalize upd H1 e (.lst []) = H2
    intro kp1 hd1 ea1 eb1
    cases zs with
    | nil =>
      refine iteF ⟨_, rfl, ?_⟩
      exact k H2 b ys kp1 hd1 hb0 eb1 (by rw [← hlen]; exact (Nat.zero_add _).symm) hy
    | cons z0 zr =>
      refine iteT ⟨fun st' H' => ∃ m', m' < (z0 :: zr).length ∧ (Kp [D, dl] H H' ∧ DealAt H' D dl ∧ (∃ zs ys, H' a = some (.lst (nts zs)) ∧ H' b = some (.lst (nts ys)) ∧ m' = zs.length ∧ zs.length + ys.length = xs.length ∧ (∀ z ∈ zs, z ∈ xs) ∧ ∀ y ∈ ys, y ∈ xs) ∧ st' = [some (.ref D), some (.ref l), some (.ref a), some (.ref b)]), fun _ _ h => h, ?_⟩
      have hl1 : (z0 :: zr).length ≤ 1000 := by omega
      refine ⟨_, rfl, .inl ⟨rfl, _, SqL.of eb1⟩, _, rfl, .inl ⟨rfl, _, SqL.of ea1⟩, _, rfl, _, rfl, a, _, rfl, .inl (SqL.of ea1), D, dl, (nts (z0 :: zr)).length, rfl, by rw [nts_len]; exact Nat.succ_pos _, by rw [nts_len]; omega, hd1, fun H3 x kp3 hd3 hx => ?_⟩
      rw [nts_len] at hx
      have ea3 := kp3 _ _ ea1 na
      have eb3 := kp3 _ _ eb1 nb
      have hget : (z0 :: zr)[x]? = some (z0 :: zr)[x] := List.getElem?_eq_getElem hx
      have hin : (z0 :: zr)[x] ∈ xs := hz _ (List.getElem_mem hx)
      refine ⟨a, _, (x : Int), x, .int ((z0 :: zr)[x] : Nat), rfl, rfl, ea3, by omega, by omega, ?_, nts_get hget, ?_⟩
      · unfold seqIndex?
        rw [nts_len]
        simp only [show ¬ ((x : Int) < 0) by omega, if_false]
        rw [if_pos (by rw [Bool.and_eq_true]; exact ⟨decide_eq_true (by omega), decide_eq_true (by omega)⟩)]
        simp
      · have ee : (nts (z0 :: zr)).eraseIdx x = nts ((z0 :: zr).eraseIdx x) := by
          exact erase_map _ _ _
        rw [ee]
        have le : ((z0 :: zr).eraseIdx x).length = zr.length := by
          rw [List.length_eraseIdx]
          simp only [List.length_cons] at hx ⊢
          rw [if_pos hx]
          omega
        refine ⟨b, _, _, rfl, rfl, by rw [upd_ne hab.symm]; exact eb3, ?_, ?_⟩
        · rw [nts_len]
          simp only [List.length_cons]
                                                                      at hlen
          exact small (by omega)
        · refine ⟨((z0 :: zr).eraseIdx x).length, by rw [le]; exact Nat.lt_succ_self _, Kp.updF (Kp.updF (kp1.trans kp3) ha) hb0, ?_, ⟨(z0 :: zr).eraseIdx x, ys ++ [(z0 :: zr)[x]], ?_, ?_, rfl, ?_, fun z hz' => hz z (List.mem_of_mem_eraseIdx hz'), fun y hy' => ?_⟩, rfl⟩
          · obtain ⟨b', ns', z1, z2, z3⟩ := hd3
            have in1 : D ∈ [D, dl] := List.mem_cons_self
            have in2 : dl ∈ [D, dl] := List.mem_cons_of_mem _ List.mem_cons_self
            refine ⟨b', ns', ?_, ?_, z3⟩
            · rw [upd_ne (show D ≠ b from fun z => nb (by rw [← z]; exact in1)), upd_ne (show D ≠ a from fun z => na (by rw [← z]; exact in1))]
              exact z1
            · rw [upd_ne (show dl ≠ b from fun z => nb (by rw [← z]; exact in2)), upd_ne (show dl ≠ a from fun z => na (by rw [← z]; exact in2))]
              exact z2
          · rw [upd_ne hab]
            exact upd_same
          · rw [upd_same]
            unfold nts
            rw [List.map_append]
            rfl
          · rw [le, List.length_append]
            simp only [List.length_cons]
                                                                        at hlen
            show zr.length + (ys.length + 1) = xs.length
            omega
          · rcases List.mem_append.mp hy' with h | h
            · exact hy y h
            · rw [List.mem_singleton.mp h]
              exact hin
/-- the columns as rows -/
def spCols : Sp := fun vs H Q _ => ∃ (l : Addr) (cs : List Addr) (cols : List (List Nat)) (n : Nat), vs = [.ref l] ∧ H l = some (.lst (cs.map V.ref)) ∧ ListsAt H cs cols ∧ 1 ≤ cols.length ∧ cols.length ≤ 3 ∧ n ≤ 4 ∧ (∀ c ∈ cols, c.length = n ∧ ∀ x ∈ c, x < n) ∧
  ∀ H' r rs rows, Same H H' → H r = none → (∀ q ∈ rs, H q = none) → H' r = some (.lst (rs.map V.ref)) → ListsAt H' rs rows → rows.length = n → (∀ row ∈ rows, row.length = cols.length ∧ ∀ x ∈ row, x < n) → Q (.ref r) H'
abbrev scColsN : List Str := ["_law_columns_here", "_law_state", "_law_column_here"]
theorem scCols : FnScope scColsN ["_law_columns_here"] (defScope sColumns) := ⟨rfl, rfl, rfl, by decide +kernel, rfl, by decide +kernel, by decide +kernel⟩
theorem ok_cols (F : Fun K "_law_columns" "_law_columns" sColumns f fd) (T : Txt mg) : FnOk P w K mg base CX0 1 f fd ["_law_columns_here"] spCols := by
  refine F.ok scCols (fun vs H Q E h => ?_) (fun cdv A outer s H vs Q E hr h => ?_)
  · obtain ⟨l, cs, cols, n, rfl, _⟩ := h
    rfl
  · obtain ⟨l, cs, cols, n, rfl, hl, hcs, hc1, hc3, hn, hcol, k⟩ := h
    refine ⟨_, (pss_one (ps_ret (pe_lc (own := [("_law_state", 1)]) (g := gName 1) (tt := tYes) (by rfl) scCols.nd (pi_range1 (by rfl) T.range (pa_cons (pe_callB (lenK (K := K) rfl) (by rfl) T.len PySem.boot_len (pa_cons (pe_ix (ixL (K := K) rfl) (pv 0) pe_int (fun _ _ => rfl)) pa_nil)) pa_nil)) (blkOk_by (own := [("_law_state", 1)]) (N := scColsN) (sc := defScope sColumns) (by decide +kernel)) (fun _ _ _ _ _ => pg_name (i := 1) scCols.nd rfl (Or.inr rfl)) (fun _ _ _ _ _ => pts_nil) (fun _ _ _ _ _ => (pe_lc (own := [("_law_column_here", 2)]) (g := gName 2) (tt := tYes) (by rfl) scCols.nd (pi_listK (K := K) rfl (pv 0)) (blkOk_by (own := [("_law_column_here", 2)]) (N := scColsN) (sc := scColsIn) (by decide +kernel)) (fun _ _ _ _ _ => pg_name (i := 2) scCols.nd rfl (Or.inl rfl)) (fun _ _ _ _ _ => pts_nil) (fun _ _ _ _ _ => (pe_ix (ixL (K := K) rfl) (pv 2) (pv 1) (fun _ _ => rfl)))))))), ?_⟩
    obtain ⟨c0, g1, g2, g3⟩ := hcs.row (s := 0) (by omega)
    have hc0 : cols.getD 0 [] ∈ cols := by
      have e : cols.getD 0 [] = cols[0]'(by omega) := by simp [List.getD, List.getElem?_eq_getElem (show 0 < cols.length by omega)]
      rw [e]
      exact List.getElem_mem _
    refine ⟨_, rfl, l, _, _, _, rfl, rfl, SqL.of hl, atI_nat (j := 0) g2, c0, _, rfl, .inl (SqL.of g3), _, rfl, ?_, ?_, fun R hR => ?_⟩
    · rw [nts_len]; omega
    · rw [nts_len, (hcol _ hc0).1]; omega
    rw [nts_len, (hcol _ hc0).1, show ((n : Int).toNat) = n by omega]
    refine lc_range (lo := 0) (n := n) (fun i H' => Same H H' ∧ ∃ rs rows, H' R = some (.lst (rs.map V.ref)) ∧ ListsAt H' rs rows ∧ rows.length = i ∧ (∀ q ∈ rs, H q = none ∧ q ≠ R) ∧ ∀ row ∈ rows, row.length = cols.length ∧ ∀ x ∈ row, x < n)
      ⟨same_new (fun _ _ e => e) hR, [], [], upd_same, .nil, rfl, fun _ h => absurd h List.not_mem_nil, fun _ h => absurd h List.not_mem_nil⟩ ?_ ?_
    · rintro i H1 hi ⟨s1, rs, rows, e1, l1, n1, f1, r1⟩
      have ei : ((0 : Int) + (i : Nat)) = (i : Int) := by omega
      rw [ei]
      refine ⟨rfl, ?_⟩
      refine ⟨_, rfl, l, rfl, ⟨_, SqL.of (s1 _ _ hl)⟩, fun G hG => ?_⟩
      refine lc_list (K := K) (a := l) (xs := cs.map V.ref) (fun j H' => Same H1 H' ∧ ∃ row : List Nat, H' G = some (.lst (nts row)) ∧ row.length = j ∧ ∀ x ∈ row, x < n) ⟨same_new (fun _ _ e => e) hG, [], upd_same, rfl, fun _ h => absurd h List.not_mem_nil⟩ (fun j H' _ q => SqL.of (q.1 _ _ (s1 _ _ hl))) ?_ ?_
      · rintro j x H2 hj ⟨s2, row, e2, l2, b2⟩
        have hjl : j < cols.length := by
          have q := (List.getElem?_eq_some_iff.mp hj).1
          rw [List.length_map, ListsAt.len hcs] at q
          exact q
        obtain ⟨c, k1, k2, k3⟩ := hcs.row hjl
        rw [k2] at hj
        cases hj
        have ec : cols.getD j [] = cols[j] := by simp [List.getD, List.getElem?_eq_getElem hjl]
        obtain ⟨w1, w2⟩ := hcol _ (List.getElem_mem hjl)
        rw [← ec] at w1 w2
        have hil : i < (cols.getD j []).length := by rw [w1]; exact hi
        refine ⟨rfl, ?_⟩
        refine ⟨_, rfl, _, rfl, c, _, _, _, rfl, rfl, SqL.of (s2 _ _ (s1 _ _ k3)), atI_nat (nts_get (List.getElem?_eq_getElem hil)), ?_⟩
        refine ⟨_, e2, by rw [nts_len]; exact small (by omega), same_updF s2 hG, row ++ [(cols.getD j [])[i]], ?_, by rw [List.length_append, l2]; rfl, fun x hx => ?_⟩
        · rw [upd_same]
          unfold nts
          rw [List.map_append]
          rfl
        · rcases List.mem_append.mp hx with h | h
          · exact b2 x h
          · rw [List.mem_singleton.mp h]
            exact w2 _ (List.getElem_mem hil)
      · rintro H2 ⟨s2, row, e2, l2, b2⟩
        rw [List.length_map, ListsAt.len hcs] at l2
        have eR := s2 _ _ e1
        have lr := Paired.len l1
        have GR : G ≠ R := fun z => by rw [z, e1] at hG; cases hG
        refine ⟨_, eR, by rw [List.length_map]; exact small (by omega), same_updF (s1.trans s2) hR, rs ++ [G], rows ++ [row], ?_, ?_, by rw [List.length_append, n1]; rfl, fun q hq => ?_, fun row' hr' => ?_⟩
        · rw [upd_same, List.map_append]
          rfl
        · refine Paired.snoc (Paired.imp l1 fun a b ha e => ?_) ?_
          · rw [upd_ne (show a ≠ R from (f1 a ha).2)]
            exact s2 _ _ e
          · rw [upd_ne GR]
            exact e2
        · rcases List.mem_append.mp hq with h | h
          · exact f1 q h
          · rw [List.mem_singleton.mp h]
            exact ⟨s1.free hG, GR⟩
        · rcases List.mem_append.mp hr' with h | h
          · exact r1 row' h
          · rw [List.mem_singleton.mp h]
            exact ⟨l2, b2⟩
    · rintro H1 ⟨s1, rs, rows, e1, l1, n1, f1, r1⟩
      exact k H1 R rs rows s1 hR (fun q hq => (f1 q hq).1) e1 l1 n1 r1
def spCol : Sp := fun vs H Q _ => ∃ (D dl : Addr) (form many : Nat), vs = [.ref D, .int (form : Int), .int (many : Int)] ∧ DealAt H D dl ∧ 1 ≤ many ∧ many ≤ 4 ∧ ∀ H' r col, Kp [D, dl] H H' → DealAt H' D dl → H r = none → H' r = some (.lst (nts col)) → col.length = many → (∀ x ∈ col, x < many) → Q (.ref r) H'
abbrev scColN : List Str := ["_law_deal", "_law_form", "_law_many", "_law_to", "_law_half", "_law_state"]
theorem scCol : FnScope scColN ["_law_deal", "_law_form", "_law_many"] (defScope sColumn) := ⟨rfl, rfl, rfl, by decide +kernel, rfl, by decide +kernel, by decide +kernel⟩
theorem ok_col (F : Fun K "_law_column" "_law_column" sColumn f fd) (T : Txt mg) (cAny : Df P w K mg base 1 "_law_any" ["_law_deal", "_law_bound"] spAny) (cMix : Df P w K mg base 2 "_law_mixed" ["_law_deal", "_law_some"] spMixed) : FnOk P w K mg base CX0 3 f fd ["_law_deal", "_law_form", "_law_many"] spCol := by
  refine F.ok scCol (fun vs H Q E h => ?_) (fun cdv A outer s H vs Q E hr h => ?_)
  · obtain ⟨D, dl, form, many, rfl, _⟩ := h
    rfl
  · obtain ⟨D, dl, form, many, rfl, hD, hm1, hm4, k⟩ := h
    refine ⟨_, (pss_cons (ps_set (i := 3) scCol.nd rfl (.inr rfl) (pe_df cAny hr (by decide) rfl (pa_cons (pv 0) (pa_cons (pv 2) pa_nil))))
      (pss_cons (ps_if (pt_cmpR op_eq (pv 1) pe_int (nomark _)) (pss_one (ps_ret (pe_lc (own := [("_law_state", 5)]) (g := gName 5) (tt := tYes) (by rfl) scCol.nd (pi_range1 (by rfl) T.range (pa_cons (pv 2) pa_nil)) (blkOk_by (own := [("_law_state", 5)]) (N := scColN) (sc := defScope sColumn) (by decide +kernel)) (fun _ _ _ _ _ => pg_name (i := 5) scCol.nd rfl (Or.inl rfl)) (fun _ _ _ _ _ => pts_nil) (fun _ _ _ _ _ => (pe_op op_mod (pe_callTy call_int1 (by rfl) T.int (by decide +kernel) (pa_cons (pe_op op_add (pv 5) (pv 3)) pa_nil)) (pv 2)))))) pss_nil)
      (pss_cons (ps_if (pt_cmpR op_eq (pv 1) pe_int (nomark _)) (pss_one (ps_ret (pe_op op_rep (pe_lst (pa_cons (pv 3) pa_nil)) (pv 2)))) pss_nil)
      (pss_cons (ps_if (pt_cmpR op_eq (pv 1) pe_int (nomark _)) (pss_one (ps_ret (pe_lc (own := [("_law_state", 5)]) (g := gName 5) (tt := tYes) (by rfl) scCol.nd (pi_range1 (by rfl) T.range (pa_cons (pv 2) pa_nil)) (blkOk_by (own := [("_law_state", 5)]) (N := scColN) (sc := defScope sColumn) (by decide +kernel)) (fun _ _ _ _ _ => pg_name (i := 5) scCol.nd rfl (Or.inl rfl)) (fun _ _ _ _ _ => pts_nil) (fun _ _ _ _ _ => (pe_ifExp (pt_cmpR op_eq (pv 5) pe_int (nomark _)) (pv 3) (pv 5)))))) pss_nil)
      (pss_cons (ps_if (pt_cmpR op_eq (pv 1) pe_int (nomark _)) (pss_one (ps_ret (pe_lc (own := [("_law_state", 5)]) (g := gName 5) (tt := tYes) (by rfl) scCol.nd (pi_range1 (by rfl) T.range (pa_cons (pv 2) pa_nil)) (blkOk_by (own := [("_law_state", 5)]) (N := scColN) (sc := defScope sColumn) (by decide +kernel)) (fun _ _ _ _ _ => pg_name (i := 5) scCol.nd rfl (Or.inl rfl)) (fun _ _ _ _ _ => pts_nil) (fun _ _ _ _ _ => (pe_callB (call_max2 rfl) (by rfl) T.max (by decide +kernel) (pa_cons pe_int (pa_cons (pe_callB (call_min2 rfl) (by rfl) T.min (by decide +kernel) (pa_cons (pe_op op_sub (pv 2) pe_int) (pa_cons (pe_op op_sub (pe_op op_add (pv 5) (pv 3)) pe_int) pa_nil))) pa_nil))))))) pss_nil)
      (pss_cons (ps_if (pt_cmpR op_eq (pv 1) pe_int (nomark _)) (pss_one (ps_ret (pe_df cMix hr (by decide) rfl (pa_cons (pv 0) (pa_cons (pe_listRg rfl (by rfl) T.list (prg_1 (by rfl) T.range (pv 2))) pa_nil))))) pss_nil)
      (pss_cons (ps_if (pt_cmpR op_eq (pv 1) pe_int (nomark _)) (pss_one (ps_ret (pe_lc (own := [("_law_state", 5)]) (g := gName 5) (tt := tYes) (by rfl) scCol.nd (pi_range1 (by rfl) T.range (pa_cons (pv 2) pa_nil)) (blkOk_by (own := [("_law_state", 5)]) (N := scColN) (sc := defScope sColumn) (by decide +kernel)) (fun _ _ _ _ _ => pg_name (i := 5) scCol.nd rfl (Or.inl rfl)) (fun _ _ _ _ _ => pts_nil) (fun _ _ _ _ _ => (pe_callB (call_max2 rfl) (by rfl) T.max (by decide +kernel) (pa_cons (pv 5) (pa_cons (pv 3) pa_nil))))))) pss_nil)
      (pss_cons (ps_if (pt_cmpR op_eq (pv 1) pe_int (nomark _)) (pss_cons (ps_set (i := 4) scCol.nd rfl (.inr rfl) (pe_callB (call_max2 rfl) (by rfl) T.max (by decide +kernel) (pa_cons pe_int (pa_cons (pe_op op_fdiv (pv 2) pe_int) pa_nil))))
      (pss_one (ps_ret (pe_lc (own := [("_law_state", 5)]) (g := gName 5) (tt := tYes) (by rfl) scCol.nd (pi_range1 (by rfl) T.range (pa_cons (pv 2) pa_nil)) (blkOk_by (own := [("_law_state", 5)]) (N := scColN) (sc := defScope sColumn) (by decide +kernel)) (fun _ _ _ _ _ => pg_name (i := 5) scCol.nd rfl (Or.inl rfl)) (fun _ _ _ _ _ => pts_nil) (fun _ _ _ _ _ => (pe_op op_add (pe_op op_mod (pe_callTy call_int1 (by rfl) T.int (by decide +kernel) (pa_cons (pe_op op_add (pv 5) (pv 3)) pa_nil)) (pv 4)) (pe_ifExp (PW.pt (pw_and (pt_cmpR op_ge (pv 5) (pv 4) (nomark _)) (pw_and1 (pt_cmpR op_le (pe_op op_mul pe_int (pv 4)) (pv 2) (nomark _))))) (pv 4) pe_int))))))) pss_nil)
      (pss_one (ps_ret (pe_lc (own := [("_law_state", 5)]) (g := gName 5) (tt := tYes) (by rfl) scCol.nd (pi_range1 (by rfl) T.range (pa_cons (pv 2) pa_nil)) (blkOk_by (own := [("_law_state", 5)]) (N := scColN) (sc := defScope sColumn) (by decide +kernel)) (fun _ _ _ _ _ => pg_name (i := 5) scCol.nd rfl (Or.inl rfl)) (fun _ _ _ _ _ => pts_nil) (fun _ _ _ _ _ => (pe_df cAny hr (by decide) rfl (pa_cons (pv 0) (pa_cons (pv 2) pa_nil))))))))))))))), ?_⟩
    refine ⟨_, rfl, _, rfl, D, dl, many, rfl, by omega, by omega, hD, fun H1 to kp1 hd1 hto => ?_⟩
    have hk : (0 : Int) < (many : Int) := by omega
    obtain ⟨b0, ns0, d1, d2, _⟩ := id hD
    have nn : ∀ {q : Addr}, H q = none → q ∉ [D, dl] := fun {q} hq z => by
      simp only [List.mem_cons, List.not_mem_nil, or_false] at z
      rcases z with z | z
      · rw [z, d1] at hq; cases hq
      · rw [z, d2] at hq; cases hq
    have kfree : ∀ {H' : Hp} {q : Addr}, Kp [D, dl] H H' → DealAt H' D dl → H' q = none → H q = none := fun {H' q} kp hd hq => kp.free hq fun z => by
      obtain ⟨b, ns, z1, z2, _⟩ := hd
      simp only [List.mem_cons, List.not_mem_nil, or_false] at z
      rcases z with z | z
      · rw [z, z1] at hq; cases hq
      · rw [z, z2] at hq; cases hq
    -- a list that is made turn by turn
    have PvE : ∀ (R : Addr), H1 R = none → ∀ H', (Same H1 H' ∧ ∃ c, H' R = some (.lst (nts c)) ∧ c.length = many ∧ ∀ x ∈ c, x < many) → Q (.ref R) H' := fun R hR H' ⟨s, c, e, l, b⟩ => k H' R c (kp1.trans (Kp.of_same s)) (hd1.same s) (kfree kp1 hd1 hR) e l b
    have add : ∀ (R : Addr) (i : Nat) (H' : Hp) (c : List Nat) (v : V) (x : Nat), v = .int (x : Int) → H1 R = none → Same H1 H' → H' R = some (.lst (nts c)) → c.length = i → (∀ x ∈ c, x < many) → x < many → (Same H1 (upd H' R (.lst (nts c ++ [v]))) ∧ ∃ c', (upd H' R (.lst (nts c ++ [v]))) R = some (.lst (nts c')) ∧ c'.length = i + 1 ∧ ∀ x ∈ c', x < many) := fun R i H' c v x hv hR s e l b hx => by
      subst hv
      refine ⟨same_updF s hR, c ++ [x], ?_, by rw [List.length_append, l]; rfl, fun y hy => ?_⟩
      · rw [upd_same]
        unfold nts
        rw [List.map_append]
        rfl
      · rcases List.mem_append.mp hy with h | h
        · exact b y h
        · rw [List.mem_singleton.mp h]; exact hx
    have z0 : ∀ i : Nat, ((0 : Int) + (i : Nat)) = (i : Int) := fun i => by omega
    have toN : ((many : Int).toNat) = many := by omega
    have start : ∀ R, H1 R = none → (Same H1 (upd H1 R (.lst [])) ∧ ∃ c, (upd H1 R (.lst [])) R = some (.lst (nts c)) ∧ c.length = 0 ∧ ∀ x ∈ c, x < many) := fun R hR => ⟨same_new (fun _ _ e => e) hR, [], upd_same, rfl, fun _ h => absurd h List.not_mem_nil⟩
    -- form 0
    refine ⟨_, rfl, rfl, _, rfl, ?_⟩
    refine ite2 (fun _ => ?_) (fun _ => ?_)
    · refine ⟨_, rfl, (many : Int), rfl, by omega, by omega, fun R hR => ?_⟩
      rw [toN]
      refine lc_range (lo := 0) (n := many) (fun i H' => Same H1 H' ∧ ∃ c, H' R = some (.lst (nts c)) ∧ c.length = i ∧ ∀ x ∈ c, x < many) (start R hR) ?_ (PvE R hR)
      rintro i H2 hi ⟨s2, c, e2, l2, b2⟩
      rw [z0]
      refine ⟨rfl, ?_⟩
      refine ⟨_, rfl, _, rfl, _, _, rfl, rfl, .inl ⟨_, rfl, _, rfl, _, _, rfl, rfl, hk, ?_⟩⟩
      obtain ⟨x, hx, ex⟩ := mod_nat ((i : Int) + (to : Nat)) hm1
      refine ⟨_, e2, by rw [nts_len]; exact small (by omega), add R i H2 c _ x ?_ hR s2 e2 l2 b2 hx⟩
      show V.int (((i : Int) + (to : Nat)) % (many : Int)) = _
      rw [ex]
    -- form 1
    refine ⟨_, rfl, rfl, _, rfl, ?_⟩
    refine ite2 (fun _ => ?_) (fun _ => ?_)
    · refine ⟨_, rfl, (by show 1 ≤ sizeLine; decide), fun l hl => ⟨_, rfl, l, (many : Int), _, rfl, rfl, upd_same, by omega, by omega, ?_, fun q hq => ?_⟩⟩
      · rw [toN]
        show 1 * many ≤ sizeLine
        exact Nat.le_of_lt (small (by omega))
      · have hq1 : H1 q = none := by
          rw [upd_ne (show q ≠ l from fun z => by rw [z, upd_same] at hq; cases hq)] at hq
          exact hq
        refine PvE q hq1 _ ⟨same_new (same_new (fun _ _ e => e) hl) hq, List.replicate many to, ?_, List.length_replicate, fun x hx => ?_⟩
        · rw [upd_same, toN]
          have e : ∀ n : Nat, (List.replicate n [V.int (to : Nat)]).flatten = nts (List.replicate n to) := fun n => by
            induction n with
            | zero => rfl
            | succ n ih =>
              rw [List.replicate_succ, List.replicate_succ, List.flatten_cons, ih]
              rfl
          rw [e]
        · rw [List.eq_of_mem_replicate hx]
          exact hto
    -- form 2
    refine ⟨_, rfl, rfl, _, rfl, ?_⟩
    refine ite2 (fun _ => ?_) (fun _ => ?_)
    · refine ⟨_, rfl, (many : Int), rfl, by omega, by omega, fun R hR => ?_⟩
      rw [toN]
      refine lc_range (lo := 0) (n := many) (fun i H' => Same H1 H' ∧ ∃ c, H' R = some (.lst (nts c)) ∧ c.length = i ∧ ∀ x ∈ c, x < many) (start R hR) ?_ (PvE R hR)
      rintro i H2 hi ⟨s2, c, e2, l2, b2⟩
      rw [z0]
      refine ⟨rfl, ?_⟩
      refine ⟨_, rfl, rfl, _, rfl, ?_⟩
      refine ite2 (fun _ => ?_) (fun _ => ?_)
      · exact ⟨_, rfl, _, e2, by rw [nts_len]; exact small (by omega), add R i H2 c _ to rfl hR s2 e2 l2 b2 hto⟩
      · exact ⟨_, rfl, _, e2, by rw [nts_len]; exact small (by omega), add R i H2 c _ i rfl hR s2 e2 l2 b2 hi⟩
    -- form 3
    refine ⟨_, rfl, rfl, _, rfl, ?_⟩
    refine ite2 (fun _ => ?_) (fun _ => ?_)
    · refine ⟨_, rfl, (many : Int), rfl, by omega, by omega, fun R hR => ?_⟩
      rw [toN]
      refine lc_range (lo := 0) (n := many) (fun i H' => Same H1 H' ∧ ∃ c, H' R = some (.lst (nts c)) ∧ c.length = i ∧ ∀ x ∈ c, x < many) (start R hR) ?_ (PvE R hR)
      rintro i H2 hi ⟨s2, c, e2, l2, b2⟩
      rw [z0]
      refine ⟨rfl, ?_⟩
      refine ⟨_, rfl, _, _, rfl, rfl, _, rfl, _, rfl, _, _, rfl, rfl, _, _, rfl, rfl, _, _, rfl, _, _, rfl, ?_⟩
      obtain ⟨x, hx, ex⟩ : ∃ x : Nat, x < many ∧ (let j : Int := if ((i : Int) + (to : Nat) - 1) < ((many : Int) - 1) then ((i : Int) + (to : Nat) - 1) else ((many : Int) - 1); if j > 0 then j else 0) = (x : Int) := by
        refine ⟨(let j : Int := if ((i : Int) + (to : Nat) - 1) < ((many : Int) - 1) then ((i : Int) + (to : Nat) - 1) else ((many : Int) - 1); if j > 0 then j else 0).toNat, ?_, ?_⟩
        · dsimp only
          split <;> split <;> omega
        · dsimp only
          split <;> split <;> omega
      refine ⟨_, e2, by rw [nts_len]; exact small (by omega), add R i H2 c _ x ?_ hR s2 e2 l2 b2 hx⟩
      exact congrArg V.int ex
    -- form 4
    refine ⟨_, rfl, rfl, _, rfl, ?_⟩
    refine ite2 (fun _ => ?_) (fun _ => ?_)
    · refine ⟨_, rfl, _, rfl, _, rfl, RgOk.of_le (by decide) (by omega) (by decide) (by omega), fun q hq => ?_⟩
      have s2 : Same H1 (upd H1 q (.lst (rgV 0 (many : Int)))) := same_new (fun _ _ e => e) hq
      have er : rgV 0 (many : Int) = nts (List.range many) := by
        unfold rgV nts
        rw [show (((many : Int) - 0).toNat) = many by omega]
        exact List.map_congr_left fun i _ => by rw [Int.zero_add]
      refine ⟨D, dl, q, List.range many, rfl, hd1.same s2, by rw [upd_same, er], by rw [List.length_range]; omega, fun H' r ys kp hd hr' e' l' b' => ?_⟩
      exact k H' r ys ((kp1.trans (Kp.of_same s2)).trans kp) hd (kfree kp1 hd1 (s2.free hr')) e' (by rw [l', List.length_range]) fun x hx => List.mem_range.mp (b' x hx)
    -- form 5
    refine ⟨_, rfl, rfl, _, rfl, ?_⟩
    refine ite2 (fun _ => ?_) (fun _ => ?_)
    · refine ⟨_, rfl, (many : Int), rfl, by omega, by omega, fun R hR => ?_⟩
      rw [toN]
      refine lc_range (lo := 0) (n := many) (fun i H' => Same H1 H' ∧ ∃ c, H' R = some (.lst (nts c)) ∧ c.length = i ∧ ∀ x ∈ c, x < many) (start R hR) ?_ (PvE R hR)
      rintro i H2 hi ⟨s2, c, e2, l2, b2⟩
      rw [z0]
      refine ⟨rfl, ?_⟩
      refine ⟨_, rfl, _, rfl, _, _, rfl, ?_⟩
      obtain ⟨x, hx, ex⟩ : ∃ x : Nat, x < many ∧ (if ((to : Nat) : Int) > (i : Int) then ((to : Nat) : Int) else (i : Int)) = (x : Int) := by
        by_cases h : ((to : Nat) : Int) > (i : Int)
        · exact ⟨to, hto, by rw [if_pos h]⟩
        · exact ⟨i, hi, by rw [if_neg h]⟩
      exact ⟨_, e2, by rw [nts_len]; exact small (by omega), add R i H2 c _ x (congrArg V.int ex) hR s2 e2 l2 b2 hx⟩
    -- form 6
    refine ⟨_, rfl, rfl, _, rfl, ?_⟩
    refine ite2 (fun _ => ?_) (fun _ => ?_)
    · obtain ⟨hf, hf1, hf2, ehf⟩ : ∃ hf : Nat, 1 ≤ hf ∧ hf ≤ many ∧ (if ((many : Int) / 2) > 1 then ((many : Int) / 2) else 1) = (hf : Int) := by
        by_cases h : ((many : Int) / 2) > 1
        · exact ⟨((many : Int) / 2).toNat, by omega, by omega, by rw [if_pos h]; omega⟩
        · exact ⟨1, Nat.le_refl _, hm1, by rw [if_neg h]; rfl⟩
      refine ⟨_, rfl, _, _, rfl, rfl, ⟨by decide, by decide⟩, _, _, rfl, ?_⟩
      dsimp only [gName]
      rw [ehf]
      refine ⟨_, rfl, (many : Int), rfl, by omega, by omega, fun R hR => ?_⟩
      rw [toN]
      refine lc_range (lo := 0) (n := many) (fun i H' => Same H1 H' ∧ ∃ c, H' R = some (.lst (nts c)) ∧ c.length = i ∧ ∀ x ∈ c, x < many) (start R hR) ?_ (PvE R hR)
      rintro i H2 hi ⟨s2, c, e2, l2, b2⟩
      rw [z0]
      refine ⟨rfl, ?_⟩
      obtain ⟨y, hy, ey⟩ := mod_nat ((i : Int) + (to : Nat)) hf1
      refine ⟨_, rfl, _, rfl, _, _, rfl, rfl, .inl ⟨_, rfl, _, rfl, _, _, rfl, rfl, (show (0 : Int) < (hf : Int) by omega), ?_⟩⟩
      refine ⟨_, rfl, _, rfl, _, _, rfl, rfl, _, rfl, ?_⟩
      refine ite2 (fun q1 => ?_) (fun _ => ?_)
      · refine ⟨_, rfl, _, _, rfl, rfl, .inl ⟨by decide, by decide⟩, _, rfl, _, _, rfl, rfl, _, rfl, ?_⟩
        refine ite2 (fun q2 => ?_) (fun _ => ?_)
        · have q3 := of_decide_eq_true q2
          refine ⟨_, rfl, _, _, rfl, rfl, ?_⟩
          refine ⟨_, e2, by rw [nts_len]; exact small (by omega), add R i H2 c _ (y + hf) ?_ hR s2 e2 l2 b2 (by omega)⟩
          show V.int (((i : Int) + (to : Nat)) % (hf : Int) + (hf : Int)) = _
          rw [ey]
          exact congrArg V.int (by omega)
        · refine ⟨_, _, rfl, rfl, ?_⟩
          refine ⟨_, e2, by rw [nts_len]; exact small (by omega), add R i H2 c _ y ?_ hR s2 e2 l2 b2 (by omega)⟩
          show V.int (((i : Int) + (to : Nat)) % (hf : Int) + 0) = _
          rw [ey]
          exact congrArg V.int (by omega)
      · refine iteF ⟨_, _, rfl, rfl, ?_⟩
        refine ⟨_, e2, by rw [nts_len]; exact small (by omega), add R i H2 c _ y ?_ hR s2 e2 l2 b2 (by omega)⟩
        show V.int (((i : Int) + (to : Nat)) % (hf : Int) + 0) = _
        rw [ey]
        exact congrArg V.int (by omega)
    -- any other form
    refine ⟨_, rfl, (many : Int), rfl, by omega, by omega, fun R hR => ?_⟩
    rw [toN]
    have hR0 := kfree kp1 hd1 hR
    refine lc_range (lo := 0) (n := many) (fun i H' => Kp [D, dl] H1 H' ∧ DealAt H' D dl ∧ ∃ c, H' R = some (.lst (nts c)) ∧ c.length = i ∧ ∀ x ∈ c, x < many) ⟨Kp.of_same (same_new (fun _ _ e => e) hR), hd1.same (same_new (fun _ _ e => e) hR), [], upd_same, rfl, fun _ h => absurd h List.not_mem_nil⟩ ?_ ?_
    · rintro i H2 hi ⟨s2, h2, c, e2, l2, b2⟩
      refine ⟨rfl, ?_⟩
      refine ⟨_, rfl, _, rfl, D, dl, many, rfl, by omega, by omega, h2, fun H3 x kp3 h3 hx => ?_⟩
      have e3 := kp3 _ _ e2 (nn hR0)
      refine ⟨_, e3, by rw [nts_len]; exact small (by omega), Kp.updF (s2.trans kp3) hR, ?_, c ++ [x], ?_, by rw [List.length_append, l2]; rfl, fun y hy => ?_⟩
      · obtain ⟨b, ns, z1, z2, z3⟩ := h3
        have n1 : D ≠ R := fun z => nn hR0 (by rw [← z]; exact List.mem_cons_self)
        have n2 : dl ≠ R := fun z => nn hR0 (by rw [← z]; exact List.mem_cons_of_mem _ List.mem_cons_self)
        exact ⟨b, ns, by rw [upd_ne n1]; exact z1, by rw [upd_ne n2]; exact z2, z3⟩
      · rw [upd_same]
        unfold nts
        rw [List.map_append]
        rfl
      · rcases List.mem_append.mp hy with h | h
        · exact b2 y h
        · rw [List.mem_singleton.mp h]; exact hx
    · rintro H2 ⟨s2, h2, c, e2, l2, b2⟩
      exact k H2 R c (kp1.trans s2) h2 hR0 e2 l2 b2
end
end K53
namespace K53
open PySem PySem.Spec PyProof.Rows L2 L2.KR
/-- the drawn machine as lists -/
structure StepsAt (H : Hp) (L : Addr) (m : Mc) : Prop where
  ok : m.Ok
  at_ : ∃ ls, H L = some (.lst (ls.map V.ref)) ∧ ListsAt H ls m.st
theorem StepsAt.same {H H' : Hp} {L : Addr} {m : Mc} (h : StepsAt H L m) (s : Same H H') : StepsAt H' L m := by
  obtain ⟨ok, ls, h1, h2⟩ := h
  exact ⟨ok, ls, s _ _ h1, h2.same s⟩
section
variable {P : Program} {w : World} {K : PySem.W.Frag} {mg : Str → Option Value} {base : Heap} {f C PT : Addr} {fd : FuncData}
def spLRow : Sp := fun vs H Q _ => ∃ (D dl : Addr) (k n : Nat), vs = [.ref D, .int (k : Int), .int (n : Int)] ∧ DealAt H D dl ∧ 0 < k ∧ k < 1000 ∧ n ≤ 100 ∧ ∀ H' t (u : List Nat), Kp [D, dl] H H' → DealAt H' D dl → H t = none → H' t = some (.tup (nts u)) → u.length = n → (∀ x ∈ u, x < k) → Q (.ref t) H'
abbrev scLRowN : List Str := ["_law_deal", "_law_commands", "_law_length", "_law_turn"]
theorem scLRow : FnScope scLRowN ["_law_deal", "_law_commands", "_law_length"] (defScope sLRow) := ⟨rfl, rfl, rfl, by decide +kernel, rfl, by decide +kernel, by decide +kernel⟩
theorem deal_free {H H' : Hp} {D dl q : Addr} (kp : Kp [D, dl] H H') (hd : DealAt H' D dl) (hq : H' q = none) : H q = none := kp.free hq fun z => by
  obtain ⟨b, ns, z1, z2, _⟩ := hd
  simp only [List.mem_cons, List.not_mem_nil, or_false] at z
  rcases z with z | z
  · rw [z, z1] at hq; cases hq
  · rw [z, z2] at hq; cases hq
theorem deal_nn {H : Hp} {D dl q : Addr} (hd : DealAt H D dl) (hq : H q = none) : q ∉ [D, dl] := fun z => by
  obtain ⟨b, ns, z1, z2, _⟩ := hd
  simp only [List.mem_cons, List.not_mem_nil, or_false] at z
  rcases z with z | z
  · rw [z, z1] at hq; cases hq
  · rw [z, z2] at hq; cases hq
theorem DealAt.upd {H : Hp} {D dl q : Addr} {o : HO} (hd : DealAt H D dl) (n : q ∉ [D, dl]) : DealAt (L2.upd H q o) D dl := by
  obtain ⟨b, ns, z1, z2, z3⟩ := hd
  exact ⟨b, ns, by rw [upd_ne (show D ≠ q from fun z => n (by rw [← z]; exact List.mem_cons_self))]; exact z1, by rw [upd_ne (show dl ≠ q from fun z => n (by rw [← z]; exact List.mem_cons_of_mem _ List.mem_cons_self))]; exact z2, z3⟩
theorem ok_lrow (F : Fun K "_law_row" "_law_row" sLRow f fd) (T : Txt mg) (cAny : Df P w K mg base 1 "_law_any" ["_law_deal", "_law_bound"] spAny) : FnOk P w K mg base CX0 2 f fd ["_law_deal", "_law_commands", "_law_length"] spLRow := by
  refine F.ok scLRow (fun vs H Q E h => ?_) (fun cdv A outer s H vs Q E hr h => ?_)
  · obtain ⟨D, dl, k, n, rfl, _⟩ := h
    rfl
  · obtain ⟨D, dl, k0, n, rfl, hD, h0, h1, h2, k⟩ := h
    refine ⟨_, (pss_one (ps_ret (pe_callTy (tupK (K := K) rfl) (by rfl) T.tuple (by decide +kernel) (pa_cons (pe_lc (own := [("_law_turn", 3)]) (g := gName 3) (tt := tYes) (by rfl) scLRow.nd (pi_range1 (by rfl) T.range (pa_cons (pv 2) pa_nil)) (blkOk_by (own := [("_law_turn", 3)]) (N := scLRowN) (sc := defScope sLRow) (by decide +kernel)) (fun _ _ _ _ _ => pg_name (i := 3) scLRow.nd rfl (Or.inl rfl)) (fun _ _ _ _ _ => pts_nil) (fun _ _ _ _ _ => (pe_df cAny hr (by decide) rfl (pa_cons (pv 0) (pa_cons (pv 1) pa_nil))))) pa_nil)))), ?_⟩
    refine ⟨_, rfl, (n : Int), rfl, by omega, by omega, fun R hR => ?_⟩
    rw [show ((n : Int).toNat) = n by omega]
    have nR := deal_nn hD hR
    refine lc_range (lo := 0) (n := n) (fun i H' => Kp [D, dl] H H' ∧ DealAt H' D dl ∧ ∃ c : List Nat, H' R = some (.lst (nts c)) ∧ c.length = i ∧ ∀ x ∈ c, x < k0) ⟨Kp.of_same (same_new (fun _ _ e => e) hR), hD.same (same_new (fun _ _ e => e) hR), [], upd_same, rfl, fun _ h => absurd h List.not_mem_nil⟩ ?_ ?_
    · rintro i H2 hi ⟨s2, h2', c, e2, l2, b2⟩
      refine ⟨rfl, ?_⟩
      refine ⟨_, rfl, _, rfl, D, dl, k0, rfl, h0, by omega, h2', fun H3 x kp3 h3 hx => ?_⟩
      have e3 := kp3 _ _ e2 nR
      refine ⟨_, e3, by rw [nts_len]; exact small (by omega), Kp.updF (s2.trans kp3) hR, h3.upd nR, c ++ [x], ?_, by rw [List.length_append, l2]; rfl, fun y hy => ?_⟩
      · rw [upd_same]
        unfold nts
        rw [List.map_append]
        rfl
      · rcases List.mem_append.mp hy with h | h
        · exact b2 y h
        · rw [List.mem_singleton.mp h]; exact hx
    · rintro H2 ⟨s2, h2', c, e2, l2, b2⟩
      refine ⟨R, _, rfl, .inl ⟨SqL.of e2, fun t ht => ?_⟩⟩
      have s3 : Same H2 (upd H2 t (.tup (nts c))) := same_new (fun _ _ e => e) ht
      exact k _ t c (s2.trans (Kp.of_same s3)) (h2'.same s3) (deal_free s2 h2' ht) upd_same l2 b2
/-! ### _law_led -/
def spLLed : Sp := fun vs H Q _ => ∃ (L r : Addr) (m : Mc) (s : Nat) (u : List Nat), vs = [.ref L, .int (s : Int), .ref r] ∧ StepsAt H L m ∧ s < m.n ∧ RowOk m u ∧ H r = some (.tup (nts u)) ∧ Q (.int (m.led s u : Nat)) H
abbrev scLLedN : List Str := ["_law_steps", "_law_state", "_law_row_here", "_law_command"]
theorem scLLed : FnScope scLLedN ["_law_steps", "_law_state", "_law_row_here"] (defScope sLLed) := ⟨rfl, rfl, rfl, by decide +kernel, rfl, by decide +kernel, by decide +kernel⟩
theorem ok_lled (F : Fun K "_law_led" "_law_led" sLLed f fd) : FnOk P w K mg base CX0 1 f fd ["_law_steps", "_law_state", "_law_row_here"] spLLed := by
  refine F.ok scLLed (fun vs H Q E h => ?_) (fun cdv A outer s H vs Q E hr h => ?_)
  · obtain ⟨L, r, m, s, u, rfl, _⟩ := h
    rfl
  · obtain ⟨L, r, m, s0, u, rfl, ⟨ok, ls, h1, h2⟩, hs, hu, hr', k⟩ := h
    refine ⟨_, (pss_cons (ps_for PassesOwn.never rfl (pi_tup (pv 2)) (pg_name (i := 3) scLLed.nd rfl (.inl rfl))
      (pss_one (ps_set (i := 1) scLLed.nd rfl (.inl rfl) (pe_ix (ixL (K := K) rfl) (pe_ix (ixL (K := K) rfl) (pv 0) (pv 1) (fun _ _ => rfl)) (pv 3) (fun _ _ => rfl)))))
      (pss_one (ps_ret (pv 1)))), ?_⟩
    refine ⟨_, rfl, r, rfl, ⟨_, SqT.of hr'⟩, for_tup (K := K) (a := r) (xs := nts u) (fun i st H' => H' = H ∧ ∃ c, st = [some (.ref L), some (.int (m.led s0 (u.take i) : Nat)), some (.ref r), c]) ⟨rfl, none, rfl⟩ (fun i st H' _ q => by rw [q.1]; exact SqT.of hr') ?_ ?_⟩
    · rintro i x st H' hi ⟨rfl, c, rfl⟩
      obtain ⟨a, g1, rfl⟩ := nts_map hi
      have hlt : m.led s0 (u.take i) < m.n := ok.led_lt hs fun z hz => hu z (List.mem_of_mem_take hz)
      have hac : a < m.c := hu a (List.mem_of_getElem? g1)
      obtain ⟨q, _, f2, f3⟩ := h2.row hlt
      refine ⟨_, rfl, _, rfl, L, _, _, _, rfl, rfl, SqL.of h1, atI_nat f2, _, rfl, q, _, _, _, rfl, rfl, SqL.of f3, atI_nat (ok.at_to hlt hac), ?_⟩
      refine ⟨rfl, some (.int (a : Nat)), ?_⟩
      rw [take_snoc g1, Mc.led_snoc]
      rfl
    · rintro st H' ⟨rfl, c, rfl⟩
      rw [nts_len, List.take_length]
      exact ⟨_, rfl, k⟩
/-! ### _law_machine -/
def spMach : Sp := fun vs H Q _ => ∃ (D dl : Addr), vs = [.ref D, .int 4] ∧ DealAt H D dl ∧ ∀ H' t L (ls : List Addr) m, Kp [D, dl] H H' → DealAt H' D dl → Mc.Ok m → H' L = some (.lst (ls.map V.ref)) → ListsAt H' ls m.st → L ∉ [D, dl] → (∀ q ∈ ls, q ∉ [D, dl]) → H' t = some (.tup [.int (m.c : Int), .ref L]) → Q (.ref t) H'
abbrev scMachN : List Str := ["_law_deal", "_law_most", "_law_form", "_law_commands", "_law_one", "_law_other", "_law_many", "_law_columns_here", "_law_command", "_law_kind", "_law_s"]
theorem scMach : FnScope scMachN ["_law_deal", "_law_most"] (defScope sMach) := ⟨rfl, rfl, rfl, by decide +kernel, rfl, by decide +kernel, by decide +kernel⟩
theorem ok_mach (F : Fun K "_law_machine" "_law_machine" sMach f fd) (T : Txt mg) (cAny : Df P w K mg base 1 "_law_any" ["_law_deal", "_law_bound"] spAny) (cOf : Df P w K mg base 2 "_law_of" ["_law_deal", "_law_some"] spOf) (cCol : Df P w K mg base 3 "_law_column" ["_law_deal", "_law_form", "_law_many"] spCol)
    (cCols : Df P w K mg base 1 "_law_columns" ["_law_columns_here"] spCols) : FnOk P w K mg base CX0 4 f fd ["_law_deal", "_law_most"] spMach := by
  refine F.ok scMach (fun vs H Q E h => ?_) (fun cdv A outer s H vs Q E hr h => ?_)
  · obtain ⟨D, dl, rfl, _⟩ := h
    rfl
  · obtain ⟨D, dl, rfl, hD, k⟩ := h
    refine ⟨_, (pss_cons (ps_par (i := 2) (j := 3) (by rfl) scMach.nd rfl rfl (by decide) rfl rfl (pa_cons (pe_df cAny hr (by decide) rfl (pa_cons (pv 0) (pa_cons pe_int pa_nil))) (pa_cons (pe_df cOf hr (by decide) rfl (pa_cons (pv 0) (pa_cons (pe_lst (pa_cons pe_int (pa_cons pe_int (pa_cons pe_int (pa_cons pe_int (pa_cons pe_int pa_nil)))))) pa_nil))) pa_nil)) (by rfl))
      (pss_cons (ps_if (PW.pt (pw_and (pt_cmpR op_eq (pv 2) pe_int (nomark _)) (pw_and1 (pt_cmpR op_gt (pv 1) pe_int (nomark _))))) (pss_one (ps_ret (pe_tup (pa_cons pe_int (pa_cons (pe_lst (pa_cons (pe_lst (pa_cons pe_int (pa_cons pe_int pa_nil))) (pa_cons (pe_lst (pa_cons pe_int (pa_cons pe_int pa_nil))) (pa_cons (pe_lst (pa_cons pe_int (pa_cons pe_int pa_nil))) (pa_cons (pe_lst (pa_cons pe_int (pa_cons pe_int pa_nil))) pa_nil))))) pa_nil))))) pss_nil)
      (pss_cons (ps_if (PW.pt (pw_and (pt_cmpR op_eq (pv 2) pe_int (nomark _)) (pw_and1 (pt_cmpR op_gt (pv 1) pe_int (nomark _))))) (pss_cons (ps_asg (pe_tup (pa_cons (pe_df cAny hr (by decide) rfl (pa_cons (pv 0) (pa_cons pe_int pa_nil))) (pa_cons (pe_df cOf hr (by decide) rfl (pa_cons (pv 0) (pa_cons (pe_lst (pa_cons pe_int (pa_cons pe_int pa_nil))) pa_nil))) pa_nil))) (pg_tup rfl (pgs_cons (pg_name (i := 4) scMach.nd rfl (.inr rfl)) (pgs_cons (pg_name (i := 5) scMach.nd rfl (.inr rfl)) pgs_nil))))
      (pss_one (ps_ret (pe_tup (pa_cons pe_int (pa_cons (pe_lc (own := [("_law_s", 10)]) (g := gName 10) (tt := tYes) (by rfl) scMach.nd (pi_range1 (by rfl) T.range (pa_cons pe_int pa_nil)) (blkOk_by (own := [("_law_s", 10)]) (N := scMachN) (sc := defScope sMach) (by decide +kernel)) (fun _ _ _ _ _ => pg_name (i := 10) scMach.nd rfl (Or.inl rfl)) (fun _ _ _ _ _ => pts_nil) (fun _ _ _ _ _ => (pe_lst (pa_cons (pe_op op_add (pe_op op_mul pe_int (pe_op op_fdiv (pv 10) pe_int)) (pv 4)) (pa_cons (pe_ifExp (pt_cmpR op_eq (pe_op op_mod (pv 10) pe_int) pe_int (nomark _)) (pe_op op_mod (pe_callTy call_int1 (by rfl) T.int (by decide +kernel) (pa_cons (pe_op op_add (pv 10) (pv 5)) pa_nil)) pe_int) (pe_op op_mod (pe_callTy call_int1 (by rfl) T.int (by decide +kernel) (pa_cons (pe_op op_add (pv 10) pe_int) pa_nil)) pe_int)) pa_nil))))) pa_nil)))))) pss_nil)
      (pss_cons (ps_par (i := 6) (j := 7) (by rfl) scMach.nd rfl rfl (by decide) rfl rfl (pa_cons (pe_op op_add pe_int (pe_df cAny hr (by decide) rfl (pa_cons (pv 0) (pa_cons (pv 1) pa_nil)))) (pa_cons (pe_lst pa_nil) pa_nil)) (by rfl))
      (pss_cons (ps_for PassesOwn.never rfl (pi_range1 (by rfl) T.range (pa_cons (pv 3) pa_nil)) (pg_name (i := 8) scMach.nd rfl (.inl rfl))
      (pss_cons (ps_set (i := 9) scMach.nd rfl (.inl rfl) (pe_ifExp (pt_cmpR op_gt (pv 2) pe_int (nomark _)) (pe_df cAny hr (by decide) rfl (pa_cons (pv 0) (pa_cons pe_int pa_nil))) (pv 2)))
      (pss_one (ps_expr (pe_bm PySem.F.plainAttrs_list PySem.F.slot_list_append PySem.F.type_list_append mt_append (pv 7) (pa_cons (pe_df cCol hr (by decide) rfl (pa_cons (pv 0) (pa_cons (pv 9) (pa_cons (pv 6) pa_nil)))) pa_nil))))))
      (pss_one (ps_ret (pe_tup (pa_cons (pv 3) (pa_cons (pe_df cCols hr (by decide) rfl (pa_cons (pv 7) pa_nil)) pa_nil)))))))))), ?_⟩
    refine ⟨_, rfl, D, dl, 12, rfl, by decide, by decide, hD, fun H1 form kp1 hd1 hform => ⟨_, rfl, (by show 5 ≤ sizeLine; decide), fun l hl => ?_⟩⟩
    have s1 : Same H1 (upd H1 l (.lst [.int 1, .int 2, .int 2, .int 2, .int 3])) := same_new (fun _ _ e => e) hl
    refine ⟨D, dl, l, _, rfl, hd1.same s1, upd_same, deal_nn hd1 hl, by decide, by decide, fun H2 cv kp2 hd2 hcv => ⟨_, _, rfl, ?_⟩⟩
    obtain ⟨c, hc1, hc3, rfl⟩ : ∃ c : Nat, 1 ≤ c ∧ c ≤ 3 ∧ cv = .int (c : Int) := by
      simp only [List.mem_cons, List.not_mem_nil, or_false] at hcv
      rcases hcv with e | e | e | e | e
      · exact ⟨1, by omega, by omega, e⟩
      · exact ⟨2, by omega, by omega, e⟩
      · exact ⟨2, by omega, by omega, e⟩
      · exact ⟨2, by omega, by omega, e⟩
      · exact ⟨3, by omega, by omega, e⟩
    have kp02 := (kp1.trans (Kp.of_same (l := [D, dl]) s1)).trans kp2
    -- form 10
    refine ⟨_, rfl, rfl, _, rfl, ?_⟩
    refine ite2 (fun _ => ⟨_, rfl, _, _, rfl, rfl, _, rfl, iteT ?_⟩) (fun _ => iteF ?_)
    · refine ⟨(by show 2 ≤ sizeLine; decide), fun a ha => ⟨(by show 2 ≤ sizeLine; decide), fun b hb => ⟨(by show 2 ≤ sizeLine; decide), fun c' hc => ⟨(by show 2 ≤ sizeLine; decide), fun d hd => ⟨(by show 4 ≤ sizeLine; decide), fun L hL => ⟨(by show 2 ≤ sizeLine; decide), fun t ht => ?_⟩⟩⟩⟩⟩⟩
      have sa := same_new (o := .lst [.int 0, .int 1]) (fun _ _ e => e : Same H2 H2) ha
      have ea : upd H2 a (.lst [.int 0, .int 1]) a = some (.lst (nts [0, 1])) := upd_same
      have sb := same_new (o := .lst [.int 2, .int 3]) (fun _ _ e => e) hb
      have eb : upd (upd H2 a (.lst [.int 0, .int 1])) b (.lst [.int 2, .int 3]) b = some (.lst (nts [2, 3])) := upd_same
      have sc := same_new (o := .lst [.int 0, .int 1]) (fun _ _ e => e) hc
      have ec : upd (upd (upd H2 a (.lst [.int 0, .int 1])) b (.lst [.int 2, .int 3])) c' (.lst [.int 0, .int 1]) c' = some (.lst (nts [0, 1])) := upd_same
      have sd := same_new (o := .lst [.int 2, .int 3]) (fun _ _ e => e) hd
      have ed : upd (upd (upd (upd H2 a (.lst [.int 0, .int 1])) b (.lst [.int 2, .int 3])) c' (.lst [.int 0, .int 1])) d (.lst [.int 2, .int 3]) d = some (.lst (nts [2, 3])) := upd_same
      have sL := same_new (o := .lst [.ref a, .ref b, .ref c', .ref d]) (fun _ _ e => e) hL
      have eL : upd (upd (upd (upd (upd H2 a (.lst [.int 0, .int 1])) b (.lst [.int 2, .int 3])) c' (.lst [.int 0, .int 1])) d (.lst [.int 2, .int 3])) L (.lst [.ref a, .ref b, .ref c', .ref d]) L = some (.lst ([a, b, c', d].map V.ref)) := upd_same
      have st := same_new (o := .tup [.int 2, .ref L]) (fun _ _ e => e) ht
      have s2L := (((sa.trans sb).trans sc).trans sd).trans sL
      have nq : ∀ {q : Addr} {H' : Hp}, Same H2 H' → H' q = none → q ∉ [D, dl] := fun s hq => deal_nn (hd2.same s) hq
      refine k _ t L [a, b, c', d] ⟨2, [[0, 1], [2, 3], [0, 1], [2, 3]]⟩ (kp02.trans (Kp.of_same (s2L.trans st))) (hd2.same (s2L.trans st)) ⟨by decide, by decide, by decide, by decide, by decide⟩ (st _ _ eL)
        (.cons (st _ _ (sL _ _ (sd _ _ (sc _ _ (sb _ _ ea))))) (.cons (st _ _ (sL _ _ (sd _ _ (sc _ _ eb)))) (.cons (st _ _ (sL _ _ (sd _ _ ec))) (.cons (st _ _ (sL _ _ ed)) .nil)))) (nq (((sa.trans sb).trans sc).trans sd) hL) (fun q hq => ?_) upd_same
      simp only [List.mem_cons, List.not_mem_nil, or_false] at hq
      rcases hq with e | e | e | e <;> rw [e]
      · exact nq (fun _ _ e => e) ha
      · exact nq sa hb
      · exact nq (sa.trans sb) hc
      · exact nq ((sa.trans sb).trans sc) hd
    -- form 11
    refine ⟨_, rfl, rfl, _, rfl, ?_⟩
    refine ite2 (fun _ => ⟨_, rfl, _, _, rfl, rfl, _, rfl, iteT ?_⟩) (fun _ => iteF ?_)
    · refine ⟨_, rfl, D, dl, 2, rfl, by decide, by decide, hd2, fun H3 one kp3 hd3 h1 => ⟨_, rfl, (by show 2 ≤ sizeLine; decide), fun l2 hl2 => ?_⟩⟩
      have s3 : Same H3 (upd H3 l2 (.lst [.int 1, .int 3])) := same_new (fun _ _ e => e) hl2
      refine ⟨D, dl, l2, _, rfl, hd3.same s3, upd_same, deal_nn hd3 hl2, by decide, by decide, fun H4 ov kp4 hd4 hov => ⟨(by show 2 ≤ sizeLine; decide), fun t0 ht0 => ?_⟩⟩
      obtain ⟨o, rfl⟩ : ∃ o : Nat, ov = .int (o : Int) := by
        simp only [List.mem_cons, List.not_mem_nil, or_false] at hov
        rcases hov with e | e
        · exact ⟨1, e⟩
        · exact ⟨3, e⟩
      have kp04 := ((kp02.trans kp3).trans (Kp.of_same (l := [D, dl]) s3)).trans kp4
      refine ⟨t0, _, rfl, SqT.of upd_same, rfl, _, _, rfl, _, _, rfl, rfl, ?_⟩
      have s5 : Same H4 (upd H4 t0 (.tup [.int (one : Nat), .int (o : Int)])) := same_new (fun _ _ e => e) ht0
      have kp05 := kp04.trans (Kp.of_same (l := [D, dl]) s5)
      have hd5 := hd4.same s5
      revert kp05 hd5
      generalize upd H4 t0 (.tup [.int (one : Nat), .int (o : Int)]) = H5
      intro kp05 hd5
      refine ⟨4, rfl, by decide, by decide, fun R hR => ?_⟩
      refine lc_range (lo := 0) (n := 4) (fun i H' => Same H5 H' ∧ ∃ rs rows, H' R = some (.lst (rs.map V.ref)) ∧ ListsAt H' rs rows ∧ rows.length = i ∧ (∀ q ∈ rs, q ∉ [D, dl] ∧ q ≠ R) ∧ ∀ row ∈ rows, row.length = 2 ∧ ∀ x ∈ row, x < 4)
        ⟨same_new (fun _ _ e => e) hR, [], [], upd_same, .nil, rfl, fun _ h => absurd h List.not_mem_nil, fun _ h => absurd h List.not_mem_nil⟩ ?_ ?_
      · rintro i H6 hi ⟨s6, rs, rows, e6, l6, n6, f6, r6⟩
        have ei : ((0 : Int) + (i : Nat)) = (i : Int) := by omega
        rw [ei]
        have last : ∀ x : Nat, x < 4 → ∀ v : V, v = .int (x : Int) → (fun (xs : List V) (Hx : Hp) => xs.length ≤ sizeLine ∧ ∀ G, Hx G = none → ∃ acc, upd Hx G (.lst xs) R = some (.lst acc) ∧ acc.length < sizeLine ∧ (Same H5 (upd (upd Hx G (.lst xs)) R (.lst (acc ++ [.ref G]))) ∧ ∃ rs rows, upd (upd Hx G (.lst xs)) R (.lst (acc ++ [.ref G])) R = some (.lst (rs.map V.ref)) ∧ ListsAt (upd (upd Hx G (.lst xs)) R (.lst (acc ++ [.ref G]))) rs rows ∧ rows.length = i + 1 ∧ (∀ q ∈ rs, q ∉ [D, dl] ∧ q ≠ R) ∧ ∀ row ∈ rows, row.length = 2 ∧ ∀ x ∈ row, x < 4))
            [.int (2 * ((i : Int) / 2) + (one : Nat)), v] H6 := fun x hx v hv => by
          subst hv
          refine ⟨(by show 2 ≤ sizeLine; decide), fun G hG => ?_⟩
          obtain ⟨y, hy, ey⟩ : ∃ y : Nat, y < 4 ∧ (2 * ((i : Int) / 2) + (one : Nat)) = (y : Int) := ⟨2 * (i / 2) + one, by omega, by omega⟩
          rw [ey]
          have s7 : Same H6 (upd H6 G (.lst (nts [y, x]))) := same_new (fun _ _ e => e) hG
          have GR : G ≠ R := fun z => by rw [z, e6] at hG; cases hG
          have lr := Paired.len l6
          refine ⟨_, s7 _ _ e6, by rw [List.length_map]; exact small (by omega), same_updF (s6.trans s7) hR, rs ++ [G], rows ++ [[y, x]], ?_, ?_, by rw [List.length_append, n6]; rfl, fun q hq => ?_, fun row hrow => ?_⟩
          · rw [upd_same, List.map_append]
            rfl
          · refine Paired.snoc (Paired.imp l6 fun a b ha e => ?_) ?_
            · rw [upd_ne (f6 a ha).2]
              exact s7 _ _ e
            · rw [upd_ne GR]
              exact upd_same
          · rcases List.mem_append.mp hq with h | h
            · exact f6 q h
            · rw [List.mem_singleton.mp h]
              exact ⟨deal_nn (hd5.same s6) hG, GR⟩
          · rcases List.mem_append.mp hrow with h | h
            · exact r6 row h
            · rw [List.mem_singleton.mp h]
              refine ⟨rfl, fun z hz => ?_⟩
              simp only [List.mem_cons, List.not_mem_nil, or_false] at hz
              rcases hz with e | e <;> rw [e] <;> assumption
        refine ⟨rfl, ?_⟩
        refine ⟨_, rfl, _, _, rfl, rfl, ⟨by decide, by decide⟩, _, _, rfl, rfl, .inl ⟨by decide, by decide⟩, _, rfl, _, _, rfl, rfl, ?_⟩
        refine ⟨_, rfl, _, _, rfl, rfl, (by show (0 : Int) < 2; decide), rfl, _, rfl, ?_⟩
        refine ite2 (fun _ => ?_) (fun _ => ?_)
        · obtain ⟨x, hx, ex⟩ := mod_nat ((i : Int) + (o : Int)) (show 0 < 4 by decide)
          exact ⟨_, rfl, _, rfl, _, _, rfl, rfl, .inl ⟨_, rfl, _, _, rfl, rfl, (by show (0 : Int) < 4; decide), last x hx _ (congrArg V.int ex)⟩⟩
        · obtain ⟨x, hx, ex⟩ := mod_nat ((i : Int) + 2) (show 0 < 4 by decide)
          exact ⟨_, rfl, _, _, rfl, rfl, .inl ⟨_, rfl, _, _, rfl, rfl, (by show (0 : Int) < 4; decide), last x hx _ (congrArg V.int ex)⟩⟩
      · rintro H6 ⟨s6, rs, rows, e6, l6, n6, f6, r6⟩
        refine ⟨(by show 2 ≤ sizeLine; decide), fun t ht => ?_⟩
        have s7 : Same H6 (upd H6 t (.tup [.int 2, .ref R])) := same_new (fun _ _ e => e) ht
        exact k _ t R rs ⟨2, rows⟩ (kp05.trans (Kp.of_same (s6.trans s7))) (hd5.same (s6.trans s7)) ⟨by show 1 ≤ 2; decide, by show 2 ≤ 3; decide, by show 1 ≤ rows.length; omega, by show rows.length ≤ 4; omega, fun r hr => ⟨(r6 r hr).1, fun x hx => by show x < rows.length; have := (r6 r hr).2 x hx; omega⟩⟩ (s7 _ _ e6) (l6.same s7) (deal_nn hd5 hR) (fun q hq => (f6 q hq).1) upd_same
    -- else
    refine ⟨_, rfl, _, rfl, D, dl, 4, rfl, by decide, by decide, hd2, fun H3 x3 kp3 hd3 h3 => ⟨_, _, rfl, rfl, Nat.zero_le _, fun G hG => ⟨_, _, rfl, ?_⟩⟩⟩
    have em : ((1 : Int) + (x3 : Nat)) = ((1 + x3 : Nat) : Int) := by omega
    generalize hmn : 1 + x3 = many at em
    have hm1 : 1 ≤ many := by omega
    have hm4 : many ≤ 4 := by omega
    have s3 : Same H3 (upd H3 G (.lst [])) := same_new (fun _ _ e => e) hG
    have nG := deal_nn hd3 hG
    have kp03 := (kp02.trans kp3).trans (Kp.of_same (l := [D, dl]) s3)
    have hG0 : H G = none := deal_free (kp02.trans kp3) hd3 hG
    refine ⟨_, rfl, (c : Int), rfl, by omega, by omega, ?_⟩
    rw [show ((c : Int).toNat) = c by omega]
    refine for_range (lo := 0) (n := c) (fun i st H' => (Kp [D, dl] H H' ∧ DealAt H' D dl ∧ ∃ cs cols, H' G = some (.lst (cs.map V.ref)) ∧ ListsAt H' cs cols ∧ cols.length = i ∧ (∀ q ∈ cs, q ∉ [D, dl] ∧ q ≠ G) ∧ ∀ col ∈ cols, col.length = many ∧ ∀ x ∈ col, x < many) ∧ ∃ j4 j5 j8 j9 j10, st = [some (.ref D), some (.int 4), some (.int (form : Int)), some (.int (c : Int)), j4, j5, some (.int (many : Int)), some (.ref G), j8, j9, j10])
      ⟨⟨kp03, hd3.same s3, [], [], upd_same, .nil, rfl, fun _ h => absurd h List.not_mem_nil, fun _ h => absurd h List.not_mem_nil⟩, _, _, _, _, _, by rw [← em]; rfl⟩ ?_ ?_
    · rintro i st H4 hi ⟨⟨kp4, hd4, cs, cols, e4, l4, n4, f4, r4⟩, j4, j5, j8, j9, j10, rfl⟩
      have fin : ∀ (D' : Ends), (∀ st H', ((Kp [D, dl] H H' ∧ DealAt H' D dl ∧ ∃ cs cols, H' G = some (.lst (cs.map V.ref)) ∧ ListsAt H' cs cols ∧ cols.length = i + 1 ∧ (∀ q ∈ cs, q ∉ [D, dl] ∧ q ≠ G) ∧ ∀ col ∈ cols, col.length = many ∧ ∀ x ∈ col, x < many) ∧ ∃ j4 j5 j8 j9 j10, st = [some (.ref D), some (.int 4), some (.int (form : Int)), some (.int (c : Int)), j4, j5, some (.int (many : Int)), some (.ref G), j8, j9, j10]) → D'.nx st H') →
          ∀ (H5 : Hp) (kind : Nat), Kp [D, dl] H4 H5 → DealAt H5 D dl → tDrop (tBM K "list" rAppend (tVar 7) (tCons (tCall spCol [] E0 (tCons (tVar 0) (tCons (tVar 9) (tCons (tVar 6) tNil)))) tNil)) D' [some (.ref D), some (.int 4), some (.int (form : Int)), some (.int (c : Int)), j4, j5, some (.int (many : Int)), some (.ref G), some (.int (i : Int)), some (.int (kind : Int)), j10] H5 := fun D' hD' H5 kind kp5 hd5 => by
        have eG5 := kp5 _ _ e4 nG
        have l5 : ListsAt H5 cs cols := Paired.imp l4 fun a b ha e => kp5 _ _ e (f4 a ha).1
        refine ⟨_, rfl, .inl ⟨rfl, _, SqL.of eG5⟩, _, rfl, _, rfl, _, rfl, D, dl, kind, many, rfl, hd5, hm1, hm4, fun H6 r col kp6 hd6 hr0 er lr br => ?_⟩
        have eG6 := kp6 _ _ eG5 nG
        have rG : r ≠ G := fun z => by rw [z, eG5] at hr0; cases hr0
        have lc := Paired.len l4
        refine ⟨G, _, _, rfl, rfl, eG6, by rw [List.length_map]; exact small (by omega), hD' _ _ ⟨⟨Kp.updF ((kp4.trans kp5).trans kp6) hG0, hd6.upd nG, cs ++ [r], cols ++ [col], ?_, ?_, by rw [List.length_append, n4]; rfl, fun q hq => ?_, fun col' hc' => ?_⟩, _, _, _, _, _, rfl⟩⟩
        · rw [upd_same, List.map_append]
          rfl
        · refine Paired.snoc (Paired.imp l5 fun a b ha e => ?_) ?_
          · rw [upd_ne (f4 a ha).2]
            exact kp6 _ _ e (f4 a ha).1
          · rw [upd_ne rG]
            exact er
        · rcases List.mem_append.mp hq with h | h
          · exact f4 q h
          · rw [List.mem_singleton.mp h]
            exact ⟨deal_nn hd5 hr0, rG⟩
        · rcases List.mem_append.mp hc' with h | h
          · exact r4 col' h
          · rw [List.mem_singleton.mp h]
            exact ⟨lr, br⟩
      have ei : ((0 : Int) + (i : Nat)) = (i : Int) := by omega
      rw [ei]
      refine ⟨_, rfl, _, _, rfl, rfl, _, rfl, ?_⟩
      refine ite2 (fun _ => ?_) (fun _ => ?_)
      · exact ⟨_, rfl, D, dl, 8, rfl, by decide, by decide, hd4, fun H5 kind kp5 hd5 _ => fin _ (fun _ _ h => h) H5 kind kp5 hd5⟩
      · exact ⟨_, rfl, fin _ (fun _ _ h => h) H4 form (Kp.refl _ _) hd4⟩
    · rintro st H4 ⟨⟨kp4, hd4, cs, cols, e4, l4, n4, f4, r4⟩, j4, j5, j8, j9, j10, rfl⟩
      refine ⟨_, rfl, _, rfl, G, cs, cols, many, rfl, e4, l4, by omega, by omega, hm4, r4, fun H5 r rs rows s5 hr0 hrs e5 l5 n5 r5 => ⟨(by show 2 ≤ sizeLine; decide), fun t ht => ?_⟩⟩
      have s6 : Same H5 (upd H5 t (.tup [.int (c : Int), .ref r])) := same_new (fun _ _ e => e) ht
      refine k _ t r rs ⟨c, rows⟩ (kp4.trans (Kp.of_same (s5.trans s6))) (hd4.same (s5.trans s6)) ⟨hc1, hc3, by show 1 ≤ rows.length; omega, by show rows.length ≤ 4; omega, fun q hq => ⟨by rw [(r5 q hq).1]; exact n4, fun x hx => by show x < rows.length; rw [n5]; exact (r5 q hq).2 x hx⟩⟩ (s6 _ _ e5) (l5.same s6) (deal_nn hd4 hr0) (fun q hq => deal_nn hd4 (hrs q hq)) upd_same
end
end K53
namespace K53
open PySem PySem.Spec PyProof.Rows L2 L2.KR
/-- t + u, the tuple of both somewhere -/
def rCatS : R2 := fun x y H Q => ∃ a b xs ys, x = .ref a ∧ y = .ref b ∧ H a = some (.tup xs) ∧ H b = some (.tup ys) ∧ xs.length + ys.length ≤ sizeLine ∧ ∀ q H', Same H H' → H' q = some (.tup (xs ++ ys)) → Q (.ref q) H'
theorem op_catS {X : Cx} : OpR X (binaryOp .Add) rCatS := by
  intro pins s st H x y v u Q I rx ry h
  obtain ⟨a, b, xs, ys, rfl, rfl, ha, hb, hz, q⟩ := h
  refine op_catA pins s st H _ _ v u Q I rx ry ⟨a, b, xs, ys, rfl, rfl, SqT.of ha, SqT.of hb, hz, fun e => ?_, fun _ e => ?_, fun _ _ p hp => q p _ (same_new (fun _ _ e => e) hp) upd_same⟩
  · subst e
    exact q b H (fun _ _ e => e) hb
  · subst e
    refine q a H (fun _ _ e => e) ?_
    rw [List.append_nil]
    exact ha
def rSlS : V → Option Int → Option Int → Hp → VK → Prop := fun x lo hi H Q => ∃ a xs, x = .ref a ∧ H a = some (.tup xs) ∧ ∀ q H', Same H H' → H' q = some (.tup (cutV xs lo hi)) → Q (.ref q) H'
theorem slS {X : Cx} : SlR X rSlS := by
  intro pins s st H x v vl vu lo hi sl Q I rx hs pl pu h
  obtain ⟨a, xs, rfl, ha, q⟩ := h
  refine sl_tupA pins s st H _ v vl vu lo hi sl Q I rx hs pl pu ⟨a, xs, rfl, SqT.of ha, fun e => q a H (fun _ _ e => e) ?_, fun _ p hp => q p _ (same_new (fun _ _ e => e) hp) upd_same⟩
  unfold cutV
  rw [e.1, e.2, List.drop_zero, Nat.sub_zero, List.take_length]
  exact ha
theorem Lf.num_v {l : Lf} (h : l.num = true) : l.v = .int (l.nat : Int) := by
  cases l with
  | n => cases h
  | b x => cases h
  | i x =>
    have h1 : 0 ≤ x := of_decide_eq_true h
    show V.int x = V.int (x.toNat : Int)
    rw [Int.toNat_of_nonneg h1]
theorem Lf.num_ix {l : Lf} (h : l.num = true) (k : Nat) : l.ix (k : Int) = decide (l.nat < k) := by
  cases l with
  | n => cases h
  | b x => cases h
  | i x =>
    have h1 : 0 ≤ x := of_decide_eq_true h
    show (decide (0 ≤ x) && decide (x < (k : Int))) = decide (x.toNat < k)
    rw [decide_eq_true h1, Bool.true_and]
    by_cases hx : x < (k : Int)
    · rw [decide_eq_true hx, decide_eq_true (by omega)]
    · rw [decide_eq_false hx, decide_eq_false (by omega)]
theorem Lf.ix_num {l : Lf} {k : Int} (h : l.ix k = true) : l.num = true := by
  cases l with
  | n => cases h
  | b x => cases h
  | i x =>
    have h' : (decide (0 ≤ x) && decide (x < k)) = true := h
    rw [Bool.and_eq_true] at h'
    exact h'.1
theorem fv_num {m : Mc} {a b c : Lf} {us ws : List Lf} (h : fvB m (.five a b c (some us) ws) = true) : ∀ l ∈ a :: b :: c :: (us ++ ws), l.num = true := by
  simp only [fvB, Bool.and_eq_true] at h
  obtain ⟨⟨⟨⟨⟨⟨⟨h1, h2⟩, h3⟩, h4⟩, h5⟩, _⟩, _⟩, _⟩ := h
  unfold rowB at h4 h5
  rw [List.all_eq_true] at h4 h5
  intro l hl
  simp only [List.mem_cons, List.mem_append] at hl
  rcases hl with e | e | e | e | e
  · rw [e]; exact Lf.ix_num h1
  · rw [e]; exact Lf.ix_num h2
  · rw [e]; exact Lf.ix_num h3
  · exact Lf.ix_num (h4 l e)
  · exact Lf.ix_num (h5 l e)
theorem bfalse {b : Bool} (h : ¬ b = true) : b = false := by
  cases b with
  | false => rfl
  | true => exact absurd rfl h
/-- those that are too great -/
def bigs (m : Mc) (ls : List Lf) : List Int := (ls.filter fun l => decide (m.c ≤ l.nat)).map fun l => (l.nat : Int)
theorem bigs_snoc (m : Mc) (ls : List Lf) (l : Lf) : bigs m (ls ++ [l]) = bigs m ls ++ (if m.c ≤ l.nat then [(l.nat : Int)] else []) := by
  unfold bigs
  rw [List.filter_append, List.map_append]
  by_cases h : m.c ≤ l.nat
  · rw [if_pos h]
    simp [h]
  · rw [if_neg h]
    simp [h]
theorem bigs_nil {m : Mc} {ls : List Lf} : (bigs m ls).isEmpty = true ↔ ∀ l ∈ ls, l.nat < m.c := by
  unfold bigs
  rw [List.isEmpty_iff, List.map_eq_nil_iff, List.filter_eq_nil_iff]
  constructor
  · intro h l hl
    have q := h l hl
    simp at q
    exact q
  · intro h l hl
    have q := h l hl
    simp
    exact q
section
variable {P : Program} {w : World} {K : PySem.W.Frag} {mg : Str → Option Value} {base : Heap} {f C PT : Addr} {fd : FuncData}
def spLIsF : Sp := fun vs H Q _ => ∃ (L : Addr) (m : Mc) (v : V) (fv : FV), vs = [.int (m.c : Int), .ref L, v] ∧ StepsAt H L m ∧ Shp H v fv ∧ (∀ a b c u w, fv = .five a b c u w → w.length ≤ 1200 ∧ ∀ us, u = some us → us.length ≤ 1200) ∧ ∀ H', Same H H' → Q (.bl (fvB m fv)) H'
abbrev scLIsFN : List Str := ["_law_commands", "_law_steps", "_law_value", "_law_x", "_law_s", "_law_t", "_law_command", "_law_u", "_law_w"]
theorem scLIsF : FnScope scLIsFN ["_law_commands", "_law_steps", "_law_value"] (defScope sLIsF) := ⟨rfl, rfl, rfl, by decide +kernel, rfl, by decide +kernel, by decide +kernel⟩
theorem ok_lisf (F : Fun K "_law_is_fault" "_law_is_fault" sLIsF f fd) (T : Txt mg) (cLL : Df P w K mg base 1 "_law_led" ["_law_steps", "_law_state", "_law_row_here"] spLLed) : FnOk P w K mg base CX0 2 f fd ["_law_commands", "_law_steps", "_law_value"] spLIsF := by
  refine F.ok scLIsF (fun vs H Q E h => ?_) (fun cdv A outer s H vs Q E hr h => ?_)
  · obtain ⟨L, m, v, fv, rfl, _⟩ := h
    rfl
  · obtain ⟨L, m, v, fv, rfl, hS, hv, hl, k⟩ := h
    have hu64 : (A.deeper (envOfC "_law_is_fault" (defScope sLIsF) s.heap.objs.size f cdv)).units + 64 < cLine := by have q := hr.un; omega
    refine ⟨_, (pss_cons (ps_if (PW.pt (pw_or (pt_not (pt_val (pe_isB T rfl (pv 2) (pe_tyTup T rfl)))) (pw_or (pt_cmpR op_ne (pe_callB (lenK (K := K) rfl) (by rfl) T.len PySem.boot_len (pa_cons (pv 2) pa_nil)) pe_int (nomark _)) (pw_or (pt_not (pt_val (pe_isB T rfl (pe_ix (ixT (K := K) rfl) (pv 2) pe_int (fun _ _ => rfl)) (pe_tyTup T rfl)))) (pw_or1 (pt_not (pt_val (pe_isB T rfl (pe_ix (ixT (K := K) rfl) (pv 2) pe_int (fun _ _ => rfl)) (pe_tyTup T rfl))))))))) (pss_one (ps_ret pe_bl)) pss_nil)
      (pss_cons (ps_for PassesOwn.never rfl (pi_tup (pe_op op_catS (pe_op op_catS (pe_slice (slS) (pv 2) po_none (po_some pe_int)) (pe_ix (ixT (K := K) rfl) (pv 2) pe_int (fun _ _ => rfl))) (pe_ix (ixT (K := K) rfl) (pv 2) pe_int (fun _ _ => rfl)))) (pg_name (i := 3) scLIsF.nd rfl (.inl rfl))
      (pss_one (ps_if (PW.pt (pw_or (pt_not (pt_val (pe_isB T rfl (pv 3) (pe_tyInt T rfl)))) (pw_or (pt_val (pe_isB T rfl (pv 3) (pe_tyBool T rfl))) (pw_or1 (pt_cmpR op_lt (pv 3) pe_int (nomark _)))))) (pss_one (ps_ret pe_bl)) pss_nil)))
      (pss_cons (ps_asg (pv 2) (pg_tup rfl (pgs_cons (pg_name (i := 4) scLIsF.nd rfl (.inl rfl)) (pgs_cons (pg_name (i := 5) scLIsF.nd rfl (.inl rfl)) (pgs_cons (pg_name (i := 6) scLIsF.nd rfl (.inl rfl)) (pgs_cons (pg_name (i := 7) scLIsF.nd rfl (.inl rfl)) (pgs_cons (pg_name (i := 8) scLIsF.nd rfl (.inl rfl)) pgs_nil)))))))
      (pss_cons (ps_if (PW.pt (pw_or (pt_cmpR op_ge (pv 4) (pe_callB (lenK (K := K) rfl) (by rfl) T.len PySem.boot_len (pa_cons (pv 1) pa_nil)) (nomark _)) (pw_or (pt_cmpR op_ge (pv 5) (pe_callB (lenK (K := K) rfl) (by rfl) T.len PySem.boot_len (pa_cons (pv 1) pa_nil)) (nomark _)) (pw_or (pt_cmpR op_ne (pe_callB (lenK (K := K) rfl) (by rfl) T.len PySem.boot_len (pa_cons (pv 7) pa_nil)) (pe_callB (lenK (K := K) rfl) (by rfl) T.len PySem.boot_len (pa_cons (pv 8) pa_nil)) (nomark _)) (pw_or1 (pt_cmpR (op_neD hu64) (pe_lc (own := [("_law_x", 3)]) (g := gName 3) (tt := _) (by rfl) scLIsF.nd (pi_tup (pe_op op_catS (pe_op op_catS (pe_tup (pa_cons (pv 6) pa_nil)) (pv 7)) (pv 8))) (blkOk_by (own := [("_law_x", 3)]) (N := scLIsFN) (sc := defScope sLIsF) (by decide +kernel)) (fun _ _ _ _ _ => pg_name (i := 3) scLIsF.nd rfl (Or.inl rfl)) (fun _ _ _ _ _ => pts_one (pt_cmpR op_ge (pv 3) (pv 0) (nomark _))) (fun _ _ _ _ _ => (pv 3))) (pe_lst pa_nil) (nomark _))))))) (pss_one (ps_ret pe_bl)) pss_nil)
      (pss_cons (ps_if (pt_cmpR op_ne (pe_df cLL hr (by decide) rfl (pa_cons (pv 1) (pa_cons (pv 4) (pa_cons (pv 7) pa_nil)))) (pe_df cLL hr (by decide) rfl (pa_cons (pv 1) (pa_cons (pv 5) (pa_cons (pv 8) pa_nil)))) (nomark _)) (pss_one (ps_ret pe_bl)) pss_nil)
      (pss_one (ps_ret (pe_cmpR op_ne (pe_df cLL hr (by decide) rfl (pa_cons (pv 1) (pa_cons (pv 4) (pa_cons (pe_op op_catS (pe_tup (pa_cons (pv 6) pa_nil)) (pv 7)) pa_nil)))) (pe_df cLL hr (by decide) rfl (pa_cons (pv 1) (pa_cons (pv 5) (pa_cons (pe_op op_catS (pe_tup (pa_cons (pv 6) pa_nil)) (pv 8)) pa_nil)))) (nomark _))))))))), ?_⟩
    have k0 : Same H H := fun _ _ e => e
    obtain ⟨ok, ls, hL, hLs⟩ := id hS
    have hll : (ls.map V.ref).length = m.n := by rw [List.length_map]; exact ListsAt.len hLs
    cases hv with
    | non => exact ⟨_, rfl, .non, .ty "tuple", .type "NoneType", .type "tuple", false, rfl, .ty _, .base .non, kit_ty (by decide +kernel), _, rfl, iteT (iteT (k H k0))⟩
    | int i => exact ⟨_, rfl, .int i, .ty "tuple", .type "int", .type "tuple", false, rfl, .ty _, .base (.int i), kit_ty (by decide +kernel), _, rfl, iteT (iteT (k H k0))⟩
    | @lst a xs ha => exact ⟨_, rfl, .ref a, .ty "tuple", .type "list", .type "tuple", false, rfl, .ty _, .base (.lst ha), kit_ty (by decide +kernel), _, rfl, iteT (iteT (k H k0))⟩
    | @tup a xs ha hn =>
      refine ⟨_, rfl, .ref a, .ty "tuple", .type "tuple", .type "tuple", true, rfl, .ty _, .base (.tup ha), kit_ty (by decide +kernel), _, rfl, iteF ?_⟩
      refine ⟨_, rfl, a, xs, rfl, .inr (SqT.of ha), rfl, _, rfl, ?_⟩
      have e : (!decide (V.int (xs.length : Nat) = V.int 5)) = true := by
        rw [decide_eq_false fun z => hn (by injection z with z; omega)]
        rfl
      rw [e]
      exact iteT (iteT (k H k0))
    | @five t a b c u w' uo ws ht hU hW =>
      obtain ⟨wl, ul⟩ := hl a b c uo ws rfl
      refine ⟨_, rfl, .ref t, .ty "tuple", .type "tuple", .type "tuple", true, rfl, .ty _, .base (.tup ht), kit_ty (by decide +kernel), _, rfl, iteF ?_⟩
      refine ⟨_, rfl, t, _, rfl, .inr (SqT.of ht), rfl, _, rfl, iteF ?_⟩
      rcases hU with ⟨rfl, uA, uxs, rfl, hU⟩ | ⟨us, rfl, uA, rfl, hU⟩
      · exact ⟨_, rfl, t, _, _, _, rfl, rfl, SqT.of ht, atI_nat (j := 3) rfl, .ref uA, .ty "tuple", .type "list", .type "tuple", false, rfl, .ty _, .base (.lst hU), kit_ty (by decide +kernel), _, rfl, iteT (iteT (k H k0))⟩
      obtain ⟨wA, rfl, hW⟩ := hW
      have ul' := ul us rfl
      refine ⟨_, rfl, t, _, _, _, rfl, rfl, SqT.of ht, atI_nat (j := 3) rfl, .ref uA, .ty "tuple", .type "tuple", .type "tuple", true, rfl, .ty _, .base (.tup hU), kit_ty (by decide +kernel), _, rfl, iteF ?_⟩
      refine ⟨_, rfl, t, _, _, _, rfl, rfl, SqT.of ht, atI_nat (j := 4) rfl, .ref wA, .ty "tuple", .type "tuple", .type "tuple", true, rfl, .ty _, .base (.tup hW), kit_ty (by decide +kernel), _, rfl, iteF ?_⟩
      dsimp only [tNext]
      -- the loop over all numbers
      refine seq_p (fun st H' => Same H H' ∧ (∀ l ∈ a :: b :: c :: (us ++ ws), l.num = true) ∧ ∃ j3, st = [some (.int (m.c : Int)), some (.ref L), some (.ref t), j3, none, none, none, none, none]) ?_ ?_
      · rintro st H1 ⟨s1, nums, j3, rfl⟩
        have ht1 := s1 _ _ ht
        have hU1 := s1 _ _ hU
        have hW1 := s1 _ _ hW
        have hS1 := hS.same s1
        have hL1 := s1 _ _ hL
        have na : a.num = true := nums a List.mem_cons_self
        have nb : b.num = true := nums b (List.mem_cons_of_mem _ List.mem_cons_self)
        have nc : c.num = true := nums c (List.mem_cons_of_mem _ (List.mem_cons_of_mem _ List.mem_cons_self))
        have nu : ∀ l ∈ us, l.num = true := fun l h => nums l (List.mem_cons_of_mem _ (List.mem_cons_of_mem _ (List.mem_cons_of_mem _ (List.mem_append_left _ h))))
        have nw : ∀ l ∈ ws, l.num = true := fun l h => nums l (List.mem_cons_of_mem _ (List.mem_cons_of_mem _ (List.mem_cons_of_mem _ (List.mem_append_right _ h))))
        have va := Lf.num_v na
        have vb := Lf.num_v nb
        have vc := Lf.num_v nc
        refine ⟨_, rfl, t, _, rfl, SqT.of ht1, rfl, _, _, rfl, _, _, rfl, _, _, rfl, _, _, rfl, _, _, rfl, rfl, ?_⟩
        -- s, t
        refine ⟨_, rfl, _, rfl, L, _, rfl, .inl (SqL.of hL1), (a.nat : Int), _, va, rfl, _, rfl, ?_⟩
        rw [hll]
        refine ite2 (fun q => ?_) (fun qa => ?_)
        · have e : fvB m (.five a b c (some us) ws) = false := by
            have q' := of_decide_eq_true q
            have : a.ix (m.n : Int) = false := by rw [Lf.num_ix na]; exact decide_eq_false (by omega)
            simp only [fvB, this, Bool.false_and]
          rw [e] at k
          exact iteT (k H1 s1)
        refine ⟨_, rfl, _, rfl, L, _, rfl, .inl (SqL.of hL1), (b.nat : Int), _, vb, rfl, _, rfl, ?_⟩
        rw [hll]
        refine ite2 (fun q => ?_) (fun qb => ?_)
        · have e : fvB m (.five a b c (some us) ws) = false := by
            have q' := of_decide_eq_true q
            have : b.ix (m.n : Int) = false := by rw [Lf.num_ix nb]; exact decide_eq_false (by omega)
            simp only [fvB, this, Bool.and_false, Bool.false_and]
          rw [e] at k
          exact iteT (k H1 s1)
        have la : a.nat < m.n := by
          have q := of_decide_eq_false (bfalse qa)
          omega
        have lb : b.nat < m.n := by
          have q := of_decide_eq_false (bfalse qb)
          omega
        -- the lengths
        refine ⟨_, rfl, uA, _, rfl, .inr (SqT.of hU1), _, rfl, wA, _, rfl, .inr (SqT.of hW1), rfl, _, rfl, ?_⟩
        rw [lfs_len, lfs_len, deqI]
        cases el : us.length == ws.length with
        | false =>
          have e : fvB m (.five a b c (some us) ws) = false := by simp [fvB, el]
          rw [e] at k
          exact iteT (iteT (k H1 s1))
        | true =>
        refine iteF ?_
        -- the commands
        refine ⟨_, rfl, (by show 1 ≤ sizeLine; decide), fun q1 hq1 => ?_⟩
        have s2 : Same H1 (upd H1 q1 (.tup [c.v])) := same_new (fun _ _ e => e) hq1
        refine ⟨_, rfl, q1, uA, _, _, rfl, rfl, upd_same, s2 _ _ hU1, ?_, fun q2 H2 s3 e2 => ?_⟩
        · rw [lfs_len]
          show 1 + us.length ≤ sizeLine
          exact Nat.le_of_lt (small (by omega))
        have s12 := (s1.trans s2).trans s3
        refine ⟨_, rfl, q2, wA, _, _, rfl, rfl, e2, s12 _ _ hW, ?_, fun q3 H3 s4 e3 => ?_⟩
        · rw [List.length_append, lfs_len, lfs_len]
          show 1 + us.length + ws.length ≤ sizeLine
          exact Nat.le_of_lt (small (by omega))
        have s13 := s12.trans s4
        have e3' : H3 q3 = some (.tup (lfs (c :: (us ++ ws)))) := by
          rw [e3]
          show some (HO.tup (([c.v] ++ us.map Lf.v) ++ ws.map Lf.v)) = some (HO.tup (c.v :: (us ++ ws).map Lf.v))
          rw [List.map_append]
          rfl
        refine ⟨q3, rfl, ⟨_, SqT.of e3'⟩, fun R hR => ?_⟩
        refine lc_tup (K := K) (a := q3) (xs := lfs (c :: (us ++ ws))) (fun i H' => Same H3 H' ∧ H' R = some (.lst (ilst (bigs m ((c :: (us ++ ws)).take i))))) ⟨same_new (fun _ _ e => e) hR, upd_same⟩ (fun i H' _ q => SqT.of (q.1 _ _ e3')) ?_ ?_
        · rintro i x H4 hi ⟨s5, e5⟩
          obtain ⟨l, hl', rfl⟩ := lfs_get hi
          have nl : l.num = true := by
            have q := List.mem_of_getElem? hl'
            simp only [List.mem_cons, List.mem_append] at q
            rcases q with q | q | q
            · rw [q]; exact nc
            · exact nu l q
            · exact nw l q
          have vl := Lf.num_v nl
          have hil : i < 1 + us.length + ws.length := by
            have q := (List.getElem?_eq_some_iff.mp hl').1
            simp only [List.length_cons, List.length_append] at q
            omega
          refine ⟨rfl, ?_⟩
          refine ⟨_, rfl, _, rfl, (l.nat : Int), _, vl, rfl, _, rfl, ?_⟩
          rw [take_snoc hl', bigs_snoc]
          refine ite2 (fun q => ?_) (fun q => ?_)
          · have q' := of_decide_eq_true q
            rw [if_pos (by omega)]
            refine ⟨_, rfl, _, e5, ?_, same_updF s5 hR, ?_⟩
            · rw [ilst_len]
              unfold bigs
              rw [List.length_map]
              have z := List.length_filter_le (fun l => decide (m.c ≤ l.nat)) ((c :: (us ++ ws)).take i)
              rw [List.length_take] at z
              exact small (by omega)
            · rw [upd_same, vl]
              unfold ilst
              rw [List.map_append]
              rfl
          · have q' := of_decide_eq_false (bfalse q)
            rw [if_neg (by omega), List.append_nil]
            exact ⟨s5, e5⟩
        · rintro H4 ⟨s5, e5⟩
          rw [lfs_len, List.take_length] at e5
          have s14 := s13.trans s5
          refine ⟨Nat.zero_le _, fun em hem => ?_⟩
          have s6 : Same H4 (upd H4 em (.lst [])) := same_new (fun _ _ e => e) hem
          refine ⟨_, _, .lst (SqL.of (s6 _ _ e5)) (dpInts K _ _), .lst (SqL.of upd_same) .nil, shaped_ints _, shaped_ints [], _, rfl, ?_⟩
          rw [eqv_nil]
          have s16 := s14.trans s6
          revert s16
          generalize upd H4 em (.lst []) = H5
          intro s16
          cases eb : (bigs m (c :: (us ++ ws))).isEmpty with
          | false =>
            have e : fvB m (.five a b c (some us) ws) = false := by
              refine bfalse fun z => ?_
              have z2 : (bigs m (c :: (us ++ ws))).isEmpty = true := bigs_nil.mpr fun l hl => by
                simp only [fvB, Bool.and_eq_true] at z
                obtain ⟨⟨⟨⟨⟨⟨⟨_, _⟩, h3⟩, h4⟩, h5⟩, _⟩, _⟩, _⟩ := z
                unfold rowB at h4 h5
                rw [List.all_eq_true] at h4 h5
                simp only [List.mem_cons, List.mem_append] at hl
                rcases hl with q | q | q
                · rw [q]; exact (Lf.ix_nat h3).2
                · exact (Lf.ix_nat (h4 l q)).2
                · exact (Lf.ix_nat (h5 l q)).2
              rw [eb] at z2
              cases z2
            rw [e] at k
            exact iteT (k H5 s16)
          | true =>
          have small' := bigs_nil.mp eb
          have lc := small' c List.mem_cons_self
          refine iteF ?_
          have ru : rowB m us = true := by
            unfold rowB
            rw [List.all_eq_true]
            intro l hl
            rw [Lf.num_ix (nu l hl)]
            exact decide_eq_true (small' l (List.mem_cons_of_mem _ (List.mem_append_left _ hl)))
          have rw_ : rowB m ws = true := by
            unfold rowB
            rw [List.all_eq_true]
            intro l hl
            rw [Lf.num_ix (nw l hl)]
            exact decide_eq_true (small' l (List.mem_cons_of_mem _ (List.mem_append_right _ hl)))
          obtain ⟨r1, r2⟩ := row_nat ru
          obtain ⟨t1, t2⟩ := row_nat rw_
          have hU5 := s16 _ _ hU
          have hW5 := s16 _ _ hW
          rw [r1] at hU5
          rw [t1] at hW5
          have xa : a.ix (m.n : Int) = true := by rw [Lf.num_ix na]; exact decide_eq_true la
          have xb : b.ix (m.n : Int) = true := by rw [Lf.num_ix nb]; exact decide_eq_true lb
          have xc : c.ix (m.c : Int) = true := by rw [Lf.num_ix nc]; exact decide_eq_true lc
          refine ⟨_, rfl, _, rfl, _, rfl, L, uA, m, a.nat, natsL us, (by rw [va]; rfl), hS.same s16, la, r2, hU5, _, rfl, _, rfl, _, rfl, L, wA, m, b.nat, natsL ws, (by rw [vb]; rfl), hS.same s16, lb, t2, hW5, rfl, _, rfl, ?_⟩
          rw [deqI]
          cases e1 : m.led a.nat (natsL us) == m.led b.nat (natsL ws) with
          | false =>
            have e : fvB m (.five a b c (some us) ws) = false := by simp only [fvB, e1, Bool.and_false, Bool.false_and]
            rw [e] at k
            exact iteT (k H5 s16)
          | true =>
          refine iteF ?_
          have okc : RowOk m (c.nat :: natsL us) := fun x hx => by
            rcases List.mem_cons.mp hx with e | e
            · rw [e]; exact lc
            · exact r2 x e
          have okd : RowOk m (c.nat :: natsL ws) := fun x hx => by
            rcases List.mem_cons.mp hx with e | e
            · rw [e]; exact lc
            · exact t2 x e
          refine ⟨_, rfl, _, rfl, _, rfl, (by show 1 ≤ sizeLine; decide), fun p1 hp1 => ?_⟩
          have s7 : Same H5 (upd H5 p1 (.tup [c.v])) := same_new (fun _ _ e => e) hp1
          refine ⟨_, rfl, p1, uA, _, _, rfl, rfl, upd_same, s7 _ _ hU5, ?_, fun p2 H6 s8 e8 => ?_⟩
          · rw [nts_len]
            unfold natsL
            rw [List.length_map]
            show 1 + us.length ≤ sizeLine
            exact Nat.le_of_lt (small (by omega))
          have s18 := (s16.trans s7).trans s8
          refine ⟨L, p2, m, a.nat, c.nat :: natsL us, (by rw [va]; rfl), hS.same s18, la, okc, by rw [e8, vc]; rfl, ?_⟩
          refine ⟨_, rfl, _, rfl, _, rfl, (by show 1 ≤ sizeLine; decide), fun p3 hp3 => ?_⟩
          have s9 : Same H6 (upd H6 p3 (.tup [c.v])) := same_new (fun _ _ e => e) hp3
          refine ⟨_, rfl, p3, wA, _, _, rfl, rfl, upd_same, s9 _ _ (s8 _ _ (s7 _ _ hW5)), ?_, fun p4 H7 s10 e10 => ?_⟩
          · rw [nts_len]
            unfold natsL
            rw [List.length_map]
            show 1 + ws.length ≤ sizeLine
            exact Nat.le_of_lt (small (by omega))
          have s20 := (s18.trans s9).trans s10
          refine ⟨L, p4, m, b.nat, c.nat :: natsL ws, (by rw [vb]; rfl), hS.same s20, lb, okd, by rw [e10, vc]; rfl, rfl, ?_⟩
          have e : fvB m (.five a b c (some us) ws) = !(m.led a.nat (c.nat :: natsL us) == m.led b.nat (c.nat :: natsL ws)) := by
            simp only [fvB, xa, xb, xc, ru, rw_, el, e1, Bool.true_and]
          rw [e] at k
          rw [deqI]
          exact k _ s20
      · intro NX hNX
        refine ⟨_, rfl, _, rfl, t, _, rfl, ht, fun q1 H1 s1 e1 => ⟨_, rfl, t, _, _, _, rfl, rfl, SqT.of (s1 _ _ ht), atI_nat (j := 3) rfl, q1, uA, _, _, rfl, rfl, e1, s1 _ _ hU, ?_, fun q2 H2 s2 e2 => ?_⟩⟩
        · rw [lfs_len]
          show 3 + us.length ≤ sizeLine
          exact Nat.le_of_lt (small (by omega))
        have s12 := s1.trans s2
        refine ⟨_, rfl, t, _, _, _, rfl, rfl, SqT.of (s12 _ _ ht), atI_nat (j := 4) rfl, q2, wA, _, _, rfl, rfl, e2, s12 _ _ hW, ?_, fun q3 H3 s3 e3 => ?_⟩
        · rw [List.length_append, lfs_len, lfs_len]
          show 3 + us.length + ws.length ≤ sizeLine
          exact Nat.le_of_lt (small (by omega))
        have s13 := s12.trans s3
        have e3' : H3 q3 = some (.tup (lfs (a :: b :: c :: (us ++ ws)))) := by
          rw [e3]
          show some (HO.tup (([a.v, b.v, c.v] ++ us.map Lf.v) ++ ws.map Lf.v)) = some (HO.tup (a.v :: b.v :: c.v :: (us ++ ws).map Lf.v))
          rw [List.map_append]
          rfl
        refine ⟨q3, rfl, ⟨_, SqT.of e3'⟩, for_tup (K := K) (a := q3) (xs := lfs (a :: b :: c :: (us ++ ws))) (fun i st H' => H' = H3 ∧ (∀ l ∈ (a :: b :: c :: (us ++ ws)).take i, l.num = true) ∧ ∃ j3, st = [some (.int (m.c : Int)), some (.ref L), some (.ref t), j3, none, none, none, none, none])
          ⟨rfl, fun _ h => absurd h List.not_mem_nil, _, rfl⟩ (fun i st H' _ q => by rw [q.1]; exact SqT.of e3') ?_ ?_⟩
        · rintro i x st H4 hi ⟨rfl, hn, j3, rfl⟩
          obtain ⟨l, hl', rfl⟩ := lfs_get hi
          have bad : ¬ l.num = true → ∀ H', Same H H' → Q (.bl false) H' := fun z => by
            have e : fvB m (.five a b c (some us) ws) = false := bfalse fun q => z (fv_num q l (List.mem_of_getElem? hl'))
            rw [e] at k
            exact k
          have good : l.num = true → ∀ l' ∈ (a :: b :: c :: (us ++ ws)).take (i + 1), l'.num = true := fun z l' h => by
            rw [take_snoc hl'] at h
            rcases List.mem_append.mp
                                                                        h with h | h
            · exact hn l' h
            · rw [List.mem_singleton.mp h]; exact z
          cases l with
          | n => exact ⟨_, rfl, .non, .ty "int", .type "NoneType", .type "int", false, rfl, .ty _, .base .non, kit_ty (by decide +kernel), _, rfl, iteT (iteT (bad (fun z => by cases z) H4 s13))⟩
          | b x => exact ⟨_, rfl, .bl x, .ty "int", .type "bool", .type "int", true, rfl, .ty _, .base (.bl x), kit_ty (by decide +kernel), _, rfl, iteF ⟨_, rfl, .bl x, .ty "bool", .type "bool", .type "bool", true, rfl, .ty _, .base (.bl x), kit_ty (by decide +kernel), _, rfl, iteT (iteT (bad (fun z => by cases z) H4 s13))⟩⟩
          | i x =>
            refine ⟨_, rfl, .int x, .ty "int", .type "int", .type "int", true, rfl, .ty _, .base (.int x), kit_ty (by decide +kernel), _, rfl, iteF ⟨_, rfl, .int x, .ty "bool", .type "int", .type "bool", false, rfl, .ty _, .base (.int x), kit_ty (by decide +kernel), _, rfl, iteF ?_⟩⟩
            refine ⟨_, rfl, x, 0, rfl, rfl, _, rfl, ?_⟩
            refine ite2 (fun q => ?_) (fun q => ?_)
            · exact bad (fun z => by have z' := of_decide_eq_true (show decide (0 ≤ x) = true from z); have q' := of_decide_eq_true q; omega) H4 s13
            · exact ⟨rfl, good (by have q' := of_decide_eq_false (bfalse q); exact decide_eq_true (by omega)), _, rfl⟩
        · rintro st H4 ⟨rfl, hn, j3, rfl⟩
          rw [lfs_len, List.take_length] at hn
          exact hNX _ _ ⟨s13, hn, _, rfl⟩
end
end K53
namespace K53
open PySem PySem.Spec PyProof.Rows L2 L2.KR
def lfn (us : List Nat) : List Lf := us.map fun x : Nat => Lf.i (x : Int)
theorem lfn_v (us : List Nat) : lfs (lfn us) = nts us := by
  unfold lfs lfn nts
  rw [List.map_map]
  rfl
theorem lfn_len (us : List Nat) : (lfn us).length = us.length := List.length_map _
theorem cut_one (us : List Nat) : cutV (nts us) (some 1) none = nts (us.drop 1) := by
  unfold cutV
  rw [HT.sIx_none, show HT.sIx (nts us).length 0 (some 1) = min 1 (nts us).length from HT.sIx_nat (nts us).length 0 1]
  cases us with
  | nil => rfl
  | cons x r =>
    rw [show min 1 (nts (x :: r)).length = 1 by rw [nts_len, List.length_cons]; omega]
    show List.take ((nts (x :: r)).length - 1) (nts r) = nts r
    rw [nts_len, List.length_cons, Nat.add_sub_cancel, ← nts_len, List.take_length]
theorem deal_tup {H H' : Hp} {D dl : Addr} (kp : Kp [D, dl] H H') (hd : DealAt H D dl) : ∀ a xs, H a = some (.tup xs) → H' a = some (.tup xs) := fun a xs e => kp _ _ e fun z => by
  obtain ⟨b, ns, z1, z2, _⟩ := hd
  simp only [List.mem_cons, List.not_mem_nil, or_false] at z
  rcases z with z | z
  · rw [z, z1] at e; cases e
  · rw [z, z2] at e; cases e
section
variable {P : Program} {w : World} {K : PySem.W.Frag} {mg : Str → Option Value} {base : Heap} {f C PT : Addr} {fd : FuncData}
def spNear : Sp := fun vs H Q _ => ∃ (D dl L : Addr) (m : Mc) (xs : List V) (v : V), vs = [.ref D, .int (m.c : Int), .ref L, v] ∧ DealAt H D dl ∧ m.Ok ∧ H L = some (.lst xs) ∧ xs.length = m.n ∧ L ∉ [D, dl] ∧ NumV m H v ∧
  ∀ H' x fv, Kp [D, dl] H H' → DealAt H' D dl → Shp H' x fv → (∀ a b c u w, fv = .five a b c u w → w.length ≤ 1200 ∧ ∀ us, u = some us → us.length ≤ 1200) → Q x H'
abbrev scNearN : List Str := ["_law_deal", "_law_commands", "_law_steps", "_law_found", "_law_many", "_law_length", "_law_s", "_law_t", "_law_command", "_law_u", "_law_w", "_law_form"]
theorem scNear : FnScope scNearN ["_law_deal", "_law_commands", "_law_steps", "_law_found"] (defScope sNear) := ⟨rfl, rfl, rfl, by decide +kernel, rfl, by decide +kernel, by decide +kernel⟩
theorem ok_near (F : Fun K "_law_near" "_law_near" sNear f fd) (T : Txt mg) (cAny : Df P w K mg base 1 "_law_any" ["_law_deal", "_law_bound"] spAny) (cOf : Df P w K mg base 2 "_law_of" ["_law_deal", "_law_some"] spOf) (cLR : Df P w K mg base 2 "_law_row" ["_law_deal", "_law_commands", "_law_length"] spLRow) :
    FnOk P w K mg base CX0 3 f fd ["_law_deal", "_law_commands", "_law_steps", "_law_found"] spNear := by
  refine F.ok scNear (fun vs H Q E h => ?_) (fun cdv A outer s H vs Q E hr h => ?_)
  · obtain ⟨D, dl, L, m, xs, v, rfl, _⟩ := h
    rfl
  · obtain ⟨D, dl, L, m, xs, v, rfl, hD, ok, hL, hxl, nL, hv, k⟩ := h
    refine ⟨_, (pss_cons (ps_par (i := 4) (j := 5) (by rfl) scNear.nd rfl rfl (by decide) rfl rfl (pa_cons (pe_callB (lenK (K := K) rfl) (by rfl) T.len PySem.boot_len (pa_cons (pv 2) pa_nil)) (pa_cons (pe_op op_add pe_int (pe_df cAny hr (by decide) rfl (pa_cons (pv 0) (pa_cons pe_int pa_nil)))) pa_nil)) (by rfl))
      (pss_cons (ps_par3 (i := 6) (j := 7) (l := 8) rfl scNear.nd rfl rfl rfl (by decide) (by decide) (by decide) rfl rfl rfl (pa_cons (pe_df cAny hr (by decide) rfl (pa_cons (pv 0) (pa_cons (pv 4) pa_nil))) (pa_cons (pe_df cAny hr (by decide) rfl (pa_cons (pv 0) (pa_cons (pv 4) pa_nil))) (pa_cons (pe_df cAny hr (by decide) rfl (pa_cons (pv 0) (pa_cons (pv 1) pa_nil))) pa_nil))) (by rfl))
      (pss_cons (ps_par3 (i := 9) (j := 10) (l := 11) rfl scNear.nd rfl rfl rfl (by decide) (by decide) (by decide) rfl rfl rfl (pa_cons (pe_df cLR hr (by decide) rfl (pa_cons (pv 0) (pa_cons (pv 1) (pa_cons (pv 5) pa_nil)))) (pa_cons (pe_df cLR hr (by decide) rfl (pa_cons (pv 0) (pa_cons (pv 1) (pa_cons (pv 5) pa_nil)))) (pa_cons (pe_df cAny hr (by decide) rfl (pa_cons (pv 0) (pa_cons pe_int pa_nil))) pa_nil))) (by rfl))
      (pss_cons (ps_if (PW.pt (pw_and (pt_cmpR op_notN (pv 3) pe_non (nomark _)) (pw_and1 (pt_cmpR op_gt (pe_df cAny hr (by decide) rfl (pa_cons (pv 0) (pa_cons pe_int pa_nil))) pe_int (nomark _))))) (pss_one (ps_asg (pv 3) (pg_tup rfl (pgs_cons (pg_name (i := 6) scNear.nd rfl (.inl rfl)) (pgs_cons (pg_name (i := 7) scNear.nd rfl (.inl rfl)) (pgs_cons (pg_name (i := 8) scNear.nd rfl (.inl rfl)) (pgs_cons (pg_name (i := 9) scNear.nd rfl (.inl rfl)) (pgs_cons (pg_name (i := 10) scNear.nd rfl (.inl rfl)) pgs_nil)))))))) pss_nil)
      (pss_cons (ps_if (pt_cmpR op_eq (pv 11) pe_int (nomark _)) (pss_one (ps_ret (pe_tup (pa_cons (pv 7) (pa_cons (pv 6) (pa_cons (pv 8) (pa_cons (pv 10) (pa_cons (pv 9) pa_nil)))))))) pss_nil)
      (pss_cons (ps_if (pt_cmpR op_eq (pv 11) pe_int (nomark _)) (pss_one (ps_ret (pe_tup (pa_cons (pv 6) (pa_cons (pv 7) (pa_cons (pv 8) (pa_cons (pe_op op_catS (pv 9) (pe_tup (pa_cons (pe_df cAny hr (by decide) rfl (pa_cons (pv 0) (pa_cons (pv 1) pa_nil))) pa_nil))) (pa_cons (pe_op op_catS (pv 10) (pe_tup (pa_cons (pe_df cAny hr (by decide) rfl (pa_cons (pv 0) (pa_cons (pv 1) pa_nil))) pa_nil))) pa_nil)))))))) pss_nil)
      (pss_cons (ps_if (pt_cmpR op_eq (pv 11) pe_int (nomark _)) (pss_one (ps_ret (pe_tup (pa_cons (pv 6) (pa_cons (pv 7) (pa_cons (pv 8) (pa_cons (pv 9) (pa_cons (pe_op op_catS (pv 10) (pe_tup (pa_cons (pe_df cAny hr (by decide) rfl (pa_cons (pv 0) (pa_cons (pv 1) pa_nil))) pa_nil))) pa_nil)))))))) pss_nil)
      (pss_cons (ps_if (pt_cmpR op_eq (pv 11) pe_int (nomark _)) (pss_one (ps_ret (pe_tup (pa_cons (pv 6) (pa_cons (pv 7) (pa_cons (pe_df cAny hr (by decide) rfl (pa_cons (pv 0) (pa_cons (pv 1) pa_nil))) (pa_cons (pv 9) (pa_cons (pv 10) pa_nil)))))))) pss_nil)
      (pss_cons (ps_if (pt_cmpR op_eq (pv 11) pe_int (nomark _)) (pss_one (ps_ret (pe_df cOf hr (by decide) rfl (pa_cons (pv 0) (pa_cons (pe_lst (pa_cons (pe_tup (pa_cons (pv 6) (pa_cons (pv 7) (pa_cons (pv 8) (pa_cons (pe_callTy call_list_of (by rfl) T.list (by decide +kernel) (pa_cons (pv 9) pa_nil)) (pa_cons (pv 10) pa_nil)))))) (pa_cons (pe_lst (pa_cons (pv 6) (pa_cons (pv 7) (pa_cons (pv 8) (pa_cons (pv 9) (pa_cons (pv 10) pa_nil)))))) (pa_cons (pe_tup (pa_cons (pv 6) (pa_cons (pv 7) (pa_cons (pv 8) (pa_cons (pv 9) pa_nil))))) (pa_cons pe_non (pa_cons (pe_tup (pa_cons (pv 6) (pa_cons (pv 7) (pa_cons (pv 8) (pa_cons (pv 9) (pa_cons (pv 10) (pa_cons (pe_tup pa_nil) pa_nil))))))) (pa_cons pe_int pa_nil))))))) pa_nil))))) pss_nil)
      (pss_cons (ps_if (pt_cmpR op_eq (pv 11) pe_int (nomark _)) (pss_one (ps_ret (pe_tup (pa_cons (pv 6) (pa_cons (pv 7) (pa_cons (pv 8) (pa_cons (pe_op op_catS (pv 9) (pe_tup (pa_cons (pe_df cOf hr (by decide) rfl (pa_cons (pv 0) (pa_cons (pe_lst (pa_cons (pv 1) (pa_cons (pe_un un_neg pe_int) (pa_cons pe_bl (pa_cons pe_non pa_nil))))) pa_nil))) pa_nil))) (pa_cons (pe_op op_catS (pv 10) (pe_tup (pa_cons (pe_df cAny hr (by decide) rfl (pa_cons (pv 0) (pa_cons (pv 1) pa_nil))) pa_nil))) pa_nil)))))))) pss_nil)
      (pss_cons (ps_if (pt_cmpR op_eq (pv 11) pe_int (nomark _)) (pss_one (ps_ret (pe_tup (pa_cons (pe_df cOf hr (by decide) rfl (pa_cons (pv 0) (pa_cons (pe_lst (pa_cons (pv 4) (pa_cons pe_bl (pa_cons pe_bl (pa_cons (pe_un un_neg pe_int) (pa_cons pe_non (pa_cons (pv 6) pa_nil))))))) pa_nil))) (pa_cons (pv 7) (pa_cons (pe_df cOf hr (by decide) rfl (pa_cons (pv 0) (pa_cons (pe_lst (pa_cons (pv 8) (pa_cons (pv 1) (pa_cons pe_bl pa_nil)))) pa_nil))) (pa_cons (pv 9) (pa_cons (pv 10) pa_nil)))))))) pss_nil)
      (pss_cons (ps_if (pt_cmpR op_eq (pv 11) pe_int (nomark _)) (pss_one (ps_ret (pe_tup (pa_cons (pv 6) (pa_cons (pv 7) (pa_cons (pv 8) (pa_cons (pe_slice slS (pv 9) (po_some pe_int) po_none) (pa_cons (pe_slice slS (pv 10) (po_some pe_int) po_none) pa_nil)))))))) pss_nil)
      (pss_one (ps_ret (pe_tup (pa_cons (pv 6) (pa_cons (pv 7) (pa_cons (pv 8) (pa_cons (pv 9) (pa_cons (pv 10) pa_nil)))))))))))))))))))), ?_⟩
    have n1 := ok.n1
    have n4 := ok.n4
    have c1 := ok.c1
    have c3 := ok.c3
    have hn : m.n = m.st.length := rfl
    refine ⟨_, rfl, L, _, rfl, .inl (SqL.of hL), _, rfl, D, dl, 3, rfl, by decide, by decide, hD, fun H1 x1 kp1 hd1 hx1 => ⟨_, _, rfl, rfl, _, _, rfl, ?_⟩⟩
    have el : ((1 : Int) + (x1 : Nat)) = ((1 + x1 : Nat) : Int) := by omega
    generalize hlg : 1 + x1 = lg at el
    rw [hxl]
    refine ⟨_, rfl, _, rfl, D, dl, m.n, rfl, by omega, by omega, hd1, fun H2 s0 kp2 hd2 hs0 => ⟨_, rfl, _, rfl, D, dl, m.n, rfl, by omega, by omega, hd2, fun H3 t0 kp3 hd3 ht0 => ⟨_, rfl, _, rfl, D, dl, m.c, rfl, by omega, by omega, hd3, fun H4 c0 kp4 hd4 hc0 => ⟨_, _, _, rfl, ?_⟩⟩⟩⟩
    refine ⟨_, rfl, _, rfl, _, rfl, D, dl, m.c, lg, (by show [V.ref D, V.int (m.c : Int), V.int ((1 : Int) + (x1 : Nat))] = _; rw [el]), hd4, by omega, by omega, by omega, fun H5 uA us kp5 hd5 _ eu lu _ => ⟨_, rfl, _, rfl, _, rfl, D, dl, m.c, lg, (by show [V.ref D, V.int (m.c : Int), V.int ((1 : Int) + (x1 : Nat))] = _; rw [el]), hd5, by omega, by omega, by omega, fun H6 wA ws kp6 hd6 _ ew lw _ => ⟨_, rfl, D, dl, 10, rfl, by decide, by decide, hd6, fun H7 form kp7 hd7 hform => ⟨_, _, _, rfl, ?_⟩⟩⟩⟩
    have kp07 := (((((kp1.trans kp2).trans kp3).trans kp4).trans kp5).trans kp6).trans kp7
    have eu7 := deal_tup kp7 hd6 _ _ (deal_tup kp6 hd5 _ _ eu)
    have ew7 := deal_tup kp7 hd6 _ _ ew
    have hv7 : NumV m H7 v := hv.kp (deal_tup kp07 hD)
    dsimp only
    refine seq_p (fun st H' => Kp [D, dl] H H' ∧ DealAt H' D dl ∧ ∃ (s t c uA wA : Nat) (us ws : List Nat), H' uA = some (.tup (nts us)) ∧ H' wA = some (.tup (nts ws)) ∧ us.length ≤ 1100 ∧ ws.length ≤ 1100 ∧
      st = [some (.ref D), some (.int (m.c : Int)), some (.ref L), some v, some (.int (m.n : Int)), some (.int (1 + (x1 : Nat) : Int)), some (.int (s : Int)), some (.int (t : Int)), some (.int (c : Int)), some (.ref uA), some (.ref wA), some (.int (form : Int))]) ?_ ?_
    · rintro st H8 ⟨kp, hd, s1, t1, c1', uB, wB, vs1, ws1, e1, e2, l1, l2, rfl⟩
      clear hv7 eu7 ew7 kp07
      have out : ∀ (H' : Hp) (q x y : Addr) (a b c : Lf) (us ws : List Lf), Kp [D, dl] H8 H' → DealAt H' D dl → H' q = some (.tup [a.v, b.v, c.v, .ref x, .ref y]) → H' x = some (.tup (lfs us)) → H' y = some (.tup (lfs ws)) → us.length ≤ 1200 → ws.length ≤ 1200 → Q (.ref q) H' := fun H' q x y a b c us ws kp' hd' eq ex ey lu lw =>
        k H' (.ref q) (.five a b c (some us) ws) (kp.trans kp') hd' (.five eq (.inr ⟨us, rfl, x, rfl, ex⟩) ⟨y, rfl, ey⟩) fun a' b' c' u' w' e => by
          injection e with _ _ _ e4 e5
          subst e4 e5
          exact ⟨lw, fun us' e6 => by rw [← Option.some.inj e6]; exact lu⟩
      have e1' : H8 uB = some (.tup (lfs (lfn vs1))) := by rw [lfn_v]; exact e1
      have e2' : H8 wB = some (.tup (lfs (lfn ws1))) := by rw [lfn_v]; exact e2
      have b1 : (lfn vs1).length ≤ 1200 := by rw [lfn_len]; omega
      have b2 : (lfn ws1).length ≤ 1200 := by rw [lfn_len]; omega
      have sq : ∀ {H' : Hp} {q : Addr} {o : HO}, H' q = none → Same H' (upd H' q o) := fun hq => same_new (fun _ _ e => e) hq
      have sz : ∀ n : Nat, n ≤ 4096 → n ≤ sizeLine := fun n h => Nat.le_of_lt (small h)
      have app : ∀ (ls : List Lf) (l : Lf), lfs ls ++ [l.v] = lfs (ls ++ [l]) := fun ls l => by unfold lfs; rw [List.map_append]; rfl
      have lapp : ∀ (ls : List Lf) (l : Lf), ls.length ≤ 1100 → (ls ++ [l]).length ≤ 1200 := fun ls l h => by rw [List.length_append]; show ls.length + 1 ≤ 1200; omega
      have b1' : (lfn vs1).length ≤ 1100 := by rw [lfn_len]; omega
      have b2' : (lfn ws1).length ≤ 1100 := by rw [lfn_len]; omega
      -- form 0
      refine ⟨_, rfl, rfl, _, rfl, ?_⟩
      refine ite2 (fun _ => ?_) (fun _ => ?_)
      · exact ⟨_, rfl, _, rfl, _, rfl, _, rfl, _, rfl, (by show 5 ≤ sizeLine; decide), fun q hq => out _ q wB uB (.i (t1 : Int)) (.i (s1 : Int)) (.i (c1' : Int)) _ _ (Kp.of_same (sq hq)) (hd.same (sq hq)) upd_same (sq hq _ _ e2') (sq hq _ _ e1') b2 b1⟩
      -- form 1
      refine ⟨_, rfl, rfl, _, rfl, ?_⟩
      refine ite2 (fun _ => ?_) (fun _ => ?_)
      · refine ⟨_, rfl, _, rfl, _, rfl, _, rfl, _, rfl, _, rfl, D, dl, m.c, rfl, by omega, by omega, hd, fun Ha xa kpa hda hxa => ⟨(by show 1 ≤ sizeLine; decide), fun q1 hq1 => ?_⟩⟩
        have ta := deal_tup kpa hd
        refine ⟨uB, q1, _, _, rfl, rfl, sq hq1 _ _ (ta _ _ e1'), upd_same, sz _ (by rw [lfs_len]; show (lfn vs1).length + 1 ≤ 4096; omega), fun r1 Hb sb eb => ?_⟩
        have kpb : Kp [D, dl] H8 Hb := (kpa.trans (Kp.of_same (sq hq1))).trans (Kp.of_same sb)
        have hdb := (hda.same (sq hq1 (o := .tup [.int (xa : Nat)]))).same sb
        refine ⟨_, rfl, _, rfl, _, rfl, D, dl, m.c, rfl, by omega, by omega, hdb, fun Hc xc kpc hdc hxc => ⟨(by show 1 ≤ sizeLine; decide), fun q2 hq2 => ?_⟩⟩
        have tc := deal_tup kpc hdb
        have tb := deal_tup kpb hd
        refine ⟨wB, q2, _, _, rfl, rfl, sq hq2 _ _ (tc _ _ (tb _ _ e2')), upd_same, sz _ (by rw [lfs_len]; show (lfn ws1).length + 1 ≤ 4096; omega), fun r2 Hd sd ed => ⟨(by show 5 ≤ sizeLine; decide), fun q hq => ?_⟩⟩
        have kpd : Kp [D, dl] Hc (upd Hd q (.tup [.int (s1 : Int), .int (t1 : Int), .int (c1' : Int), .ref r1, .ref r2])) := ((Kp.of_same (sq hq2)).trans (Kp.of_same sd)).trans (Kp.of_same (sq hq))
        refine out _ q r1 r2 (.i (s1 : Int)) (.i (t1 : Int)) (.i (c1' : Int)) (lfn vs1 ++ [.i (xa : Int)]) (lfn ws1 ++ [.i (xc : Int)]) ((kpb.trans kpc).trans kpd) (((hdc.same (sq hq2)).same sd).same (sq hq)) upd_same ?_ ?_ (lapp _ _ b1') (lapp _ _ b2')
        · refine sq hq _ _ (sd _ _ (sq hq2 _ _ (tc _ _ ?_)))
          rw [eb, ← app]
          rfl
        · refine sq hq _ _ ?_
          rw [ed, ← app]
          rfl
      -- form 2
      refine ⟨_, rfl, rfl, _, rfl, ?_⟩
      refine ite2 (fun _ => ?_) (fun _ => ?_)
      · refine ⟨_, rfl, _, rfl, _, rfl, _, rfl, _, rfl, _, rfl, _, rfl, D, dl, m.c, rfl, by omega, by omega, hd, fun Hc xc kpc hdc hxc => ⟨(by show 1 ≤ sizeLine; decide), fun q2 hq2 => ?_⟩⟩
        have tc := deal_tup kpc hd
        refine ⟨wB, q2, _, _, rfl, rfl, sq hq2 _ _ (tc _ _ e2'), upd_same, sz _ (by rw [lfs_len]; show (lfn ws1).length + 1 ≤ 4096; omega), fun r2 Hd sd ed => ⟨(by show 5 ≤ sizeLine; decide), fun q hq => ?_⟩⟩
        refine out _ q uB r2 (.i (s1 : Int)) (.i (t1 : Int)) (.i (c1' : Int)) (lfn vs1) (lfn ws1 ++ [.i (xc : Int)]) (((kpc.trans (Kp.of_same (sq hq2))).trans (Kp.of_same sd)).trans (Kp.of_same (sq hq))) (((hdc.same (sq hq2)).same sd).same (sq hq)) upd_same (sq hq _ _ (sd _ _ (sq hq2 _ _ (tc _ _ e1')))) ?_ b1 (lapp _ _ b2')
        refine sq hq _ _ ?_
        rw [ed, ← app]
        rfl
      -- form 3
      refine ⟨_, rfl, rfl, _, rfl, ?_⟩
      refine ite2 (fun _ => ?_) (fun _ => ?_)
      · refine ⟨_, rfl, _, rfl, _, rfl, _, rfl, D, dl, m.c, rfl, by omega, by omega, hd, fun Hc xc kpc hdc hxc => ⟨_, rfl, _, rfl, (by show 5 ≤ sizeLine; decide), fun q hq => ?_⟩⟩
        have tc := deal_tup kpc hd
        exact out _ q uB wB (.i (s1 : Int)) (.i (t1 : Int)) (.i (xc : Int)) _ _ (kpc.trans (Kp.of_same (sq hq))) (hdc.same (sq hq)) upd_same (sq hq _ _ (tc _ _ e1')) (sq hq _ _ (tc _ _ e2')) b1 b2
      -- form 4
      refine ⟨_, rfl, rfl, _, rfl, ?_⟩
      refine ite2 (fun _ => ?_) (fun _ => ?_)
      · refine ⟨_, rfl, _, rfl, _, rfl, _, rfl, _, rfl, uB, _, rfl, .inr (SqT.of e1), fun lu hlu => ⟨_, rfl, (by show 5 ≤ sizeLine; decide), fun q1 hq1 => ?_⟩⟩
        refine ⟨_, rfl, _, rfl, _, rfl, _, rfl, _, rfl, (by show 5 ≤ sizeLine; decide), fun q2 hq2 => ?_⟩
        refine ⟨_, rfl, _, rfl, _, rfl, _, rfl, (by show 4 ≤ sizeLine; decide), fun q3 hq3 => ?_⟩
        refine ⟨_, rfl, _, rfl, _, rfl, _, rfl, _, rfl, Nat.zero_le _, fun q4 hq4 => ⟨(by show 6 ≤ sizeLine; decide), fun q5 hq5 => ?_⟩⟩
        refine ⟨(by show 6 ≤ sizeLine; decide), fun l hl => ?_⟩
        have sA := sq hlu (o := .lst (nts vs1))
        have sB := sq hq1 (o := .tup [.int (s1 : Int), .int (t1 : Int), .int (c1' : Int), .ref lu, .ref wB])
        have sC := sq hq2 (o := .lst [.int (s1 : Int), .int (t1 : Int), .int (c1' : Int), .ref uB, .ref wB])
        have sD := sq hq3 (o := .tup [.int (s1 : Int), .int (t1 : Int), .int (c1' : Int), .ref uB])
        have sE := sq hq4 (o := .tup [])
        have sF := sq hq5 (o := .tup [.int (s1 : Int), .int (t1 : Int), .int (c1' : Int), .ref uB, .ref wB, .ref q4])
        have sG := sq hl (o := .lst [.ref q1, .ref q2, .ref q3, .non, .ref q5, .int 0])
        have s17 := ((((((sA.trans sB).trans sC).trans sD).trans sE).trans sF).trans sG)
        have hdG := hd.same s17
        refine ⟨D, dl, l, _, rfl, hdG, upd_same, deal_nn (hd.same (((((sA.trans sB).trans sC).trans sD).trans sE).trans sF)) hl, (by show 0 < 6; decide), (by show 6 ≤ 1000; decide), fun H9 x kp9 hd9 hx => ?_⟩
        have t9 := deal_tup kp9 hdG
        have kpA : Kp [D, dl] H H9 := (kp.trans (Kp.of_same s17)).trans kp9
        simp only [List.mem_cons,
                                                                    List.not_mem_nil, or_false] at hx
        rcases hx with e | e | e | e | e | e
        · subst e
          have elu := kp9 _ _ (sG _ _ (sF _ _ (sE _ _ (sD _ _ (sC _ _ (sB _ _ (upd_same : upd H8 lu (.lst (nts vs1)) lu = some (.lst (nts vs1))))))))) (deal_nn hd hlu)
          refine k H9 _ (.five (.i (s1 : Int)) (.i (t1 : Int)) (.i (c1' : Int)) none (lfn ws1)) kpA hd9 (.five (t9 _ _ (sG _ _ (sF _ _ (sE _ _ (sD _ _ (sC _ _ upd_same)))))) (.inl ⟨rfl, lu, _, rfl, elu⟩) ⟨wB, rfl, t9 _ _ (s17 _ _ e2')⟩) fun a' b' c' u' w' e => ?_
          injection e with _ _ _ e4 e5
          subst e4 e5
          exact ⟨b2, fun us' e6 => by cases e6⟩
        · subst e
          refine k H9 _ .other kpA hd9 (.lst (kp9 _ _ (sG _ _ (sF _ _ (sE _ _ (sD _ _ upd_same)))) (deal_nn (hd.same (sA.trans sB)) hq2))) fun a' b' c' u' w' e => by cases e
        · subst e
          exact k H9 _ .other kpA hd9 (.tup (t9 _ _ (sG _ _ (sF _ _ (sE _ _ upd_same)))) (by show 4 ≠ 5; decide)) fun a' b' c' u' w' e => by cases e
        · subst e
          exact k H9 _ .other kpA hd9 .non fun a' b' c' u' w' e => by cases e
        · subst e
          exact k H9 _ .other kpA hd9 (.tup (t9 _ _ (sG _ _ upd_same)) (by show 6 ≠ 5; decide)) fun a' b' c' u' w' e => by cases e
        · subst e
          exact k H9 _ .other kpA hd9 (.int 0) fun a' b' c' u' w' e => by cases e
      -- form 5
      refine ⟨_, rfl, rfl, _, rfl, ?_⟩
      refine ite2 (fun _ => ?_) (fun _ => ?_)
      · refine ⟨_, rfl, _, rfl, _, rfl, _, rfl, _, rfl, _, rfl, _, rfl, (by show 4 ≤ sizeLine; decide), fun l hl => ?_⟩
        have sA := sq hl (o := .lst [.int (m.c : Int), .int (-1), .bl true, .non])
        refine ⟨D, dl, l, _, rfl, hd.same sA, upd_same, deal_nn hd hl, (by show 0 < 4; decide), (by show 4 ≤ 1000; decide), fun Ha xa kpa hda hxa => ⟨(by show 1 ≤ sizeLine; decide), fun q1 hq1 => ?_⟩⟩
        obtain ⟨lf, rfl⟩ : ∃ lf : Lf, xa = lf.v := by
          simp only [List.mem_cons, List.not_mem_nil, or_false] at hxa
          rcases hxa with e | e | e | e
          · exact ⟨.i _, e⟩
          · exact ⟨.i _, e⟩
          · exact ⟨.b _, e⟩
          · exact ⟨.n, e⟩
        have ta := deal_tup kpa (hd.same sA)
        refine ⟨uB, q1, _, _, rfl, rfl, sq hq1 _ _ (ta _ _ (sA _ _ e1')), upd_same, sz _ (by rw [lfs_len]; show (lfn vs1).length + 1 ≤ 4096; omega), fun r1 Hb sb eb => ?_⟩
        have kpb : Kp [D, dl] H8 Hb := (((Kp.of_same sA).trans kpa).trans (Kp.of_same (sq hq1))).trans (Kp.of_same sb)
        have hdb := (hda.same (sq hq1 (o := .tup [lf.v]))).same sb
        refine ⟨_, rfl, _, rfl, _, rfl, D, dl, m.c, rfl, by omega, by omega, hdb, fun Hc xc kpc hdc hxc => ⟨(by show 1 ≤ sizeLine; decide), fun q2 hq2 => ?_⟩⟩
        have tc := deal_tup kpc hdb
        have tb := deal_tup kpb hd
        refine ⟨wB, q2, _, _, rfl, rfl, sq hq2 _ _ (tc _ _ (tb _ _ e2')), upd_same, sz _ (by rw [lfs_len]; show (lfn ws1).length + 1 ≤ 4096; omega), fun r2 Hd sd ed => ⟨(by show 5 ≤ sizeLine; decide), fun q hq => ?_⟩⟩
        have kpd : Kp [D, dl] Hc (upd Hd q (.tup [.int (s1 : Int), .int (t1 : Int), .int (c1' : Int), .ref r1, .ref r2])) := ((Kp.of_same (sq hq2)).trans (Kp.of_same sd)).trans (Kp.of_same (sq hq))
        refine out _ q r1 r2 (.i (s1 : Int)) (.i (t1 : Int)) (.i (c1' : Int)) (lfn vs1 ++ [lf]) (lfn ws1 ++ [.i (xc : Int)]) ((kpb.trans kpc).trans kpd) (((hdc.same (sq hq2)).same sd).same (sq hq)) upd_same ?_ ?_ (lapp _ _ b1') (lapp _ _ b2')
        · refine sq hq _ _ (sd _ _ (sq hq2 _ _ (tc _ _ ?_)))
          rw [eb, ← app]
        · refine sq hq _ _ ?_
          rw [ed, ← app]
          rfl
      -- form 6
      refine ⟨_, rfl, rfl, _, rfl, ?_⟩
      refine ite2 (fun _ => ?_) (fun _ => ?_)
      · refine ⟨_, rfl, _, rfl, _, rfl, _, rfl, (by show 6 ≤ sizeLine; decide), fun l hl => ?_⟩
        have sA := sq hl (o := .lst [.int (m.n : Int), .bl false, .bl true, .int (-1), .non, .int (s1 : Int)])
        refine ⟨D, dl, l, _, rfl, hd.same sA, upd_same, deal_nn hd hl, (by show 0 < 6; decide), (by show 6 ≤ 1000; decide), fun Ha xa kpa hda hxa => ?_⟩
        obtain ⟨lf, rfl⟩ : ∃ lf : Lf, xa = lf.v := by
          simp only [List.mem_cons, List.not_mem_nil, or_false] at hxa
          rcases hxa with e | e | e | e | e | e
          · exact ⟨.i _, e⟩
          · exact ⟨.b _, e⟩
          · exact ⟨.b _, e⟩
          · exact ⟨.i _, e⟩
          · exact ⟨.n, e⟩
          · exact ⟨.i _, e⟩
        refine ⟨_, rfl, _, rfl, _, rfl, _, rfl, (by show 3 ≤ sizeLine; decide), fun l2 hl2 => ?_⟩
        have sB := sq hl2 (o := .lst [.int (c1' : Int), .int (m.c : Int), .bl false])
        refine ⟨D, dl, l2, _, rfl, hda.same sB, upd_same, deal_nn hda hl2, (by show 0 < 3; decide), (by show 3 ≤ 1000; decide), fun Hb xb kpb hdb hxb => ?_⟩
        obtain ⟨lg2, rfl⟩ : ∃ lf : Lf, xb = lf.v := by
          simp only [List.mem_cons, List.not_mem_nil, or_false] at hxb
          rcases hxb with e | e | e
          · exact ⟨.i _, e⟩
          · exact ⟨.i _, e⟩
          · exact ⟨.b _, e⟩
        have kpB : Kp [D, dl] H8 Hb := ((Kp.of_same sA).trans kpa).trans ((Kp.of_same sB).trans kpb)
        have tB := deal_tup kpB hd
        exact ⟨_, rfl, _, rfl, (by show 5 ≤ sizeLine; decide), fun q hq => out _ q uB wB lf (.i (t1 : Int)) lg2 _ _ (kpB.trans (Kp.of_same (sq hq))) (hdb.same (sq hq)) upd_same (sq hq _ _ (tB _ _ e1')) (sq hq _ _ (tB _ _ e2')) b1 b2⟩
      -- form 7
      refine ⟨_, rfl, rfl, _, rfl, ?_⟩
      refine ite2 (fun _ => ?_) (fun _ => ?_)
      · refine ⟨_, rfl, _, rfl, _, rfl, _, rfl, _, rfl, uB, _, rfl, e1, fun r1 Ha sa ea => ⟨_, rfl, _, rfl, wB, _, rfl, sa _ _ e2, fun r2 Hb sb eb => ⟨(by show 5 ≤ sizeLine; decide), fun q hq => ?_⟩⟩⟩
        have s19 := (sa.trans sb).trans (sq hq (o := .tup [.int (s1 : Int), .int (t1 : Int), .int (c1' : Int), .ref r1, .ref r2]))
        refine out _ q r1 r2 (.i (s1 : Int)) (.i (t1 : Int)) (.i (c1' : Int)) (lfn (vs1.drop 1)) (lfn (ws1.drop 1)) (Kp.of_same s19) (hd.same s19) upd_same ?_ ?_ (by rw [lfn_len, List.length_drop]; omega) (by rw [lfn_len, List.length_drop]; omega)
        · refine sq hq _ _ (sb _ _ ?_)
          rw [ea, cut_one, lfn_v]
        · refine sq hq _ _ ?_
          rw [eb, cut_one, lfn_v]
      exact ⟨_, rfl, _, rfl, _, rfl, _, rfl, _, rfl, (by show 5 ≤ sizeLine; decide), fun q hq => out _ q uB wB (.i (s1 : Int)) (.i (t1 : Int)) (.i (c1' : Int)) _ _ (Kp.of_same (sq hq)) (hd.same (sq hq)) upd_same (sq hq _ _ e1') (sq hq _ _ e2') b1 b2⟩
    · intro NX hNX
      rcases hv7 with ⟨rfl, _⟩ | ⟨q, u2, w2, wt, kk, rfl, q1, q2, q3, q4, _, q6⟩
      · exact ⟨_, rfl, rfl, _, rfl, iteF (iteF (hNX _ _ ⟨kp07, hd7, s0, t0, c0, uA, wA, us, ws, eu7, ew7, by omega, by omega, rfl⟩))⟩
      · refine ⟨_, rfl, rfl, _, rfl, iteT ⟨_, rfl, D, dl, 4, rfl, by decide, by decide, hd7, fun H8 x8 kp8 hd8 _ => ⟨_, _, rfl, rfl, _, rfl, ?_⟩⟩⟩
        refine ite2 (fun _ => ?_) (fun _ => hNX _ _ ⟨kp07.trans kp8, hd8, s0, t0, c0, uA, wA, us, ws, deal_tup kp8 hd7 _ _ eu7, deal_tup kp8 hd7 _ _ ew7, by omega, by omega, rfl⟩)
        have tk := deal_tup kp8 hd7
        refine ⟨_, rfl, q, _, rfl, SqT.of (tk _ _ q1), rfl, _, _, rfl, _, _, rfl, _, _, rfl, _, _, rfl, _, _, rfl, rfl, ?_⟩
        exact hNX _ _ ⟨kp07.trans kp8, hd8, wt.s, wt.t, wt.x, u2, w2, wt.u, wt.w, tk _ _ q2, tk _ _ q3, by rw [q4.1.lu]; omega, by rw [q4.1.lw]; omega, rfl⟩
end
end K53
namespace K53
/-! ### pairs by length, for one command -/
def PS (m : Mc) (c j : Nat) (q : Nat × Nat) : Prop := ∃ s u, s < m.n ∧ RowOk m u ∧ u.length = j ∧ q = (m.led s u, m.led (m.to s c) u)
theorem ps_zero {m : Mc} {c : Nat} {q : Nat × Nat} : PS m c 0 q ↔ ∃ s, s < m.n ∧ q = (s, m.to s c) := by
  constructor
  · rintro ⟨s, u, hs, _, hu, e⟩
    have : u = [] := List.length_eq_zero_iff.mp hu
    subst this
    exact ⟨s, hs, e⟩
  · rintro ⟨s, hs, e⟩
    exact ⟨s, [], hs, RowOk.nil m, rfl, e⟩
theorem ps_succ {m : Mc} {c j : Nat} {q : Nat × Nat} : PS m c (j + 1) q ↔ ∃ p a, PS m c j p ∧ a < m.c ∧ q = (m.to p.1 a, m.to p.2 a) := by
  constructor
  · rintro ⟨s, u, hs, hr, hu, e⟩
    obtain ⟨v, a, rfl, hv⟩ := snoc_of_len hu
    refine ⟨_, a, ⟨s, v, hs, fun x hx => hr x (List.mem_append_left _ hx), hv, rfl⟩, hr a (List.mem_append_right _ List.mem_cons_self), ?_⟩
    rw [e, Mc.led_snoc, Mc.led_snoc]
  · rintro ⟨p, a, ⟨s, u, hs, hr, hu, e⟩, ha, e2⟩
    refine ⟨s, u ++ [a], hs, hr.snoc ha, by rw [List.length_append, hu]; rfl, ?_⟩
    rw [e2, e, Mc.led_snoc, Mc.led_snoc]
theorem ps_lt {m : Mc} (ok : m.Ok) {c j : Nat} (hc : c < m.c) {q : Nat × Nat} (h : PS m c j q) : q.1 < m.n ∧ q.2 < m.n := by
  obtain ⟨s, u, hs, hr, _, e⟩ := h
  rw [e]
  exact ⟨ok.led_lt hs hr, ok.led_lt (ok.to_lt hs hc) hr⟩
def FC (m : Mc) (c j : Nat) : Prop := ∃ x y y', PS m c j (x, y) ∧ PS m c j (x, y') ∧ y ≠ y'
theorem fault_fc {m : Mc} {j : Nat} : Fault m j ↔ ∃ c, c < m.c ∧ FC m c j := by
  constructor
  · rintro ⟨v, g, b1, b2⟩
    refine ⟨v.x, g.x, m.led v.s v.u, m.led (m.to v.s v.x) v.u, m.led (m.to v.t v.x) v.w, ⟨v.s, v.u, g.s, g.u, g.lu, rfl⟩, ⟨v.t, v.w, g.t, g.w, g.lw, ?_⟩, b2⟩
    have b1' : m.led v.s v.u = m.led v.t v.w := b1
    rw [b1']
  · rintro ⟨c, hc, x, y, y', ⟨s, u, hs, hu, lu, e⟩, ⟨t, w, ht, hw, lw, e2⟩, ne⟩
    injection e with e3 e4
    injection e2 with e5 e6
    refine ⟨⟨s, t, c, u, w⟩, ⟨hs, ht, hc, hu, hw, lu, lw⟩, ?_, ?_⟩
    · show m.led s u = m.led t w
      rw [← e3, ← e5]
    · show m.led (m.to s c) u ≠ m.led (m.to t c) w
      rw [← e4, ← e6]
      exact ne
theorem ps_shift {m : Mc} {c i j : Nat} (h : ∀ q, PS m c i q ↔ PS m c j q) : ∀ (t : Nat) (q : Nat × Nat), PS m c (i + t) q ↔ PS m c (j + t) q
  | 0, q => h q
  | t + 1, q => by
    rw [show i + (t + 1) = (i + t) + 1 by omega, show j + (t + 1) = (j + t) + 1 by omega, ps_succ, ps_succ]
    constructor
    · rintro ⟨p, a, hp, r⟩
      exact ⟨p, a, (ps_shift h t p).mp hp, r⟩
    · rintro ⟨p, a, hp, r⟩
      exact ⟨p, a, (ps_shift h t p).mpr hp, r⟩
theorem fc_never {m : Mc} {c i j : Nat} (hij : i < j) (h : ∀ q, PS m c i q ↔ PS m c j q) (no : ∀ k, k < j → ¬ FC m c k) : ∀ k, ¬ FC m c k := by
  intro k
  induction k using Nat.strongRecOn with
  | _ k ih =>
    intro hk
    by_cases hkj : k < j
    · exact no k hkj hk
    · obtain ⟨t, rfl⟩ : ∃ t, k = j + t := ⟨k - j, by omega⟩
      obtain ⟨x, y, y', h1, h2, h3⟩ := hk
      exact ih (i + t) (by omega) ⟨x, y, y', (ps_shift h t _).mpr h1, (ps_shift h t _).mpr h2, h3⟩
theorem fc_dup {m : Mc} {c j : Nat} {prs : List (Nat × Nat)} (nd : prs.Nodup) (h : ∀ q, q ∈ prs ↔ PS m c j q) : FC m c j ↔ ¬ (prs.map (·.1)).Nodup := by
  constructor
  · rintro ⟨x, y, y', h1, h2, h3⟩ n
    have m1 := (h _).mpr h1
    have m2 := (h _).mpr h2
    clear nd h
    induction prs with
    | nil => cases m1
    | cons p r ih =>
      rw [List.map_cons, List.nodup_cons] at n
      rcases List.mem_cons.mp m1 with e1 | e1
      · rcases List.mem_cons.mp m2 with e2 | e2
        · exact h3 (congrArg Prod.snd (e1.trans e2.symm))
        · exact n.1 (by rw [← e1]; exact List.mem_map.mpr ⟨_, e2, rfl⟩)
      · rcases List.mem_cons.mp m2 with e2 | e2
        · exact n.1 (by rw [← e2]; exact List.mem_map.mpr ⟨_, e1, rfl⟩)
        · exact ih n.2 e1 e2
  · intro n
    have key : ∀ l : List (Nat × Nat), l.Nodup → ¬ (l.map (·.1)).Nodup → ∃ x y y', (x, y) ∈ l ∧ (x, y') ∈ l ∧ y ≠ y' := by
      intro l
      induction l with
      | nil => intro _ n; exact absurd List.nodup_nil n
      | cons p r ih =>
        intro nd n
        rw [List.nodup_cons] at nd
        by_cases hp : p.1 ∈ r.map (·.1)
        · obtain ⟨q, hq, e⟩ := List.mem_map.mp hp
          refine ⟨p.1, p.2, q.2, List.mem_cons_self, List.mem_cons_of_mem _ (by rw [← e]; exact hq), fun e2 => nd.1 ?_⟩
          have : p = q := Prod.ext e.symm e2
          rw [this]
          exact hq
        · have n2 : ¬ (r.map (·.1)).Nodup := fun z => n (by rw [List.map_cons, List.nodup_cons]; exact ⟨hp, z⟩)
          obtain ⟨x, y, y', h1, h2, h3⟩ := ih nd.2 n2
          exact ⟨x, y, y', List.mem_cons_of_mem _ h1, List.mem_cons_of_mem _ h2, h3⟩
    obtain ⟨x, y, y', h1, h2, h3⟩ := key prs nd n
    exact ⟨x, y, y', (h _).mp h1, (h _).mp h2, h3⟩
theorem prs_le {m : Mc} (ok : m.Ok) {c j : Nat} (hc : c < m.c) {prs : List (Nat × Nat)} (nd : prs.Nodup) (h : ∀ q, q ∈ prs ↔ PS m c j q) : prs.length ≤ 16 := by
  have n4 : m.n ≤ 4 := ok.n4
  refine nodup_map_le 16 (fun q => q.1 * 4 + q.2) prs nd (fun x hx y hy e => ?_) fun x hx => ?_
  · have h1 := ps_lt ok hc ((h x).mp hx)
    have h2 := ps_lt ok hc ((h y).mp hy)
    obtain ⟨x1, x2⟩ := x
    obtain ⟨y1, y2⟩ := y
    simp only at h1 h2 e
    have : x1 = y1 ∧ x2 = y2 := by omega
    rw [this.1, this.2]
  · have h1 := ps_lt ok hc ((h x).mp hx)
    show x.1 * 4 + x.2 < 16
    omega
/-! ### what _law_shortest tells, and the search's answer -/
/-- the fault's rows, for one-to-one commands -/
theorem not_dup_inj {n : Nat} {f : Nat → Nat} (h : ((List.range n).map f).Nodup) {x y : Nat} (hx : x < n) (hy : y < n) (e : f x = f y) : x = y := by
  have h1 : ((List.range n).map f)[x]? = some (f x) := by rw [List.getElem?_map, List.getElem?_range hx]; rfl
  have h2 : ((List.range n).map f)[y]? = some (f y) := by rw [List.getElem?_map, List.getElem?_range hy]; rfl
  rw [← e] at h2
  exact (List.getElem?_inj (List.getElem?_eq_some_iff.mp h1).1 h).mp (h1.trans h2.symm)
end K53
namespace K53
open PySem
theorem led_comm {m : Mc} (ok : m.Ok) (h : ∀ s a b, s < m.n → a < m.c → b < m.c → m.to (m.to s a) b = m.to (m.to s b) a) {x : Nat} (hx : x < m.c) : ∀ (u : List Nat) (s : Nat), s < m.n → RowOk m u → m.led (m.to s x) u = m.to (m.led s u) x
  | [], _, _, _ => rfl
  | a :: r, s, hs, hu => by
    have ha := hu a List.mem_cons_self
    rw [Mc.led_cons, Mc.led_cons, h s x a hs hx ha]
    exact led_comm ok h hx r (m.to s a) (ok.to_lt hs ha) fun z hz => hu z (List.mem_cons_of_mem _ hz)
theorem commute_no {m : Mc} (ok : m.Ok) (h : ∀ s a b, s < m.n → a < m.c → b < a → m.to (m.to s a) b = m.to (m.to s b) a) : ∀ k, ¬ Fault m k := by
  intro k ⟨v, g, b1, b2⟩
  have h2 : ∀ s a b, s < m.n → a < m.c → b < m.c → m.to (m.to s a) b = m.to (m.to s b) a := fun s a b hs ha hb => by
    rcases Nat.lt_trichotomy a b with z | z | z
    · exact (h s b a hs hb z).symm
    · rw [z]
    · exact h s a b hs ha z
  have b1' : m.led v.s v.u = m.led v.t v.w := b1
  have b2' : m.led (m.to v.s v.x) v.u ≠ m.led (m.to v.t v.x) v.w := b2
  rw [led_comm ok h2 g.x v.u v.s g.s g.u, led_comm ok h2 g.x v.w v.t g.t g.w, b1'] at b2'
  exact b2' rfl
def colHere (m : Mc) (x : Nat) : List Nat := (List.range m.n).map fun s => m.to s x
theorem col_onto {m : Mc} (ok : m.Ok) {x y : Nat} (hx : x < m.c) (hy : y < m.n) (nd : (colHere m x).Nodup) : ∃ s, s < m.n ∧ m.to s x = y := by
  by_cases h : y ∈ colHere m x
  · obtain ⟨s, hs, e⟩ := List.mem_map.mp h
    exact ⟨s, List.mem_range.mp hs, e⟩
  · have nd2 : (y :: colHere m x).Nodup := List.nodup_cons.mpr ⟨h, nd⟩
    have z := nodup_map_le m.n (fun x => x) (y :: colHere m x) nd2 (fun _ _ _ _ e => e) fun q hq => by
      rcases List.mem_cons.mp
                                                                  hq with e | e
      · rw [e]; exact hy
      · obtain ⟨s, hs, e⟩ := List.mem_map.mp e
        rw [← e]
        exact ok.to_lt (List.mem_range.mp hs) hx
    unfold colHere at z
    rw [List.length_cons, List.length_map, List.length_range] at z
    omega
theorem apart_fault {m : Mc} (ok : m.Ok) (nd : ∀ x, x < m.c → (colHere m x).Nodup) {s a b : Nat} (hs : s < m.n) (ha : a < m.c) (hb : b < m.c) (h : m.to (m.to s a) b ≠ m.to (m.to s b) a) : Fault m 1 := by
  obtain ⟨t, ht, e⟩ := col_onto ok hb (ok.to_lt hs ha) (nd b hb)
  have one : ∀ z, z < m.c → RowOk m [z] := fun z hz q hq => by rw [List.mem_singleton.mp hq]; exact hz
  refine ⟨⟨s, t, b, [a], [b]⟩, ⟨hs, ht, hb, one a ha, one b hb, rfl, rfl⟩, e.symm, ?_⟩
  show m.to (m.to s b) a ≠ m.to (m.to t b) b
  rw [e]
  exact h.symm
theorem natsL_lfn (us : List Nat) : natsL (lfn us) = us := by
  unfold natsL lfn
  rw [List.map_map]
  conv => rhs; rw [← List.map_id us]
  refine List.map_congr_left fun a _ => ?_
  show Int.toNat (a : Int) = id a
  simp
theorem ix_i {a k : Nat} (h : a < k) : (Lf.i (a : Int)).ix (k : Int) = true := by
  show (decide (0 ≤ (a : Int)) && decide ((a : Int) < (k : Int))) = true
  rw [decide_eq_true (by omega), decide_eq_true (by omega)]
  rfl
theorem rowB_lfn {m : Mc} {us : List Nat} (h : RowOk m us) : rowB m (lfn us) = true := by
  unfold rowB
  refine List.all_eq_true.mpr fun l hl => ?_
  obtain ⟨a, ha, e⟩ := List.mem_map.mp hl
  rw [← e]
  exact ix_i (h a ha)
theorem fvB_fault {m : Mc} {v : Wit} {k : Nat} (h : FaultBy m v k) : fvB m (.five (.i (v.s : Int)) (.i (v.t : Int)) (.i (v.x : Int)) (some (lfn v.u)) (lfn v.w)) = true := by
  obtain ⟨g, b1, b2⟩ := h
  have b1' : m.led v.s v.u = m.led v.t v.w := b1
  have b2' : m.led (m.to v.s v.x) v.u ≠ m.led (m.to v.t v.x) v.w := b2
  have n : ∀ a : Nat, (Lf.i (a : Int)).nat = a := fun a => by show Int.toNat (a : Int) = a; simp
  have e3 : ¬ m.led v.s (v.x :: v.u) = m.led v.t (v.x :: v.w) := b2'
  simp only [fvB, ix_i g.s, ix_i g.t, ix_i g.x, rowB_lfn g.u, rowB_lfn g.w, natsL_lfn, n, lfn_len, g.lu, g.lw, b1', Bool.true_and, beq_self_eq_true]
  rw [beq_eq_false_iff_ne.mpr e3]
  rfl
end K53
namespace K53
open PySem PySem.Spec PyProof.Rows L2 L2.KR
def PV (H : Hp) (x : V) (q : Nat × Nat) : Prop := ∃ a, x = .ref a ∧ H a = some (.tup (nts [q.1, q.2]))
abbrev PrAt (H : Hp) (xs : List V) (prs : List (Nat × Nat)) : Prop := Paired (PV H) xs prs
theorem PrAt.kp {H H' : Hp} {xs : List V} {prs : List (Nat × Nat)} (h : PrAt H xs prs) (s : ∀ a ys, H a = some (.tup ys) → H' a = some (.tup ys)) : PrAt H' xs prs := Paired.imp h fun _ _ _ ⟨a, e1, e2⟩ => ⟨a, e1, s _ _ e2⟩
theorem perm_paired {A B : Type} {R : A → B → Prop} {xs ys : List A} (p : ys.Perm xs) : ∀ {bs : List B}, Paired R xs bs → ∃ cs, cs.Perm bs ∧ Paired R ys cs := by
  induction p with
  | nil => intro bs h; exact ⟨bs, .refl _, h⟩
  | cons x _ ih =>
    intro bs h
    cases h with
    | cons h1 h2 =>
      obtain ⟨cs, c1, c2⟩ := ih h2
      exact ⟨_, c1.cons _, .cons h1 c2⟩
  | swap x y l =>
    intro bs h
    cases h with
    | cons h1 h2 =>
      cases h2 with
      | cons h3 h4 => exact ⟨_, .swap _ _ _, .cons h3 (.cons h1 h4)⟩
  | trans _ _ ih1 ih2 =>
    intro bs h
    obtain ⟨cs, c1, c2⟩ := ih2 h
    obtain ⟨ds, d1, d2⟩ := ih1 c2
    exact ⟨ds, d1.trans c1, d2⟩
def keyP (prs : List (Nat × Nat)) : NestedKey := .tup (prs.map fun q => .tup [.num (q.1 : Int), .num (q.2 : Int)])
theorem keyP_inj : ∀ {a b : List (Nat × Nat)}, keyP a = keyP b → a = b := by
  intro a b h
  unfold keyP at h
  injection h with h
  induction a generalizing b with
  | nil =>
    cases b with
    | nil => rfl
    | cons _ _ => cases h
  | cons x r ih =>
    cases b with
    | nil => cases h
    | cons y t =>
      rw [List.map_cons,
                                                                  List.map_cons] at h
      injection h with h1 h2
      injection h1 with h1
      injection h1 with h3 h4
      injection h4 with h4 _
      injection h3 with h3
      injection h4 with h4
      obtain ⟨x1, x2⟩ := x
      obtain ⟨y1, y2⟩ := y
      simp only at h3 h4
      have e1 : x1 = y1 := by omega
      have e2 : x2 = y2 := by omega
      rw [ih h2, e1, e2]
theorem keyP_all {H : Hp} : ∀ {xs : List V} {prs : List (Nat × Nat)}, PrAt H xs prs → KAll H (prs.map fun q => NestedKey.tup [.num (q.1 : Int), .num (q.2 : Int)]) xs
  | _, _, .nil => .nil
  | _, _, .cons ⟨a, e1, e2⟩ t => by
    subst e1
    exact .cons (.tup e2 (.cons (.num _) (.cons (.num _) .nil))) (keyP_all t)
theorem keyP_depth (prs : List (Nat × Nat)) : (keyP prs).depth ≤ 8 := by
  have e : NestedKey.depthAll (prs.map fun q => NestedKey.tup [.num (q.1 : Int), .num (q.2 : Int)]) ≤ 1 := by
    induction prs with
    | nil => simp [NestedKey.depthAll]
    | cons x r ih =>
      rw [List.map_cons, NestedKey.depthAll]
      refine Nat.max_le.mpr ⟨?_, ih⟩
      simp [NestedKey.depth, NestedKey.depthAll]
  unfold keyP
  simp only [NestedKey.depth]
  omega
theorem pv_ks {H : Hp} : ∀ {xs : List V} {prs : List (Nat × Nat)}, PrAt H xs prs → ∃ ks : List (Addr × List Int), xs = ks.map (fun p => V.ref p.1) ∧ ks.map (·.2) = prs.map (fun q => [(q.1 : Int), (q.2 : Int)]) ∧ ∀ p ∈ ks, H p.1 = some (.tup (p.2.map V.int))
  | _, _, .nil => ⟨[], rfl, rfl, fun _ h => absurd h List.not_mem_nil⟩
  | _, _, .cons ⟨a, e1, e2⟩ t => by
    subst e1
    obtain ⟨ks, k1, k2, k3⟩ := pv_ks t
    refine ⟨(a, _) :: ks, by rw [k1]; rfl, by rw [List.map_cons, k2]; rfl, fun p hp => ?_⟩
    rcases List.mem_cons.mp
                                                                hp with e | e
    · rw [e]; exact e2
    · exact k3 p e
theorem sized {n : Nat} (h : n ≤ 100000) : n < sizeLine := Nat.lt_of_le_of_lt h (by decide)
/-- what _law_shortest tells -/
def ShortV (m : Mc) (v : V) : Prop := (v = .non ∧ ∀ k, k < 70000 → ¬ Fault m k) ∨ ∃ b : Nat, v = .int (b : Int) ∧ Fault m b ∧ ∀ k, k < 70000 → Fault m k → b ≤ k
/-- the best so far -/
def BestV (m : Mc) (n : Nat) (v : V) : Prop := (v = .non ∧ ∀ c, c < n → ∀ k, k < 70000 → ¬ FC m c k) ∨ ∃ b : Nat, v = .int (b : Int) ∧ (∃ c, c < n ∧ FC m c b) ∧ ∀ c, c < n → ∀ k, k < 70000 → FC m c k → b ≤ k
theorem BestV.same {m : Mc} {n : Nat} {v : V} (h : BestV m n v) (no : ∀ k, k < 70000 → ¬ FC m n k) : BestV m (n + 1) v := by
  rcases h with ⟨e, h⟩ | ⟨b, e, ⟨c, hc, hb⟩, h⟩
  · refine .inl ⟨e, fun c hc k hk => ?_⟩
    by_cases z : c < n
    · exact h c z k hk
    · rw [show c = n by omega]; exact no k hk
  · refine .inr ⟨b, e, ⟨c, by omega, hb⟩, fun c hc k hk hf => ?_⟩
    by_cases z : c < n
    · exact h c z k hk hf
    · rw [show c = n by omega] at hf; exact absurd hf (no k hk)
theorem BestV.first {m : Mc} {n j : Nat} (h : BestV m n .non) (hf : FC m n j) (low : ∀ k, k < j → ¬ FC m n k) : BestV m (n + 1) (.int (j : Int)) := by
  rcases h with ⟨_, h⟩ | ⟨b, e, _⟩
  · refine .inr ⟨j, rfl, ⟨n, Nat.lt_succ_self n, hf⟩, fun c hc k hk hf' => ?_⟩
    by_cases z : c < n
    · exact absurd hf' (h c z k hk)
    · rw [show c = n by omega] at hf'
      by_cases z2 : j ≤ k
      · exact z2
      · exact absurd hf' (low k (by omega))
  · cases e
theorem BestV.less {m : Mc} {n j b : Nat} (h : BestV m n (.int (b : Int))) (hf : FC m n j) (low : ∀ k, k < j → ¬ FC m n k) : BestV m (n + 1) (.int ((if j < b then j else b : Nat) : Int)) := by
  rcases h with ⟨e, _⟩ | ⟨b', e, ⟨c, hc, hb⟩, h⟩
  · cases e
  · have eb : b = b' := by injection e with e; omega
    subst eb
    refine .inr ⟨_, rfl, ?_, fun c' hc' k hk hf' => ?_⟩
    · by_cases z : j < b
      · rw [if_pos z]; exact ⟨n, Nat.lt_succ_self n, hf⟩
      · rw [if_neg z]; exact ⟨c, by omega, hb⟩
    · have q : (if j < b then j else b) ≤ j ∧ (if j < b then j else b) ≤ b := by split <;> omega
      by_cases z : c' < n
      · exact Nat.le_trans q.2 (h c' z k hk hf')
      · rw [show c' = n by omega] at hf'
        by_cases z2 : j ≤ k
        · omega
        · exact absurd hf' (low k (by omega))
theorem BestV.done {m : Mc} {v : V} (h : BestV m m.c v) : ShortV m v := by
  rcases h with ⟨e, h⟩ | ⟨b, e, ⟨c, hc, hb⟩, h⟩
  · exact .inl ⟨e, fun k hk hf => by
      obtain ⟨c, hc, hf⟩ := fault_fc.mp hf
      exact h c hc k hk hf⟩
  · exact .inr ⟨b, e, fault_fc.mpr ⟨c, hc, hb⟩, fun k hk hf => by
      obtain ⟨c, hc, hf⟩ := fault_fc.mp hf
      exact h c hc k hk hf⟩
section
variable {P : Program} {w : World} {K : PySem.W.Frag} {mg : Str → Option Value} {base : Heap} {f C PT : Addr} {fd : FuncData}
def spShort : Sp := fun vs H Q _ => ∃ (L : Addr) (m : Mc), vs = [.int (m.c : Int), .ref L] ∧ StepsAt H L m ∧ ∀ H' v, Same H H' → ShortV m v → Q v H'
abbrev scShortN : List Str := ["_law_commands", "_law_steps", "_law_best", "_law_command", "_law_pairs", "_law_known", "_law_length", "_law_longer", "_law_p", "_law_y", "_law_state", "_law_row_here", "_law_a"]
theorem scShort : FnScope scShortN ["_law_commands", "_law_steps"] (defScope sShort) := ⟨rfl, rfl, rfl, by decide +kernel, rfl, by decide +kernel, by decide +kernel⟩
theorem iteT' {b : Bool} {p q : Prop} (h : b = true) (r : p) : if b = true then p else q := by rw [if_pos h]; exact r
theorem iteF' {b : Bool} {p q : Prop} (h : b = false) (r : q) : if b = true then p else q := by rw [if_neg (by rw [h]; exact Bool.false_ne_true)]; exact r
theorem put_new {L : List NK} {k : NestedKey} {u v : V} (h : k ∉ L.map (·.1)) : putNK L k u v = L ++ [(k, u, v)] := by unfold putNK; rw [if_neg h]
theorem new_pairs {H : Hp} {zs : List (Nat × Nat)} : ∀ {L : List (Addr × List Int)}, (∀ p ∈ L, H p.1 = some (.tup (p.2.map V.int))) → (∀ p ∈ L, ∃ z, z ∈ zs ∧ p.2 = [(z.1 : Int), (z.2 : Int)]) → ∃ prs, PrAt H (L.map fun q => V.ref q.1) prs ∧ L.map (·.2) = prs.map fun z => [(z.1 : Int), (z.2 : Int)]
  | [], _, _ => ⟨[], .nil, rfl⟩
  | p :: r, h, g => by
    obtain ⟨prs, p1, p2⟩ := new_pairs (L := r) (fun x hx => h x (List.mem_cons_of_mem _ hx)) fun x hx => g x (List.mem_cons_of_mem _ hx)
    obtain ⟨z, _, e⟩ := g p List.mem_cons_self
    have hp := h p List.mem_cons_self
    rw [e] at hp
    exact ⟨z :: prs, .cons ⟨p.1, rfl, hp⟩ p1, by rw [List.map_cons, p2, e]; rfl⟩
theorem pair_inj {a b : Nat × Nat} (h : [(a.1 : Int), (a.2 : Int)] = [(b.1 : Int), (b.2 : Int)]) : a = b := by
  injection h with h1 h2
  injection h2 with h2 _
  exact Prod.ext (by omega) (by omega)
theorem paired_app {A B : Type} {R : A → B → Prop} : ∀ {xs zs : List A} {ys ws : List B}, Paired R xs ys → Paired R zs ws → Paired R (xs ++ zs) (ys ++ ws)
  | _, _, _, _, .nil, k => k
  | _, _, _, _, .cons h t, k => .cons h (paired_app t k)
theorem mem1 {A B : Type} {R : A → B → Prop} : ∀ {xs : List A} {ys : List B} {x : A}, Paired R xs ys → x ∈ xs → ∃ y, y ∈ ys ∧ R x y
  | _, _, _, .nil, h => absurd h List.not_mem_nil
  | _, _, _, .cons h t, m => by
    rcases List.mem_cons.mp
                                                                m with e | e
    · subst e; exact ⟨_, List.mem_cons_self, h⟩
    · obtain ⟨y, hy, r⟩ := mem1 t e
      exact ⟨y, List.mem_cons_of_mem _ hy, r⟩
theorem tup_upd {H : Hp} {p : Addr} {o u : HO} (h : H p = some u) (n : ∀ ys, u ≠ .tup ys) : ∀ a ys, H a = some (.tup ys) → upd H p o a = some (.tup ys) := fun a ys e => by
  have ne : a ≠ p := fun z => by rw [z, h] at e; exact n _ (Option.some.inj e)
  rw [upd_ne ne]
  exact e
theorem Same.none {H H' : Hp} (s : Same H H') {p : Addr} (h : H' p = none) : H p = none := by
  cases e : H p with
  | none => rfl
  | some o => rw [s _ _ e] at h; cases h
theorem bd_pair {a b : Nat} (ha : a < 4) (hb : b < 4) : TS.Bd 64 [(a : Int), (b : Int)] := fun x hx => by
  rcases List.mem_cons.mp hx with e | e
  · rw [e]; omega
  · rw [List.mem_singleton.mp e]; omega
theorem nodup_of_map {A B : Type} {f : A → B} {l : List A} (h : (l.map f).Nodup) : l.Nodup := (List.pairwise_map.mp h).imp fun ne e => ne (by rw [e])
/-- a round's head: the pairs of length j -/
structure RX (w : World) (m : Mc) (c : Nat) (H H' : Hp) (j : Nat) (pa kd : Addr) : Prop where
  sm : Same H H'
  fk : H kd = none
  pr : ∃ xs prs, H' pa = some (.lst xs) ∧ PrAt H' xs prs ∧ prs.Nodup ∧ ∀ q, q ∈ prs ↔ PS m c j q
  kn : ∃ Lk, H' kd = some (NdO w kd Lk) ∧ KeysO H' Lk ∧ Lk.length ≤ j ∧ ∀ q ∈ Lk, ∃ i prs, i < j ∧ q.1 = keyP prs ∧ ∀ z, z ∈ prs ↔ PS m c i z
  no : ∀ k, k < j → ¬ FC m c k
theorem ok_short (F : Fun K "_law_shortest" "_law_shortest" sShort f fd) (T : Txt mg) : FnOk P w K mg base CX0 1 f fd ["_law_commands", "_law_steps"] spShort := by
  refine F.ok scShort (fun vs H Q E h => ?_) (fun cdv A outer s H vs Q E hr h => ?_)
  · obtain ⟨L, m, rfl, _⟩ := h
    rfl
  · obtain ⟨L, m, rfl, ⟨ok, ls, hL, hLs⟩, k⟩ := h
    have hu64 : (A.deeper (envOfC "_law_shortest" (defScope sShort) s.heap.objs.size f cdv)).units + 64 < cLine := by have q := hr.un; omega
    have hu9 : (A.deeper (envOfC "_law_shortest" (defScope sShort) s.heap.objs.size f cdv)).units + 9 < cLine := by have q := hr.un; omega
    refine ⟨_, (pss_cons (ps_set (i := 2) scShort.nd rfl (.inl rfl) pe_non)
      (pss_cons (ps_for PassesOwn.never rfl (pi_range1 (by rfl) T.range (pa_cons (pv 0) pa_nil)) (pg_name (i := 3) scShort.nd rfl (.inr rfl))
      (pss_cons (ps_par (i := 4) (j := 5) (by rfl) scShort.nd rfl rfl (by decide) rfl rfl (pa_cons (pe_callB (cr_sortT (d := 2) (B := 64) (by decide)) (by rfl) T.sorted (by decide +kernel) (pa_cons (pe_lc (own := [("_law_state", 10), ("_law_row_here", 11)]) (g := gTup K 2 (gCons (gName 10) (gCons (gName 11) (gNil)))) (tt := tYes) (by rfl) scShort.nd (pi_enum (by rfl) T.enum (pa_cons (pv 1) pa_nil)) (blkOk_by (own := [("_law_state", 10), ("_law_row_here", 11)]) (N := scShortN) (sc := defScope sShort) (by decide +kernel)) (fun _ _ _ _ _ => pg_tup rfl (pgs_cons (pg_name (i := 10) scShort.nd rfl (.inl rfl)) (pgs_cons (pg_name (i := 11) scShort.nd rfl (.inl rfl)) pgs_nil))) (fun _ _ _ _ _ => pts_nil) (fun _ _ _ _ _ => (pe_tup (pa_cons (pv 10) (pa_cons (pe_ix (ixL (K := K) rfl) (pv 11) (pv 3) (fun _ _ => rfl)) pa_nil))))) pa_nil)) (pa_cons pe_dnewN pa_nil)) (by rfl))
      (pss_one (ps_for PassesOwn.never rfl (pi_range1 (by rfl) T.range (pa_cons pe_int pa_nil)) (pg_name (i := 6) scShort.nd rfl (.inl rfl))
      (pss_cons (ps_if (pt_cmp (pc_ndin hu9 (pe_callTy (tupK (K := K) rfl) (by rfl) T.tuple (by decide +kernel) (pa_cons (pv 4) pa_nil)) (pv 5))) (pss_one ps_break) pss_nil)
      (pss_cons (ps_if (pt_cmpR op_lt (pe_lenSetG rfl (by rfl) T.len (by rfl) T.set (pe_lc (own := [("_law_p", 8), ("_law_y", 9)]) (g := gTup K 2 (gCons (gName 8) (gCons (gName 9) (gNil)))) (tt := tYes) (by rfl) scShort.nd (pi_list (pv 4)) (blkOk_by (own := [("_law_p", 8), ("_law_y", 9)]) (N := scShortN) (sc := defScope sShort) (by decide +kernel)) (fun _ _ _ _ _ => pg_tup rfl (pgs_cons (pg_name (i := 8) scShort.nd rfl (.inl rfl)) (pgs_cons (pg_name (i := 9) scShort.nd rfl (.inl rfl)) pgs_nil))) (fun _ _ _ _ _ => pts_nil) (fun _ _ _ _ _ => (pv 8)))) (pe_callB (lenK (K := K) rfl) (by rfl) T.len PySem.boot_len (pa_cons (pv 4) pa_nil)) (nomark _)) (pss_cons (ps_set (i := 2) scShort.nd rfl (.inl rfl) (pe_ifExp (PW.pt (pw_or (pt_cmpR op_isN (pv 2) pe_non (nomark _)) (pw_or1 (pt_cmpR op_lt (pv 6) (pv 2) (nomark _))))) (pv 6) (pv 2)))
      (pss_one ps_break)) pss_nil)
      (pss_cons (ps_ndput hu9 (pv 5) (pe_callTy (tupK (K := K) rfl) (by rfl) T.tuple (by decide +kernel) (pa_cons (pv 4) pa_nil)) pe_bl rfl)
      (pss_cons (ps_set (i := 7) scShort.nd rfl (.inl rfl) (pe_lst pa_nil))
      (pss_cons (ps_for PassesOwn.never rfl (pi_list (pv 4)) (pg_tup rfl (pgs_cons (pg_name (i := 8) scShort.nd rfl (.inr rfl)) (pgs_cons (pg_name (i := 9) scShort.nd rfl (.inr rfl)) pgs_nil)))
      (pss_one (ps_set (i := 7) scShort.nd rfl (.inl rfl) (pe_op op_cat (pv 7) (pe_lc (own := [("_law_a", 12)]) (g := gName 12) (tt := tYes) (by rfl) scShort.nd (pi_range1 (by rfl) T.range (pa_cons (pv 0) pa_nil)) (blkOk_by (own := [("_law_a", 12)]) (N := scShortN) (sc := defScope sShort) (by decide +kernel)) (fun _ _ _ _ _ => pg_name (i := 12) scShort.nd rfl (Or.inl rfl)) (fun _ _ _ _ _ => pts_nil) (fun _ _ _ _ _ => (pe_tup (pa_cons (pe_ix (ixL (K := K) rfl) (pe_ix (ixL (K := K) rfl) (pv 1) (pv 8) (fun _ _ => rfl)) (pv 12) (fun _ _ => rfl)) (pa_cons (pe_ix (ixL (K := K) rfl) (pe_ix (ixL (K := K) rfl) (pv 1) (pv 9) (fun _ _ => rfl)) (pv 12) (fun _ _ => rfl)) pa_nil)))))))))
      (pss_one (ps_set (i := 4) scShort.nd rfl (.inl rfl) (pe_callB (cr_sortedT rfl) (by rfl) T.sorted (by decide +kernel) (pa_cons (pe_callTy (cr_setOfT rfl hu64) (by rfl) T.set (by decide +kernel) (pa_cons (pv 7) pa_nil)) pa_nil)))))))))))))
      (pss_one (ps_ret (pv 2))))), ?_⟩
    have cc := ok.c3
    refine ⟨_, rfl, _, rfl, by omega, by omega, ?_⟩
    rw [show ((m.c : Int).toNat) = m.c by omega]
    refine for_range (lo := 0) (n := m.c) (fun i st H' => Same H H' ∧ ∃ v, BestV m i v ∧ ∃ j3 j4 j5 j6 j7 j8 j9 j10 j11 j12, st = [some (.int (m.c : Int)), some (.ref L), some v, j3, j4, j5, j6, j7, j8, j9, j10, j11, j12])
      ⟨Same.refl _, .non, .inl ⟨rfl, fun c hc => absurd hc (Nat.not_lt_zero c)⟩, _, _, _, _, _, _, _, _, _, _, rfl⟩ ?_ ?_
    · rintro i st H1 hi ⟨s1, v, hv, j3, j4, j5, j6, j7, j8, j9, j10, j11, j12, rfl⟩
      have ei : ((0 : Int) + (i : Nat)) = (i : Int) := by omega
      rw [ei]
      refine seq_p (fun st H' => ∃ pa kd, RX w m i H H' 0 pa kd ∧ ∃ j6 j7 j8 j9 j10 j11 j12, st = [some (.int (m.c : Int)), some (.ref L), some v, some (.int (i : Int)), some (.ref pa), some (.ref kd), j6, j7, j8, j9, j10, j11, j12]) ?_ ?_
      · rintro st H2 ⟨pa, kd, rx, j6, j7, j8, j9, j10, j11, j12, rfl⟩
        dsimp only
        refine ⟨(70000 : Int), rfl, by omega, by omega, ?_⟩
        rw [show ((70000 : Int).toNat) = 70000 from rfl]
        refine for_range (lo := 0) (n := 70000) (fun j st H' => ∃ pa, RX w m i H H' j pa kd ∧ ∃ j6 j7 j8 j9 j10 j11 j12, st = [some (.int (m.c : Int)), some (.ref L), some v, some (.int (i : Int)), some (.ref pa), some (.ref kd), j6, j7, j8, j9, j10, j11, j12])
          ⟨pa, rx, _, _, _, _, _, _, _, rfl⟩ ?_ ?_
        · clear rx j6 j7 j8 j9 j10 j11 j12 j3 j4 j5
          rintro j st H3 hj ⟨pa, rx, j6, j7, j8, j9, j10, j11, j12, rfl⟩
          have ej : ((0 : Int) + (j : Nat)) = (j : Int) := by omega
          rw [ej]
          obtain ⟨xs, prs, e3, p3, nd, hm⟩ := rx.pr
          obtain ⟨Lk, k3, kk, kl, ki⟩ := rx.kn
          have pl : prs.length ≤ 16 := prs_le ok hi nd hm
          have n4 : m.n ≤ 4 := ok.n4
          refine ⟨_, rfl, pa, xs, rfl, .inl ⟨SqL.of e3, fun q hq => ?_⟩⟩
          have s4 : Same H3 (upd H3 q (.tup xs)) := same_new (fun _ _ e => e) hq
          refine ⟨_, rfl, kd, Lk, keyP prs, q, rfl, rfl, s4 _ _ k3, kk.mono fun a ys e => s4 _ _ e, .tup upd_same (keyP_all (PrAt.kp p3 fun a ys e => s4 _ _ e)), keyP_depth prs, fun hit => ?_, fun miss => ?_⟩
          · obtain ⟨q0, h0, e0⟩ := List.mem_map.mp hit
            obtain ⟨i0, prs0, i1, i2, i3⟩ := ki q0 h0
            have ep : prs0 = prs := keyP_inj (i2.symm.trans e0)
            subst ep
            have nv := fc_never i1 (fun z => (i3 z).symm.trans (hm z)) rx.no
            exact ⟨_, rfl, iteT ⟨rx.sm.trans s4, v, hv.same fun k _ => nv k, _, _, _, _, _, _, _, _, _, _, rfl⟩⟩
          · refine ⟨_, rfl, iteF ?_⟩
            have p4 : PrAt (upd H3 q (.tup xs)) xs prs := PrAt.kp p3 fun a ys e => s4 _ _ e
            have e4 := s4 _ _ e3
            refine ⟨_, rfl, pa, rfl, ⟨xs, SqL.of e4⟩, fun R hR => ?_⟩
            have sR := same_new (fun _ _ e => e) hR (H := upd H3 q (.tup xs)) (o := .lst [])
            refine lc_list (K := K) (a := pa) (xs := xs) (fun t H' => Same (upd H3 q (.tup xs)) H' ∧ H' R = some (.lst (nts ((prs.take t).map (·.1))))) ⟨sR, upd_same⟩ (fun t H' _ z => SqL.of (z.1 _ _ e4)) ?_ ?_
            · rintro t x H4 ht ⟨s5, e5⟩
              obtain ⟨y, hy, a, rfl, ea⟩ := Paired.get1 p4 ht
              have st2 : prs.take (t + 1) = prs.take t ++ [y] := take_snoc hy
              refine ⟨a, _, rfl, SqT.of (s5 _ _ ea), rfl, _, _, rfl, _, _, rfl, rfl, rfl, ?_⟩
              have ht' := (List.getElem?_eq_some_iff.mp hy).1
              refine ⟨_, rfl, _, e5, small (by rw [nts_len, List.length_map, List.length_take]; omega), same_updF s5 hR, ?_⟩
              rw [upd_same, st2, List.map_append]
              unfold nts
              rw [List.map_append]
              rfl
            · rintro H4 ⟨s5, e5⟩
              have xl := Paired.len p3
              rw [xl, List.take_length] at e5
              have en : nts (prs.map (·.1)) = ((prs.map (·.1)).map fun x : Nat => (x : Int)).map V.int := by unfold nts; rw [List.map_map, List.map_map, List.map_map]; rfl
              have enl : ((prs.map (·.1)).map fun x : Nat => (x : Int)).length = prs.length := by rw [List.length_map, List.length_map]
              rw [en] at e5
              have s9 := rx.sm.trans (s4.trans s5)
              refine ⟨R, _, rfl, SqL.of e5, by rw [enl]; omega, fun n q1 q2 => ?_⟩
              rw [enl] at q1 q2
              refine ⟨_, rfl, pa, xs, rfl, .inl (SqL.of (s5 _ _ e4)), _, _, rfl, rfl, _, rfl, ?_⟩
              by_cases dup : (prs.map (·.1)).Nodup
              · have dn : ((prs.map (·.1)).map fun x : Nat => (x : Int)).Nodup := List.pairwise_map.mpr (dup.imp fun ne e => ne (by omega))
                have nn := q1 dn
                refine iteF' (decide_eq_false (by omega)) ?_
                dsimp only [tNext]
                have nof : ¬ FC m i j := fun z => (fc_dup nd hm).mp z dup
                have e5p := s5 _ _ e4
                refine seq_p (fun st H' => ∃ q2, Same H H' ∧ H' pa = some (.lst xs) ∧ PrAt H' xs prs ∧ KeysO H' (Lk ++ [(keyP prs, .ref q2, .bl true)]) ∧ H' kd = some (NdO w kd (Lk ++ [(keyP prs, .ref q2, .bl true)])) ∧ ∃ j7 j8 j9 j10 j11 j12, st = [some (.int (m.c : Int)), some (.ref L), some v, some (.int (i : Int)), some (.ref pa), some (.ref kd), some (.int (j : Int)), j7, j8, j9, j10, j11, j12]) ?_ ?_
                · clear q1 q2 e5 hR sR s5 e5p e4 p4 s4 hq s9
                  rintro st H7 ⟨q2, s7, e7, p7, kk7, k7, j7, j8, j9, j10, j11, j12, rfl⟩
                  refine seq_p (fun st H' => Same H7 H' ∧ ∃ g, H' g = some (.lst []) ∧ ∃ j8 j9 j10 j11 j12, st = [some (.int (m.c : Int)), some (.ref L), some v, some (.int (i : Int)), some (.ref pa), some (.ref kd), some (.int (j : Int)), some (.ref g), j8, j9, j10, j11, j12]) ?_ ?_
                  · clear j7 j8 j9 j10 j11 j12
                    rintro st H8 ⟨s8, g0, eg0, j8, j9, j10, j11, j12, rfl⟩
                    refine seq_p (fun st H' => Same H7 H' ∧ ∃ g ys zs, H' g = some (.lst ys) ∧ PrAt H' ys zs ∧ zs.length ≤ 3 * prs.length ∧ (∀ z, z ∈ zs ↔ ∃ p, p ∈ prs ∧ ∃ a, a < m.c ∧ z = (m.to p.1 a, m.to p.2 a)) ∧ ∃ j8 j9 j10 j11 j12, st = [some (.int (m.c : Int)), some (.ref L), some v, some (.int (i : Int)), some (.ref pa), some (.ref kd), some (.int (j : Int)), some (.ref g), j8, j9, j10, j11, j12]) ?_ ?_
                    · clear g0 eg0 s8 j8 j9 j10 j11 j12
                      rintro st H9 ⟨s10, g, ys, zs, eg, pg, lg, mg', j8, j9, j10, j11, j12, rfl⟩
                      obtain ⟨ks, k1, k2, k5⟩ := pv_ks pg
                      have s11 := s7.trans s10
                      have ksl : ks.length = zs.length := by
                        have z := congrArg List.length k2
                        rw [List.length_map, List.length_map] at z
                        exact z
                      have zok : ∀ z ∈ zs, z.1 < 4 ∧ z.2 < 4 := fun z hz => by
                        obtain ⟨p, hp, a, ha, e⟩ := (mg' z).mp hz
                        have lt := ps_lt ok hi ((hm p).mp hp)
                        have l1 := ok.to_lt lt.1 ha
                        have l2 := ok.to_lt lt.2 ha
                        rw [e]
                        exact ⟨by show m.to p.1 a < 4; omega, by show m.to p.2 a < 4; omega⟩
                      have kz : ∀ p ∈ ks, ∃ z, z ∈ zs ∧ p.2 = [(z.1 : Int), (z.2 : Int)] := fun p hp => by
                        have h1 : p.2 ∈ ks.map (·.2) := List.mem_map.mpr ⟨p, hp, rfl⟩
                        rw [k2] at h1
                        obtain ⟨z, h2, h3⟩ := List.mem_map.mp h1
                        exact ⟨z, h2, h3.symm⟩
                      rw [k1] at eg
                      refine ⟨_, rfl, g, ks, rfl, SqL.of eg, fun p hp => SqT.of (k5 p hp), by omega, fun aS LS hS sub sup => ?_⟩
                      have s12 : Same H9 (upd H9 aS (SetTO P w aS LS)) := same_new (fun _ _ e => e) hS
                      refine ⟨aS, LS, 2, 64, rfl, upd_same, fun p hp => SqT.of (s12 _ _ (k5 p (sub p hp))), by decide, fun p hp => ?_, fun L' pn pm nd' few _ hpn => ?_⟩
                      · obtain ⟨z, h2, h3⟩ := kz p (sub p hp)
                        rw [h3]
                        exact ⟨rfl, bd_pair (zok z h2).1 (zok z h2).2⟩
                      · have hsub : ∀ p ∈ L', p ∈ ks := fun p hp => sub p (pm.mem_iff.mp hp)
                        have s13 := s12.trans (same_new (fun _ _ e => e) hpn (o := .lst (L'.map fun q => V.ref q.1)))
                        obtain ⟨prs', r1, r2⟩ := new_pairs (L := L') (fun p hp => s13 _ _ (k5 p (hsub p hp))) fun p hp => kz p (hsub p hp)
                        have s14 := s10.trans s13
                        refine ⟨pn, ⟨s11.trans s13, rx.fk, ⟨_, prs', upd_same, r1, nodup_of_map (by rw [← r2]; exact nd'), fun z => ?_⟩, ⟨_, s14 _ _ k7, kk7.mono fun a ys e => s14 _ _ e, by rw [List.length_append]; exact Nat.succ_le_succ kl, fun y hy => ?_⟩, fun k hk => ?_⟩, _, _, _, _, _, _, _, rfl⟩
                        · rw [ps_succ]
                          have e1 : z ∈ prs' ↔ z ∈ zs := by
                            constructor
                            · intro hz
                              have h1 : [(z.1 : Int), (z.2 : Int)] ∈ L'.map (·.2) := by rw [r2]; exact List.mem_map.mpr ⟨z, hz, rfl⟩
                              obtain ⟨p, h2, h3⟩ := List.mem_map.mp h1
                              obtain ⟨y, h4, h5⟩ := kz p (hsub p h2)
                              rw [pair_inj (h3.symm.trans h5)]
                              exact h4
                            · intro hz
                              have h1 : [(z.1 : Int), (z.2 : Int)] ∈ ks.map (·.2) := by rw [k2]; exact List.mem_map.mpr ⟨z, hz, rfl⟩
                              obtain ⟨p, h2, h3⟩ := List.mem_map.mp h1
                              obtain ⟨y, h4, h5⟩ := List.mem_map.mp (sup p h2)
                              have h6 : [(z.1 : Int), (z.2 : Int)] ∈ L'.map (·.2) := List.mem_map.mpr ⟨y, pm.mem_iff.mpr h4, h5.trans h3⟩
                              rw [r2] at h6
                              obtain ⟨u, h7, h8⟩ := List.mem_map.mp h6
                              rw [← pair_inj h8]
                              exact h7
                          rw [e1, mg']
                          constructor
                          · rintro ⟨p, hp, a, ha, e⟩
                            exact ⟨p, a, (hm p).mp hp, ha, e⟩
                          · rintro ⟨p, a, hp, ha, e⟩
                            exact ⟨p, (hm p).mpr hp, a, ha, e⟩
                        · rcases List.mem_append.mp hy with y1 | y1
                          · obtain ⟨i0, prs0, y2, y3, y4⟩ := ki y y1
                            exact ⟨i0, prs0, Nat.lt_succ_of_lt y2, y3, y4⟩
                          · rw [List.mem_singleton.mp y1]
                            exact ⟨j, prs, Nat.lt_succ_self j, rfl, hm⟩
                        · by_cases z : k < j
                          · exact rx.no k z
                          · rw [show k = j by omega]
                            exact nof
                    · intro NX hNX
                      refine ⟨_, rfl, pa, rfl, ⟨xs, SqL.of (s8 _ _ e7)⟩, for_list (K := K) (a := pa) (xs := xs) (fun t st H' => Same H7 H' ∧ ∃ g ys zs, H' g = some (.lst ys) ∧ PrAt H' ys zs ∧ zs.length ≤ 3 * t ∧ (∀ z, z ∈ zs ↔ ∃ p, p ∈ prs.take t ∧ ∃ a, a < m.c ∧ z = (m.to p.1 a, m.to p.2 a)) ∧ ∃ j8 j9 j10 j11 j12, st = [some (.int (m.c : Int)), some (.ref L), some v, some (.int (i : Int)), some (.ref pa), some (.ref kd), some (.int (j : Int)), some (.ref g), j8, j9, j10, j11, j12])
                        ⟨s8, g0, [], [], eg0, .nil, Nat.zero_le _, fun z => ⟨fun h => absurd h List.not_mem_nil, fun ⟨p, h, _⟩ => absurd h List.not_mem_nil⟩, _, _, _, _, _, rfl⟩ (fun t st H' _ z => SqL.of (z.1 _ _ e7)) ?_ ?_⟩
                      · clear g0 eg0 s8 j8 j9 j10 j11 j12
                        rintro t x st H9 ht ⟨s10, g, ys, zs, eg, pg, lg, mg', j8, j9, j10, j11, j12, rfl⟩
                        obtain ⟨y, hy, a, rfl, ea⟩ := Paired.get1 p7 ht
                        have yt := (hm y).mp (List.mem_of_getElem? hy)
                        have lt := ps_lt ok hi yt
                        have tl := (List.getElem?_eq_some_iff.mp hy).1
                        have s11 := s7.trans s10
                        refine ⟨a, _, rfl, SqT.of (s10 _ _ ea), rfl, _, _, rfl, _, _, rfl, rfl, ?_⟩
                        refine ⟨_, rfl, _, rfl, (m.c : Int), rfl, by omega, by omega, fun R hR => ?_⟩
                        rw [show ((m.c : Int).toNat) = m.c by omega]
                        refine lc_range (lo := 0) (n := m.c) (fun b H' => Same H9 H' ∧ ∃ us ws, H' R = some (.lst us) ∧ PrAt H' us ws ∧ ws = (List.range b).map fun a => (m.to y.1 a, m.to y.2 a)) ⟨same_new (fun _ _ e => e) hR, [], [], upd_same, .nil, rfl⟩ ?_ ?_
                        · rintro b H10 hb ⟨s12, us, ws, eu, pu, ew⟩
                          have eb : ((0 : Int) + (b : Nat)) = (b : Int) := by omega
                          rw [eb]
                          obtain ⟨r1, _, er1, hr1⟩ := hLs.row lt.1
                          obtain ⟨r2, _, er2, hr2⟩ := hLs.row lt.2
                          have s13 := s11.trans s12
                          have wl : ws.length ≤ 3 := by rw [ew, List.length_map, List.length_range]; omega
                          refine ⟨rfl, _, rfl, _, rfl, L, _, _, _, rfl, rfl, SqL.of (s13 _ _ hL), atI_nat er1, _, rfl, r1, _, _, _, rfl, rfl, SqL.of (s13 _ _ hr1), atI_nat (ok.at_to lt.1 hb), ?_⟩
                          refine ⟨_, rfl, _, rfl, L, _, _, _, rfl, rfl, SqL.of (s13 _ _ hL), atI_nat er2, _, rfl, r2, _, _, _, rfl, rfl, SqL.of (s13 _ _ hr2), atI_nat (ok.at_to lt.2 hb), (by show 2 ≤ sizeLine; decide), fun q hq => ?_⟩
                          have s14 : Same H10 (upd H10 q (.tup (nts [m.to y.1 b, m.to y.2 b]))) := same_new (fun _ _ e => e) hq
                          have eu' := s14 _ _ eu
                          have tu := tup_upd (o := .lst (us ++ [.ref q])) eu' (fun _ z => nomatch z)
                          refine ⟨us, eu', small (by rw [Paired.len pu]; omega), same_updF (s12.trans s14) hR, us ++ [.ref q], ws ++ [(m.to y.1 b, m.to y.2 b)], upd_same, Paired.snoc (PrAt.kp pu fun a ys e => tu _ _ (s14 _ _ e)) ⟨q, rfl, tu _ _ upd_same⟩, ?_⟩
                          rw [ew, List.range_succ, List.map_append]
                          rfl
                        · rintro H10 ⟨s12, us, ws, eu, pu, ew⟩
                          have wl : ws.length ≤ 3 := by rw [ew, List.length_map, List.length_range]; omega
                          have yl := Paired.len pg
                          have ul := Paired.len pu
                          refine ⟨g, R, ys, us, rfl, rfl, s12 _ _ eg, eu, Nat.le_of_lt (small (by omega)), fun g2 hg2 => ?_⟩
                          have s13 : Same H10 (upd H10 g2 (.lst (ys ++ us))) := same_new (fun _ _ e => e) hg2
                          refine ⟨s10.trans (s12.trans s13), g2, ys ++ us, zs ++ ws, upd_same, paired_app (PrAt.kp pg fun a ys e => s13 _ _ (s12 _ _ e)) (PrAt.kp pu fun a ys e => s13 _ _ e), by rw [List.length_append]; omega, fun z => ?_, _, _, _, _, _, rfl⟩
                          rw [List.mem_append, mg', take_snoc hy, ew, List.mem_map]
                          constructor
                          · rintro (⟨p, hp, r⟩ | ⟨a, ha, e⟩)
                            · exact ⟨p, List.mem_append_left _ hp, r⟩
                            · exact ⟨y, List.mem_append_right _ (List.mem_singleton.mpr rfl), a, List.mem_range.mp ha, e.symm⟩
                          · rintro ⟨p, hp, a, ha, e⟩
                            rcases List.mem_append.mp
                                                                                        hp with h | h
                            · exact .inl ⟨p, h, a, ha, e⟩
                            · rw [List.mem_singleton.mp h] at e
                              exact .inr ⟨a, List.mem_range.mpr ha, e.symm⟩
                      · clear g0 eg0 s8 j8 j9 j10 j11 j12
                        rintro st H9 ⟨s10, g, ys, zs, eg, pg, lg, mg', j8, j9, j10, j11, j12, rfl⟩
                        rw [Paired.len p3] at lg mg'
                        rw [List.take_length] at mg'
                        exact hNX _ _ ⟨s10, g, ys, zs, eg, pg, lg, mg', _, _, _, _, _, rfl⟩
                  · intro NX hNX
                    exact ⟨Nat.zero_le _, fun G hG => hNX _ _ ⟨same_new (fun _ _ e => e) hG, G, upd_same, _, _, _, _, _, rfl⟩⟩
                · intro NX hNX
                  refine ⟨_, rfl, _, rfl, pa, xs, rfl, .inl ⟨SqL.of e5p, fun q2 hq2 => ?_⟩⟩
                  have s6 : Same H4 (upd H4 q2 (.tup xs)) := same_new (fun _ _ e => e) hq2
                  have k4 := s6 _ _ (s5 _ _ (s4 _ _ k3))
                  have p6 : PrAt (upd H4 q2 (.tup xs)) xs prs := PrAt.kp p4 fun a ys e => s6 _ _ (s5 _ _ e)
                  have kk6 : KeysO (upd H4 q2 (.tup xs)) Lk := kk.mono fun a ys e => s6 _ _ (s5 _ _ (s4 _ _ e))
                  have ki6 : KIs (upd H4 q2 (.tup xs)) (keyP prs) (.ref q2) := .tup upd_same (keyP_all p6)
                  refine ⟨kd, Lk, keyP prs, q2, rfl, rfl, k4, kk6, ki6, keyP_depth prs, sized (by omega), ?_⟩
                  rw [put_new miss]
                  have tu := tup_upd (o := NdO w kd (Lk ++ [(keyP prs, .ref q2, .bl true)])) k4 (fun _ z => nomatch z)
                  refine hNX _ _ ⟨q2, same_updF (s9.trans s6) rx.fk, ?_, PrAt.kp p6 tu, fun x hx => ?_, upd_same, _, _, _, _, _, _, rfl⟩
                  · have ne : pa ≠ kd := fun z => by
                      have e6 := s6 _ _ e5p
                      rw [z, k4] at e6
                      exact nomatch Option.some.inj e6
                    exact (upd_ne ne).trans (s6 _ _ e5p)
                  · rcases List.mem_append.mp hx with y | y
                    · exact (kk6.mono tu) x y
                    · rw [List.mem_singleton.mp y]
                      exact ⟨ki6.mono tu, keyP_depth prs⟩
              · have dn : ¬ ((prs.map (·.1)).map fun x : Nat => (x : Int)).Nodup := fun z => dup (nodup_of_map z)
                have nn := q2 dn
                have fc := (fc_dup nd hm).mpr dup
                refine iteT' (decide_eq_true (by omega)) ?_
                rcases hv with ⟨rfl, hv⟩ | ⟨b, rfl, hb, hv⟩
                · have nx := BestV.first (.inl ⟨rfl, hv⟩) fc rx.no
                  refine ⟨_, rfl, rfl, _, rfl, ?_⟩
                  exact iteT (iteT ⟨_, rfl, s9, _, nx, _, _, _, _, _, _, _, _, _, _, rfl⟩)
                · have nx := BestV.less (.inr ⟨b, rfl, hb, hv⟩) fc rx.no
                  refine ⟨_, rfl, rfl, _, rfl, ?_⟩
                  refine iteF ⟨_, rfl, _, rfl, _, _, rfl, rfl, _, rfl, ?_⟩
                  refine ite2 (fun y => ?_) (fun y => ?_)
                  · rw [if_pos (show j < b by have y' := of_decide_eq_true y; omega)] at nx
                    exact ⟨_, rfl, s9, _, nx, _, _, _, _, _, _, _, _, _, _, rfl⟩
                  · rw [if_neg (show ¬ j < b by have y' := of_decide_eq_false (bfalse y); omega)] at nx
                    exact ⟨_, rfl, s9, _, nx, _, _, _, _, _, _, _, _, _, _, rfl⟩
        · rintro st H3 ⟨pa, rx, j6, j7, j8, j9, j10, j11, j12, rfl⟩
          exact ⟨rx.sm, v, hv.same rx.no, _, _, _, _, _, _, _, _, _, _, rfl⟩
      · intro NX hNX
        refine ⟨_, rfl, L, _, rfl, SqL.of (s1 _ _ hL), fun R hR => ?_⟩
        refine lc_it (walk_enum (K := K) (a := L) (xs := ls.map V.ref)) (fun j H' => Same H1 H' ∧ ∃ xs prs, H' R = some (.lst xs) ∧ PrAt H' xs prs ∧ prs.length = j ∧ prs = (List.range j).map fun s => (s, m.to s i)) ⟨same_new (fun _ _ e => e) hR, [], [], upd_same, .nil, rfl, rfl⟩ (fun j H' _ q => SqL.of (q.1 _ _ (s1 _ _ hL))) ?_ ?_
        · rintro j x H2 H3 hj ⟨s2, xs, prs, e2, p2, n2, r2⟩ ⟨T, x1, y1, rfl, hT, rfl, ex, ey⟩
          have hjn : j < m.n := by rw [List.length_map] at hj; have q := hLs.len; show j < m.st.length; omega
          have n4 : m.n ≤ 4 := ok.n4
          obtain ⟨r, _, er, hr'⟩ := hLs.row hjn
          have e1 : V.int ((j : Nat) : Int) = x1 := Option.some.inj ex
          have e3 : V.ref r = y1 := Option.some.inj (er.symm.trans ey)
          subst e1 e3
          have s3 : Same H2 (upd H2 T (.tup [.int ((j : Nat) : Int), .ref r])) := same_new (fun _ _ e => e) hT
          refine ⟨T, _, rfl, SqT.of upd_same, rfl, _, _, rfl, _, _, rfl, rfl, rfl, ?_⟩
          refine ⟨_, rfl, _, rfl, _, rfl, r, _, _, _, rfl, rfl, SqL.of (s3 _ _ (s2 _ _ (s1 _ _ hr'))), atI_nat (ok.at_to hjn hi), (by show 2 ≤ sizeLine; decide), fun q hq => ?_⟩
          have s4 : Same (upd H2 T (.tup [.int ((j : Nat) : Int), .ref r])) _ := same_new (fun _ _ e => e) hq (o := .tup [.int ((j : Nat) : Int), .int ((m.to j i : Nat) : Int)])
          have e4 := s4 _ _ (s3 _ _ e2)
          have tu := tup_upd (o := .lst (xs ++ [.ref q])) e4 (fun _ z => nomatch z)
          refine ⟨xs, e4, small (by rw [Paired.len p2]; omega), same_updF (s2.trans (s3.trans s4)) hR, xs ++ [.ref q], prs ++ [(j, m.to j i)], upd_same, Paired.snoc (p2.kp fun a ys e => tu _ _ (s4 _ _ (s3 _ _ e))) ⟨q, rfl, tu _ _ upd_same⟩, by rw [List.length_append, n2]; rfl, ?_⟩
          rw [r2, List.range_succ, List.map_append]
          rfl
        · rintro H2 ⟨s2, xs, prs, e2, p2, n2, r2⟩
          have n4 : m.n ≤ 4 := ok.n4
          have nl : prs.length ≤ 4 := by rw [n2, List.length_map, hLs.len]; exact n4
          have hm : ∀ q, q ∈ prs ↔ PS m i 0 q := fun q => by
            rw [ps_zero, r2, List.length_map, hLs.len, List.mem_map]
            constructor
            · rintro ⟨a, ha, e⟩; exact ⟨a, List.mem_range.mp ha, e.symm⟩
            · rintro ⟨a, ha, e⟩; exact ⟨a, List.mem_range.mpr ha, e.symm⟩
          have nd : prs.Nodup := by
            refine nodup_of_map (f := Prod.fst) ?_
            rw [r2, List.map_map]
            show ((List.range _).map fun s => s).Nodup
            rw [List.map_id']
            exact List.nodup_range
          refine ⟨R, xs, rfl, SqL.of e2, by rw [Paired.len p2]; omega, fun x hx => ?_, fun ys p pm _ hp => ?_⟩
          · obtain ⟨q, hq, a, e3, e4⟩ := mem1 p2 hx
            have lt := ps_lt ok hi ((hm q).mp hq)
            exact ⟨[(q.1 : Int), (q.2 : Int)], ⟨a, e3, SqT.of e4⟩, rfl, bd_pair (by omega) (by omega)⟩
          · obtain ⟨prs2, pm2, p3⟩ := perm_paired pm p2
            have s3 : Same H2 (upd H2 p (.lst ys)) := same_new (fun _ _ e => e) hp
            refine fun kd hkd => ⟨_, _, rfl, hNX _ _ ⟨p, kd, ⟨?_, ?_, ⟨ys, prs2, ?_, ?_, ?_, fun q => ?_⟩, ⟨[], upd_same, fun _ h => absurd h List.not_mem_nil, Nat.le_refl _, fun _ h => absurd h List.not_mem_nil⟩, fun k hk => absurd hk (Nat.not_lt_zero k)⟩, _, _, _, _, _, _, _, rfl⟩⟩
            · exact (s1.trans (s2.trans s3)).trans (same_new (fun _ _ e => e) hkd)
            · exact Same.none (s1.trans (s2.trans s3)) hkd
            · exact same_new (fun _ _ e => e) hkd _ _ upd_same
            · exact PrAt.kp p3 fun a zs e => same_new (fun _ _ e => e) hkd _ _ (s3 _ _ e)
            · exact pm2.nodup_iff.mpr nd
            · rw [pm2.mem_iff]
              exact hm q
    · rintro st H1 ⟨s1, v, hv, j3, j4, j5, j6, j7, j8, j9, j10, j11, j12, rfl⟩
      exact ⟨_, rfl, k H1 v s1 hv.done⟩
end
end K53
namespace K53
open PySem PySem.Spec PyProof.Rows L2 L2.KR LamX
/-! ### keyword calls of two defs -/
def kOne {α : Type} : List α → List α → List α
  | [], [a] => [a]
  | _, _ => []
def kRev {α : Type} : List α → List α → List α
  | [], [a, b] => [b, a]
  | _, _ => []
structure DfK (P : Program) (w : World) (K : PySem.W.Frag) (mg : Str → Option Value) (base : Heap) (k : Nat) (x : Str) (ps ks : List Str) (gV : List V → List V → List V) (sp : Sp) : Prop where
  ex : ∃ (f : Addr) (fd : FuncData) (g : List Value → List Value → List Value), FnOk P w K mg base CX0 k f fd ps sp ∧ mg x = some (.ref f) ∧ PySem.W.keepIn K (.ref f) = true ∧ KBinds K fd ps ks g gV
section
variable {X : Cx} {k j : Nat} {x : Str} {ps ks : List Str} {gV : List V → List V → List V} {sp : Sp} {p pos : Pos} {kws : List Keyword} {tk : TA}
theorem pe_dfk (c : DfK X.prog X.w X.K X.mg X.base k x ps ks gV sp) (hr : Room j X.A) (hk : k ≤ j) (hg : Gl X x) (hkw : PK X kws tk)
    (hall : (backToKw pos (keywordEach kws X.env)).all (·.1.isSome) = true := by rfl) (hks : (backToKw pos (keywordEach kws X.env)).filterMap (·.1) = ks := by rfl)
    (hdb : (x == ("__debug__" : Str)) = false := by decide) (hpl : ((backTo pos (starEach [] X.env)).any (·.1) || (backToKw pos (keywordEach kws X.env)).any (·.1.isNone)) = false := by rfl) :
    PE X (.Call (.Name x p) [] kws pos) (tCallK0 sp gV tk) := by
  obtain ⟨f, fd, g, F, hm, kp, hb⟩ := c.ex
  exact pe_callK0 F hr hk hg hm kp hb hkw hall hks hdb hpl
theorem pe_lenSetGK {K : PySem.W.Frag} {a : Expr} {ta : TE} {p p2 q pos : Pos} (h : X.K = K) (hc : X.calm = true) (hg : Gl X "len") (hm : X.mg "len" = none) (hg2 : Gl X "set") (hm2 : X.mg "set" = none) (ha : PE X a ta)
    (na : starEach [a] X.env = (false, eval a X.env) :: starEach [] X.env := by rfl) : PE X (.Call (.Name "len" p) [.Call (.Name "set" p2) [a] [] q] [] pos) (tLenSetG K ta) := by
  subst h
  exact pe_lenSetG hc hg hm hg2 hm2 ha na
end
theorem DealAt.kp {H H' : Hp} {l : List Addr} {D dl : Addr} (h : DealAt H D dl) (k : Kp l H H') (n1 : D ∉ l) (n2 : dl ∉ l) : DealAt H' D dl := let ⟨b, ns, h1, h2, h3⟩ := h; ⟨b, ns, k _ _ h1 n1, k _ _ h2 n2, h3⟩
theorem ListsAt.kp {H H' : Hp} {l : List Addr} {rs : List Addr} {st : List (List Nat)} (h : ListsAt H rs st) (k : Kp l H H') (n : ∀ q ∈ rs, q ∉ l) : ListsAt H' rs st := Paired.imp h fun a xs ha e => k _ _ e (n a ha)
/-- what the law's body has in its hands once the machine is made -/
structure LS (C PT : Addr) (H : Hp) (D dl L p d : Addr) (m : Mc) (ls : List Addr) : Prop where
  deal : DealAt H D dl
  mach : MachAt C H p m d
  hd : ∃ v, H d = some (.dK [(.inr nfS, v)]) ∧ NumV m H v
  hL : H L = some (.lst (ls.map V.ref))
  hls : ListsAt H ls m.st
  nL : L ∉ [D, dl]
  nls : ∀ q ∈ ls, q ∉ [D, dl]
  tb : H PT = some (.tbl #[])
theorem not_mem2 {a D dl : Addr} (h1 : a ≠ D) (h2 : a ≠ dl) : a ∉ [D, dl] := fun z => by
  simp only [List.mem_cons, List.not_mem_nil, or_false] at z
  rcases z with z | z
  · exact h1 z
  · exact h2 z
theorem deal_cls {H : Hp} {D dl : Addr} (h : DealAt H D dl) : ∀ b ∈ [D, dl], ∀ o, H b = some o → ∃ xs, o = .lst xs := fun b hb o e => by
  obtain ⟨y, ns, h1, h2, _⟩ := h
  simp only [List.mem_cons,
                                                              List.not_mem_nil, or_false] at hb
  rcases hb with z | z
  · rw [z, h1] at e; exact ⟨_, (Option.some.inj e).symm⟩
  · rw [z, h2] at e; exact ⟨_, (Option.some.inj e).symm⟩
theorem deal_off {H : Hp} {D dl a : Addr} (h : DealAt H D dl) {o : HO} (e : H a = some o) (n : ∀ xs, o ≠ .lst xs) : a ∉ [D, dl] := fun z => by
  obtain ⟨xs, e2⟩ := deal_cls h a z o e
  exact n xs e2
theorem LS.same {C PT : Addr} {H H' : Hp} {D dl L p d : Addr} {m : Mc} {ls : List Addr} (h : LS C PT H D dl L p d m ls) (s : Same H H') : LS C PT H' D dl L p d m ls := by
  obtain ⟨v, e, nv⟩ := h.hd
  exact ⟨h.deal.same s, h.mach.same s, ⟨v, s _ _ e, nv.kp fun a xs e => s _ _ e⟩, s _ _ h.hL, h.hls.same s, h.nL, h.nls, s _ _ h.tb⟩
theorem LS.kpD {C PT : Addr} {H H' : Hp} {D dl L p d : Addr} {m : Mc} {ls : List Addr} (h : LS C PT H D dl L p d m ls) (k : Kp [D, dl] H H') (hd : DealAt H' D dl) : LS C PT H' D dl L p d m ls := by
  obtain ⟨v, e, nv⟩ := h.hd
  refine ⟨hd, h.mach.kp k fun b hb o e => ?_, ⟨v, k _ _ e (deal_off h.deal e fun _ z => nomatch z), nv.kp (deal_tup k h.deal)⟩, k _ _ h.hL h.nL, ListsAt.kp h.hls k h.nls, h.nL, h.nls, k _ _ h.tb (deal_off h.deal h.tb fun _ z => nomatch z)⟩
  obtain ⟨xs, rfl⟩ := deal_cls h.deal b hb o e
  exact ⟨(fun _ _ _ z => nomatch z), (fun _ z => nomatch z)⟩
theorem off_d {H : Hp} {a d : Addr} {o : HO} {v : V} (e : H a = some o) (e2 : H d = some (.dK [(.inr nfS, v)])) (n : ∀ kvs, o ≠ .dK kvs) : a ∉ [d] := fun z => by
  rw [List.mem_singleton.mp z, e2] at e
  exact n _ (Option.some.inj e).symm
theorem LS.kpd {C PT : Addr} {H H' : Hp} {D dl L p d : Addr} {m : Mc} {ls : List Addr} {v : V} (h : LS C PT H D dl L p d m ls) (k : Kp [d] H H') (hd : H' d = some (.dK [(.inr nfS, v)])) (nv : NumV m H' v) : LS C PT H' D dl L p d m ls := by
  obtain ⟨v0, e0, nv0⟩ := h.hd
  obtain ⟨y, ns, d1, d2, d3⟩ := h.deal
  refine ⟨⟨y, ns, k _ _ d1 (off_d d1 e0 fun _ z => nomatch z), k _ _ d2 (off_d d2 e0 fun _ z => nomatch z), d3⟩, h.mach.kp k (NFHeap.cls (.inr ⟨v0, e0, nv0⟩)), ⟨v, hd, nv⟩, k _ _ h.hL (off_d h.hL e0 fun _ z => nomatch z), Paired.imp h.hls fun a xs _ e => k _ _ e (off_d e e0 fun _ z => nomatch z), h.nL, h.nls, k _ _ h.tb (off_d h.tb e0 fun _ z => nomatch z)⟩
theorem LS.steps {C PT : Addr} {H : Hp} {D dl L p d : Addr} {m : Mc} {ls : List Addr} (h : LS C PT H D dl L p d m ls) : StepsAt H L m := ⟨h.mach.ok, ls, h.hL, h.hls⟩
theorem shp_same {H H' : Hp} {v : V} {fv : FV} (h : Shp H v fv) (s : Same H H') : Shp H' v fv := by
  cases h with
  | non => exact .non
  | int i => exact .int i
  | lst e => exact .lst (s _ _ e)
  | tup e n => exact .tup (s _ _ e) n
  | five e u w =>
    refine .five (s _ _ e) ?_ (w.same s)
    rcases u with ⟨e1, u⟩ | ⟨us, e1, u⟩
    · exact .inl ⟨e1, u.same s⟩
    · exact .inr ⟨us, e1, u.same s⟩
theorem due_case {m : Mc} {H : Hp} {v due : V} (hv : NumV m H v) (hd : ShortV m due) : (due = .non ∧ ∀ j, ¬ Fault m j) ∨ ∃ b : Nat, due = .int (b : Int) ∧ Fault m b := by
  rcases hv with ⟨_, nof⟩ | ⟨t, u, w, wt, k, _, _, _, _, hf, _, k1⟩
  · rcases hd with ⟨e, _⟩ | ⟨b, _, hb, _⟩
    · exact .inl ⟨e, nof⟩
    · exact absurd hb (nof b)
  · rcases hd with ⟨_, no⟩ | ⟨b, e, hb, _⟩
    · exact absurd ⟨wt, hf⟩ (no k (by omega))
    · exact .inr ⟨b, e, hb⟩
def Ne3 (m : Mc) (s a b : Nat) : Prop := m.to (m.to s a) b ≠ m.to (m.to s b) a
theorem col_get {m : Mc} {x j : Nat} (h : j < m.n) : (colHere m x)[j]? = some (m.to j x) := by
  unfold colHere
  rw [List.getElem?_map, List.getElem?_range h]
  rfl
theorem col_len (m : Mc) (x : Nat) : (colHere m x).length = m.n := by
  unfold colHere
  rw [List.length_map,
                                                              List.length_range]
theorem NumV.shp {m : Mc} {H : Hp} {x : V} (h : NumV m H x) : (x = .non ∧ ∀ j, ¬ Fault m j) ∨ ∃ t u w wt k, x = .ref t ∧ H t = some (.tup [.int (wt.s : Nat), .int (wt.t : Nat), .int (wt.x : Nat), .ref u, .ref w]) ∧ H u = some (.tup (nts wt.u)) ∧ FaultBy m wt k ∧ (∀ j, j < k → ¬ Fault m j) ∧ k ≤ 1000 ∧ Shp H x (.five (.i (wt.s : Int)) (.i (wt.t : Int)) (.i (wt.x : Int)) (some (lfn wt.u)) (lfn wt.w)) := by
  rcases h with h | ⟨t, u, w, wt, k, rfl, h2, h3, h4, h5, h6, h7⟩
  · exact .inl h
  · refine .inr ⟨t, u, w, wt, k, rfl, h2, h3, h5, h6, h7, .five h2 (.inr ⟨_, rfl, u, rfl, ?_⟩) ⟨w, rfl, ?_⟩⟩
    · rw [lfn_v]; exact h3
    · rw [lfn_v]; exact h4
def scLawIn : Scope := { kind := .function, names := [(".0", .local), ("_law_x", .cell), ("len", .globalImplicit), ("set", .globalImplicit), ("_law_steps", .cell)], isGenerator := false, isCoroutine := false }
section
variable {P : Program} {w : World} {K : PySem.W.Frag} {mg : Str → Option Value} {base : Heap} {f C PT fI : Addr} {fd fdI : FuncData}
def spLaw (K : PySem.W.Frag) (PT : Addr) : Sp := fun vs H Q _ => ∃ (a : Addr) (ns : List Int), vs = [.ref a] ∧ SqL K H a (ilst ns) ∧ ns.length ≤ 63 ∧ H PT = some (.tbl #[]) ∧ ∀ H', Q (.bl true) H'
abbrev scLawN : List Str := ["_law_script", "_law_deal", "_law_commands", "_law_steps", "_law_machine_here", "_law_due", "_law_told", "_law_found", "_law_turn", "_law_value", "_law_row_here", "_law_onto", "_law_apart", "_law_a", "_law_b", "_law_x"]
theorem scLaw : FnScope scLawN ["_law_script"] (defScope sLaw) := ⟨rfl, rfl, rfl, by decide +kernel, rfl, by decide +kernel, by decide +kernel⟩
theorem ok_law (F : Fun K "law" "law" sLaw f fd) (T : Txt mg) (M : MTxt K mg C) (MK : Mk K C fI) (GI : FnOk P w K mg base CX0 4 fI fdI ["self", "commands", "steps"] (spInit C)) (bI : Binds K fdI ["self", "commands", "steps"] [])
    (cDraw : Df P w K mg base 1 "_law_draw" ["_law_script", "_law_salt"] (spDraw K)) (cMach : Df P w K mg base 4 "_law_machine" ["_law_deal", "_law_most"] spMach) (cShort : Df P w K mg base 1 "_law_shortest" ["_law_commands", "_law_steps"] spShort)
    (cNF : Df P w K mg base 4 "number_fault" ["machine"] (spNumF C)) (kNF : DfK P w K mg base 4 "number_fault" ["machine"] ["machine"] kOne (spNumF C))
    (cLF : Df P w K mg base 2 "_law_is_fault" ["_law_commands", "_law_steps", "_law_value"] spLIsF) (cNear : Df P w K mg base 3 "_law_near" ["_law_deal", "_law_commands", "_law_steps", "_law_found"] spNear)
    (kIsNF : DfK P w K mg base 5 "is_number_fault" ["machine", "value"] ["value", "machine"] kRev (spIsNF C)) (cBlind : Df P w K mg base 9 "is_blind" ["machine"] (spBlind C PT)) :
    FnOk P w K mg base CX0 10 f fd ["_law_script"] (spLaw K PT) := by
  refine F.ok scLaw (fun vs H Q E h => ?_) (fun cdv A outer s H vs Q E hr h => ?_)
  · obtain ⟨a, ns, rfl, _⟩ := h
    rfl
  · obtain ⟨a0, ns, rfl, hns, hnl, hTb, k⟩ := h
    have hu64 : (A.deeper (envOfC "law" (defScope sLaw) s.heap.objs.size f cdv)).units + 64 < cLine := by have q := hr.un; omega
    have hr5 : Room (4 + 1) (A.deeper (envOfC "law" (defScope sLaw) s.heap.objs.size f cdv)) := hr.mono (by decide)
    refine ⟨_, (pss_cons (ps_set (i := 1) scLaw.nd rfl (.inl rfl) (pe_df cDraw hr (by decide) rfl (pa_cons (pv 0) (pa_cons pe_int pa_nil))))
      (pss_cons (ps_asg (pe_df cMach hr (by decide) rfl (pa_cons (pv 1) (pa_cons pe_int pa_nil))) (pg_tup rfl (pgs_cons (pg_name (i := 2) scLaw.nd rfl (.inl rfl)) (pgs_cons (pg_name (i := 3) scLaw.nd rfl (.inr rfl)) pgs_nil))))
      (pss_cons (ps_par (i := 4) (j := 5) (by rfl) scLaw.nd rfl rfl (by decide) rfl rfl (pa_cons (pe_make MK GI hr5 (by rfl) M.mgC bI .nil pass0 (pa_cons (pv 2) (pa_cons (pv 3) pa_nil))) (pa_cons (pe_df cShort hr (by decide) rfl (pa_cons (pv 2) (pa_cons (pv 3) pa_nil))) pa_nil)) (by rfl))
      (pss_cons (ps_set (i := 6) scLaw.nd rfl (.inl rfl) (pe_df cNF hr (by decide) rfl (pa_cons (pv 4) pa_nil)))
      (pss_cons (ps_for PassesOwn.never rfl (pi_list (pe_lst (pa_cons (pv 6) (pa_cons (pe_dfk kNF hr (by decide) rfl (pk_cons (pv 4) pk_nil)) pa_nil)))) (pg_name (i := 7) scLaw.nd rfl (.inl rfl))
      (pss_cons (ps_if (PW.pt (pw_and (pt_cmpR op_isN (pv 5) pe_non (nomark _)) (pw_and1 (pt_cmpR op_notN (pv 7) pe_non (nomark _))))) (pss_one (ps_ret pe_bl)) pss_nil)
      (pss_one (ps_if (PW.pt (pw_and (pt_cmpR op_notN (pv 5) pe_non (nomark _)) (pw_and1 (PW.pt (pw_or (pt_not (pt_val (pe_df cLF hr (by decide) rfl (pa_cons (pv 2) (pa_cons (pv 3) (pa_cons (pv 7) pa_nil)))))) (pw_or1 (pt_cmpR op_ne (pe_callB (lenK (K := K) rfl) (by rfl) T.len PySem.boot_len (pa_cons (pe_ix (ixT (K := K) rfl) (pv 7) pe_int (fun _ _ => rfl)) pa_nil)) (pv 5) (nomark _)))))))) (pss_one (ps_ret pe_bl)) pss_nil))))
      (pss_cons (ps_for PassesOwn.never rfl (pi_range1 (by rfl) T.range (pa_cons pe_int pa_nil)) (pg_name (i := 8) scLaw.nd rfl (.inl rfl))
      (pss_cons (ps_set (i := 9) scLaw.nd rfl (.inl rfl) (pe_df cNear hr (by decide) rfl (pa_cons (pv 1) (pa_cons (pv 2) (pa_cons (pv 3) (pa_cons (pv 6) pa_nil))))))
      (pss_one (ps_if (pt_cmpR op_ne (pe_callB call_repr_bl (by rfl) T.repr (by decide +kernel) (pa_cons (pe_dfk kIsNF hr (by decide) rfl (pk_cons (pv 9) (pk_cons (pv 4) pk_nil))) pa_nil)) (pe_callB call_repr_bl (by rfl) T.repr (by decide +kernel) (pa_cons (pe_df cLF hr (by decide) rfl (pa_cons (pv 2) (pa_cons (pv 3) (pa_cons (pv 9) pa_nil)))) pa_nil)) (nomark _)) (pss_one (ps_ret pe_bl)) pss_nil))))
      (pss_cons (ps_if (PW.pt (pw_and (pt_cmpR op_isN (pv 5) pe_non (nomark _)) (pw_and1 (pt_val (pe_df cBlind hr (by decide) rfl (pa_cons (pv 4) pa_nil)))))) (pss_one (ps_ret pe_bl)) pss_nil)
      (pss_cons (ps_set (i := 11) scLaw.nd rfl (.inl rfl) (pe_cmpR (op_eqD hu64) (pe_lc (own := [("_law_x", 15)]) (g := gName 15) (tt := _) (by rfl) scLaw.nd (pi_range1 (by rfl) T.range (pa_cons (pv 2) pa_nil)) (blkOk_by (own := [("_law_x", 15)]) (N := scLawN) (sc := defScope sLaw) (by decide +kernel)) (fun _ _ _ _ _ => pg_name (i := 15) scLaw.nd rfl (Or.inr rfl)) (fun _ _ _ _ _ => pts_one (pt_cmpR op_lt (pe_lenSetGK (K := K) rfl rfl rfl T.len rfl T.set (pe_lc (own := [("_law_row_here", 10)]) (g := gName 10) (tt := tYes) (by rfl) scLaw.nd (pi_listK (K := K) rfl (pv 3)) (blkOk_by (own := [("_law_row_here", 10)]) (N := scLawN) (sc := scLawIn) (by decide +kernel)) (fun _ _ _ _ _ => pg_name (i := 10) scLaw.nd rfl (Or.inl rfl)) (fun _ _ _ _ _ => pts_nil) (fun _ _ _ _ _ => (pe_ix (ixL (K := K) rfl) (pv 10) (pv 15) (fun _ _ => rfl))))) (pe_callB (lenK (K := K) rfl) (by rfl) T.len PySem.boot_len (pa_cons (pv 3) pa_nil)) (nomark _))) (fun _ _ _ _ _ => (pv 15))) (pe_lst pa_nil) (nomark _)))
      (pss_cons (ps_set (i := 12) scLaw.nd rfl (.inl rfl) pe_bl)
      (pss_cons (ps_for PassesOwn.never rfl (pi_list (pv 3)) (pg_name (i := 10) scLaw.nd rfl (.inl rfl))
      (pss_one (ps_for PassesOwn.never rfl (pi_range1 (by rfl) T.range (pa_cons (pv 2) pa_nil)) (pg_name (i := 13) scLaw.nd rfl (.inl rfl))
      (pss_one (ps_for PassesOwn.never rfl (pi_range1 (by rfl) T.range (pa_cons (pv 13) pa_nil)) (pg_name (i := 14) scLaw.nd rfl (.inl rfl))
      (pss_one (ps_set (i := 12) scLaw.nd rfl (.inl rfl) (pe_or (pv 12) (pe_one (pe_cmpR op_ne (pe_ix (ixL (K := K) rfl) (pe_ix (ixL (K := K) rfl) (pv 3) (pe_ix (ixL (K := K) rfl) (pv 10) (pv 13) (fun _ _ => rfl)) (fun _ _ => rfl)) (pv 14) (fun _ _ => rfl)) (pe_ix (ixL (K := K) rfl) (pe_ix (ixL (K := K) rfl) (pv 3) (pe_ix (ixL (K := K) rfl) (pv 10) (pv 14) (fun _ _ => rfl)) (fun _ _ => rfl)) (pv 13) (fun _ _ => rfl)) (nomark _)))))))))))
      (pss_one (ps_ret (pe_or (pe_not (pv 11)) (pe_one (pe_cmpR op_eq (pv 12) (pe_cmpR op_notN (pv 5) pe_non (nomark _)) (nomark _)))))))))))))))), ?_⟩
    refine ⟨_, rfl, a0, ns, 53, rfl, by decide, by decide, hns, hnl, fun H1 D dl s1 nD ndl hd1 => ?_⟩
    have tb1 := s1 _ _ hTb
    have tbn : PT ∉ [D, dl] := not_mem2 (ne_of_none hTb nD) (ne_of_none hTb ndl)
    refine ⟨_, rfl, D, dl, rfl, hd1, fun H2 t L ls m kp2 hd2 ok hL hls nL nls ht => ?_⟩
    have tb2 := kp2 _ _ tb1 tbn
    refine ⟨t, _, rfl, SqT.of ht, rfl, _, _, rfl, _, _, rfl, rfl, ?_⟩
    refine ⟨_, rfl, _, rfl, fun p dx hp hdx hne => ?_⟩
    have sA : Same H2 (upd H2 dx (.own p)) := same_new (fun _ _ e => e) hdx
    have hp2 : upd H2 dx (.own p) p = none := by rw [upd_ne (Ne.symm hne)]; exact hp
    have sB := sA.trans (same_new (fun _ _ e => e) hp2 (o := .ins C dx []))
    refine ⟨p, dx, L, m, ls, rfl, ok, upd_same, sB _ _ hL, hls.same sB, fun d H3 nd hm hd3 kp3 => ⟨rfl, ?_⟩⟩
    have off1 : ∀ {a : Addr} {o : HO}, H2 a = some o → a ∉ [p] := fun e z => by rw [List.mem_singleton.mp z, hp] at e; cases e
    have off2 : ∀ {a : Addr} {o : HO}, H2 a = some o → a ∉ [d] := fun e z => by
      have e2 := sB _ _ e
      rw [List.mem_singleton.mp z, nd] at e2
      cases e2
    have k3 : ∀ {a : Addr} {o : HO}, H2 a = some o → H3 a = some o := fun e => kp3 _ _ (sB _ _ e) (off1 e)
    refine ⟨_, rfl, _, rfl, L, m, rfl, ⟨ok, ls, k3 hL, Paired.imp hls fun a xs _ e => k3 e⟩, fun H4 due s4 hdue => ?_⟩
    refine ⟨_, _, rfl, ?_⟩
    refine ⟨_, rfl, p, m, d, rfl, hm.same s4, .inl (s4 _ _ hd3), fun H5 v kp5 hd5 hv => ?_⟩
    have k5 : ∀ {a : Addr} {o : HO}, H2 a = some o → H5 a = some o := fun e => kp5 _ _ (s4 _ _ (k3 e)) (off2 e)
    have X5 : LS C PT H5 D dl L p d m ls := by
      obtain ⟨y, ms, d1, d2, d3⟩ := hd2
      exact ⟨⟨y, ms, k5 d1, k5 d2, d3⟩, (hm.same s4).kp kp5 (NFHeap.cls (m := m) (.inl (s4 _ _ hd3))), ⟨v, hd5, hv⟩, k5 hL, Paired.imp hls fun a xs _ e => k5 e, nL, nls, k5 tb2⟩
    clear k5 k3 off1 off2 hd3 nd hm kp3 kp5 s4 sB sA hp2 hne hdx hp dx tb2 tb1 tbn kp2 hd2 hd1 s1 nD ndl hL hls nL nls ht hTb
    clear hd5
    have cc := ok.c3
    have n4 : m.n ≤ 4 := ok.n4
    dsimp only [gName]
    refine seq_p (fun st H' => LS C PT H' D dl L p d m ls ∧ NumV m H' v ∧ ∃ j7, st = [some (.ref a0), some (.ref D), some (.int (m.c : Int)), some (.ref L), some (.ref p), some due, some v, j7, none, none, none, none, none, none, none, none]) ?_ ?_
    · clear X5 hv
      rintro st H5 ⟨X5, hv, j7, rfl⟩
      have s0 : Same H5 H5 := fun _ _ e => e
      refine seq_p (fun st H' => LS C PT H' D dl L p d m ls ∧ NumV m H' v ∧ ∃ j7 j8 j9, st = [some (.ref a0), some (.ref D), some (.int (m.c : Int)), some (.ref L), some (.ref p), some due, some v, j7, j8, j9, none, none, none, none, none, none]) ?_ ?_
      · clear X5 hv j7 s0
        rintro st H6 ⟨X6, hv, j7, j8, j9, rfl⟩
        have hq := due_case hv hdue
        refine seq_p (fun st H' => StepsAt H' L m ∧ st = [some (.ref a0), some (.ref D), some (.int (m.c : Int)), some (.ref L), some (.ref p), some due, some v, j7, j8, j9, none, none, none, none, none, none]) ?_ ?_
        · clear X6 hv hdue
          rintro st H7 ⟨X7, rfl⟩
          refine seq_p (fun st H' => StepsAt H' L m ∧ ∃ o : Bool, (o = true → ∀ x, x < m.c → (colHere m x).Nodup) ∧ st = [some (.ref a0), some (.ref D), some (.int (m.c : Int)), some (.ref L), some (.ref p), some due, some v, j7, j8, j9, none, some (.bl o), none, none, none, none]) ?_ ?_
          · clear X7
            rintro st H8 ⟨⟨_, ls, hL, hls⟩, o, ho, rfl⟩
            refine seq_p (fun st H' => H' = H8 ∧ ∃ j10 j13 j14, st = [some (.ref a0), some (.ref D), some (.int (m.c : Int)), some (.ref L), some (.ref p), some due, some v, j7, j8, j9, j10, some (.bl o), some (.bl false), j13, j14, none]) ?_ (fun NX hNX => hNX _ _ ⟨rfl, _, _, _, rfl⟩)
            rintro st H9 ⟨rfl, j10, j13, j14, rfl⟩
            refine seq_p (fun st H' => H' = H9 ∧ ∃ y : Bool, (y = true ↔ ∃ s, s < m.n ∧ ∃ a, a < m.c ∧ ∃ b, b < a ∧ Ne3 m s a b) ∧ ∃ j10 j13 j14, st = [some (.ref a0), some (.ref D), some (.int (m.c : Int)), some (.ref L), some (.ref p), some due, some v, j7, j8, j9, j10, some (.bl o), some (.bl y), j13, j14, none]) ?_ ?_
            · rintro st H10 ⟨rfl, y, hy, j10, j13, j14, rfl⟩
              refine ⟨_, rfl, o, rfl, _, rfl, ?_⟩
              cases o with
              | false => exact iteT (k H10)
              | true =>
                have col := ho rfl
                refine iteF ⟨_, rfl, _, rfl, rfl, rfl, ?_⟩
                have e : decide (V.bl y = V.bl (!decide (due = V.non))) = true := by
                  refine decide_eq_true ?_
                  rcases hq with ⟨rfl, nof⟩ | ⟨b, rfl, hb⟩
                  · have z : y = false := bfalse fun z => by
                      obtain ⟨s, hs, a, ha, b, hb, ne⟩ := hy.mp z
                      exact nof 1 (apart_fault ok col hs ha (Nat.lt_trans hb ha) ne)
                    rw [z]
                    rfl
                  · have z : y = true := by
                      cases y with
                      | true => rfl
                      | false =>
                        refine absurd hb (commute_no ok (fun s a b hs ha hba => ?_) b)
                        by_cases q : m.to (m.to s a) b = m.to (m.to s b) a
                        · exact q
                        · exact absurd (hy.mpr ⟨s, hs, a, ha, b, hba, q⟩) Bool.false_ne_true
                    rw [z]
                    rfl
                rw [e]
                exact k H10
            · intro NX hNX
              have ll := hls.len
              refine ⟨_, rfl, L, rfl, ⟨_, SqL.of hL⟩, for_list (K := K) (a := L) (xs := ls.map V.ref) (fun s st H' => H' = H9 ∧ ∃ y : Bool, (y = true ↔ ∃ s', s' < s ∧ ∃ a, a < m.c ∧ ∃ b, b < a ∧ Ne3 m s' a b) ∧ ∃ j10 j13 j14, st = [some (.ref a0), some (.ref D), some (.int (m.c : Int)), some (.ref L), some (.ref p), some due, some v, j7, j8, j9, j10, some (.bl o), some (.bl y), j13, j14, none])
                ⟨rfl, false, ⟨fun z => absurd z Bool.false_ne_true, fun ⟨s, hs, _⟩ => absurd hs (Nat.not_lt_zero s)⟩, _, _, _, rfl⟩ (fun s st H' _ z => by rw [z.1]; exact SqL.of hL) ?_ ?_⟩
              · clear j10 j13 j14
                rintro s x st H10 hs ⟨rfl, y, hy, j10, j13, j14, rfl⟩
                have hsn : s < m.n := by
                  have z := (List.getElem?_eq_some_iff.mp hs).1
                  rw [List.length_map] at z
                  show s < m.st.length
                  omega
                obtain ⟨r, _, er, hr'⟩ := hls.row hsn
                have ex : V.ref r = x := Option.some.inj (er.symm.trans hs)
                subst ex
                refine ⟨_, rfl, (m.c : Int), rfl, by omega, by omega, ?_⟩
                rw [show ((m.c : Int).toNat) = m.c by omega]
                refine for_range (lo := 0) (n := m.c) (fun a st H' => H' = H10 ∧ ∃ y : Bool, (y = true ↔ (∃ s', s' < s ∧ ∃ a, a < m.c ∧ ∃ b, b < a ∧ Ne3 m s' a b) ∨ ∃ a', a' < a ∧ ∃ b, b < a' ∧ Ne3 m s a' b) ∧ ∃ j13 j14, st = [some (.ref a0), some (.ref D), some (.int (m.c : Int)), some (.ref L), some (.ref p), some due, some v, j7, j8, j9, some (.ref r), some (.bl o), some (.bl y), j13, j14, none])
                  ⟨rfl, y, ⟨fun z => .inl (hy.mp z), fun z => z.elim hy.mpr fun ⟨a, ha, _⟩ => absurd ha (Nat.not_lt_zero a)⟩, _, _, rfl⟩ ?_ ?_
                · clear hy y j10 j13 j14
                  rintro a st H11 ha ⟨rfl, y, hy, j13, j14, rfl⟩
                  have ea : ((0 : Int) + (a : Nat)) = (a : Int) := by omega
                  rw [ea]
                  refine ⟨_, rfl, (a : Int), rfl, by omega, by omega, ?_⟩
                  rw [show ((a : Int).toNat) = a by omega]
                  refine for_range (lo := 0) (n := a) (fun b st H' => H' = H11 ∧ ∃ y : Bool, (y = true ↔ ((∃ s', s' < s ∧ ∃ a, a < m.c ∧ ∃ b, b < a ∧ Ne3 m s' a b) ∨ ∃ a', a' < a ∧ ∃ b, b < a' ∧ Ne3 m s a' b) ∨ ∃ b', b' < b ∧ Ne3 m s a b') ∧ ∃ j14, st = [some (.ref a0), some (.ref D), some (.int (m.c : Int)), some (.ref L), some (.ref p), some due, some v, j7, j8, j9, some (.ref r), some (.bl o), some (.bl y), some (.int (a : Int)), j14, none])
                    ⟨rfl, y, ⟨fun z => .inl (hy.mp z), fun z => z.elim hy.mpr fun ⟨b, hb, _⟩ => absurd hb (Nat.not_lt_zero b)⟩, _, rfl⟩ ?_ ?_
                  · clear hy y j13 j14
                    rintro b st H12 hb ⟨rfl, y, hy, j14, rfl⟩
                    have eb : ((0 : Int) + (b : Nat)) = (b : Int) := by omega
                    rw [eb]
                    have hbc : b < m.c := Nat.lt_trans hb ha
                    have l1 := ok.to_lt hsn ha
                    have l2 := ok.to_lt hsn hbc
                    obtain ⟨r1, _, er1, hr1⟩ := hls.row l1
                    obtain ⟨r2, _, er2, hr2⟩ := hls.row l2
                    refine ⟨_, rfl, y, rfl, ?_⟩
                    cases y with
                    | true => exact iteT ⟨rfl, true, ⟨fun z => (hy.mp z).elim .inl fun ⟨b', h1, h2⟩ => .inr ⟨b', Nat.lt_succ_of_lt h1, h2⟩, fun _ => rfl⟩, _, rfl⟩
                    | false =>
                      refine iteF ⟨_, rfl, _, rfl, _, rfl, r, _, _, _, rfl, rfl, SqL.of hr', atI_nat (ok.at_to hsn ha), L, _, _, _, rfl, rfl, SqL.of hL, atI_nat er1, _, rfl, r1, _, _, _, rfl, rfl, SqL.of hr1, atI_nat (ok.at_to l1 hbc), ?_⟩
                      refine ⟨_, rfl, _, rfl, _, rfl, r, _, _, _, rfl, rfl, SqL.of hr', atI_nat (ok.at_to hsn hbc), L, _, _, _, rfl, rfl, SqL.of hL, atI_nat er2, _, rfl, r2, _, _, _, rfl, rfl, SqL.of hr2, atI_nat (ok.at_to l2 ha), rfl, ?_⟩
                      refine ⟨rfl, _, ?_, _, rfl⟩
                      constructor
                      · intro z
                        refine .inr ⟨b, Nat.lt_succ_self b, fun e => ?_⟩
                        rw [e] at z
                        simp at z
                      · intro z
                        rcases z with z | ⟨b', h1, h2⟩
                        · exact absurd (hy.mpr (.inl z)) Bool.false_ne_true
                        · by_cases q : b' < b
                          · exact absurd (hy.mpr (.inr ⟨b', q, h2⟩)) Bool.false_ne_true
                          · have eb' : b' = b := by omega
                            subst eb'
                            rw [dec_int]
                            have ne : ((m.to (m.to s a) b' : Nat) : Int) ≠ ((m.to (m.to s b') a : Nat) : Int) := fun e => h2 (by omega)
                            rw [beq_eq_false_iff_ne.mpr ne]
                            rfl
                  · clear hy y j13 j14
                    rintro st H12 ⟨rfl, y, hy, j14, rfl⟩
                    refine ⟨rfl, y, hy.trans ⟨fun z => ?_, fun z => ?_⟩, _, _, rfl⟩
                    · rcases z with (z | ⟨a', h1, h2⟩) | ⟨b', h1, h2⟩
                      · exact .inl z
                      · exact .inr ⟨a', Nat.lt_succ_of_lt h1, h2⟩
                      · exact .inr ⟨a, Nat.lt_succ_self a, b', h1, h2⟩
                    · rcases z with z | ⟨a', h1, h2⟩
                      · exact .inl (.inl z)
                      · by_cases q : a' < a
                        · exact .inl (.inr ⟨a', q, h2⟩)
                        · have ea' : a' = a := by omega
                          subst ea'
                          exact .inr h2
                · clear hy y j10 j13 j14
                  rintro st H11 ⟨rfl, y, hy, j13, j14, rfl⟩
                  refine ⟨rfl, y, hy.trans ⟨fun z => ?_, fun z => ?_⟩, _, _, _, rfl⟩
                  · rcases z with ⟨s', h1, h2⟩ | z
                    · exact ⟨s', Nat.lt_succ_of_lt h1, h2⟩
                    · exact ⟨s, Nat.lt_succ_self s, z⟩
                  · obtain ⟨s', h1, h2⟩ := z
                    by_cases q : s' < s
                    · exact .inl ⟨s', q, h2⟩
                    · have es' : s' = s := by omega
                      subst es'
                      exact .inr h2
              · clear j10 j13 j14
                rintro st H10 ⟨rfl, y, hy, j10, j13, j14, rfl⟩
                rw [List.length_map, ll] at hy
                exact hNX _ _ ⟨rfl, y, hy, _, _, _, rfl⟩
          · intro NX hNX
            obtain ⟨_, ls, hL, hls⟩ := X7
            have ll := hls.len
            refine ⟨_, rfl, (m.c : Int), rfl, by omega, by omega, fun R hR => ?_⟩
            rw [show ((m.c : Int).toNat) = m.c by omega]
            refine lc_range (lo := 0) (n := m.c) (fun i H' => Same H7 H' ∧ ∃ xs : List Int, H' R = some (.lst (ilst xs)) ∧ xs.length ≤ i ∧ (xs = [] → ∀ x, x < i → (colHere m x).Nodup)) ⟨same_new (fun _ _ e => e) hR, [], upd_same, Nat.le_refl _, fun _ x hx => absurd hx (Nat.not_lt_zero x)⟩ ?_ ?_
            · rintro i H8 hi ⟨s8, xs, eR, xl, xo⟩
              have ei : ((0 : Int) + (i : Nat)) = (i : Int) := by omega
              rw [ei]
              refine ⟨rfl, ?_⟩
              refine ⟨_, rfl, L, rfl, ⟨_, SqL.of (s8 _ _ hL)⟩, fun R2 hR2 => ?_⟩
              refine lc_list (K := K) (a := L) (xs := ls.map V.ref) (fun j H' => Same H8 H' ∧ H' R2 = some (.lst (nts ((colHere m i).take j)))) ⟨same_new (fun _ _ e => e) hR2, upd_same⟩ (fun j H' _ z => SqL.of (z.1 _ _ (s8 _ _ hL))) ?_ ?_
              · rintro j x H9 hj ⟨s9, e9⟩
                have hjn : j < m.n := by
                  have z := (List.getElem?_eq_some_iff.mp hj).1
                  rw [List.length_map] at z
                  show j < m.st.length
                  omega
                obtain ⟨r, _, er, hr'⟩ := hls.row hjn
                have ex : V.ref r = x := Option.some.inj (er.symm.trans hj)
                subst ex
                refine ⟨rfl, _, rfl, _, rfl, r, _, _, _, rfl, rfl, SqL.of (s9 _ _ (s8 _ _ hr')), atI_nat (ok.at_to hjn hi), _, e9, small (by rw [nts_len, List.length_take, col_len]; omega), same_updF s9 hR2, ?_⟩
                rw [upd_same, take_snoc (col_get hjn)]
                unfold nts
                rw [List.map_append]
                rfl
              · rintro H9 ⟨s9, e9⟩
                rw [List.length_map, ll, show m.st.length = (colHere m i).length from (col_len m i).symm, List.take_length] at e9
                have en : nts (colHere m i) = ((colHere m i).map fun x : Nat => (x : Int)).map V.int := by unfold nts; rw [List.map_map]; rfl
                have enl : ((colHere m i).map fun x : Nat => (x : Int)).length = m.n := by rw [List.length_map, col_len]
                rw [en] at e9
                refine ⟨R2, _, rfl, SqL.of e9, by rw [enl]; omega, fun n q1 q2 => ?_⟩
                rw [enl] at q1 q2
                refine ⟨_, rfl, L, _, rfl, .inl (SqL.of (s9 _ _ (s8 _ _ hL))), _, _, rfl, rfl, _, rfl, ?_⟩
                have lm : (ls.map V.ref).length = m.n := by rw [List.length_map]; exact ll
                rw [lm]
                by_cases nd : (colHere m i).Nodup
                · have dn : ((colHere m i).map fun x : Nat => (x : Int)).Nodup := List.pairwise_map.mpr (nd.imp fun ne e => ne (by omega))
                  have nn := q1 dn
                  refine iteF' (decide_eq_false (by omega)) ⟨s8.trans s9, xs, s9 _ _ eR, by omega, fun e x hx => ?_⟩
                  by_cases z : x < i
                  · exact xo e x z
                  · rw [show x = i by omega]; exact nd
                · have dn : ¬ ((colHere m i).map fun x : Nat => (x : Int)).Nodup := fun z => nd (nodup_of_map z)
                  have nn := q2 dn
                  refine iteT' (decide_eq_true (by omega)) ⟨_, rfl, _, s9 _ _ eR, small (by rw [ilst_len]; omega), same_updF (s8.trans s9) hR, xs ++ [(i : Int)], ?_, by rw [List.length_append]; exact Nat.succ_le_succ xl, fun e => ?_⟩
                  · rw [upd_same]
                    unfold ilst
                    rw [List.map_append]
                    rfl
                  · cases xs <;> cases e
            · rintro H8 ⟨s8, xs, eR, xl, xo⟩
              refine ⟨Nat.zero_le _, fun em hem => ?_⟩
              have s9 : Same H8 (upd H8 em (.lst [])) := same_new (fun _ _ e => e) hem
              refine ⟨_, _, .lst (SqL.of (s9 _ _ eR)) (dpInts K _ _), .lst (SqL.of upd_same) .nil, shaped_ints _, shaped_ints [], ?_⟩
              rw [eqv_nil]
              exact hNX _ _ ⟨⟨ok, ls, s9 _ _ (s8 _ _ hL), hls.same (s8.trans s9)⟩, xs.isEmpty, fun e => xo (List.isEmpty_iff.mp e), rfl⟩
        · intro NX hNX
          rcases hq with ⟨rfl, nof⟩ | ⟨b, rfl, hb⟩
          · obtain ⟨v6, e6, _⟩ := X6.hd
            refine ⟨_, rfl, rfl, _, rfl, iteT ⟨_, rfl, p, m, d, v6, rfl, X6.mach, nof, e6, fun q hq' => ?_, fun H7 kt => ⟨_, rfl, iteF (hNX _ _ ⟨⟨ok, ls, ?_, ?_⟩, rfl⟩)⟩⟩⟩
            · rw [List.mem_singleton.mp hq']
              exact TabS.nil X6.tb
            · exact kt _ _ X6.hL (fun z => off_d X6.hL e6 (fun _ z => nomatch z) (List.mem_singleton.mpr z)) fun _ z => nomatch z
            · exact Paired.imp X6.hls fun a xs _ e => kt _ _ e (fun z => off_d e e6 (fun _ z => nomatch z) (List.mem_singleton.mpr z)) fun _ z => nomatch z
          · exact ⟨_, rfl, rfl, _, rfl, iteF (iteF (hNX _ _ ⟨X6.steps, rfl⟩))⟩
      · intro NX hNX
        refine ⟨(8 : Int), rfl, by omega, by omega, ?_⟩
        rw [show ((8 : Int).toNat) = 8 from rfl]
        refine for_range (lo := 0) (n := 8) (fun i st H' => LS C PT H' D dl L p d m ls ∧ NumV m H' v ∧ ∃ j7 j8 j9, st = [some (.ref a0), some (.ref D), some (.int (m.c : Int)), some (.ref L), some (.ref p), some due, some v, j7, j8, j9, none, none, none, none, none, none])
          ⟨X5, hv, _, _, _, rfl⟩ ?_ fun st H' h => hNX _ _ h
        clear X5 hv j7 s0
        rintro i st H6 hi ⟨X6, hv, j7, j8, j9, rfl⟩
        refine ⟨_, rfl, _, rfl, _, rfl, _, rfl, D, dl, L, m, _, v, rfl, X6.deal, ok, X6.hL, by rw [List.length_map]; exact X6.hls.len, X6.nL, hv, fun H7 x fv kp7 hd7 shp bnd => ?_⟩
        have X7 := X6.kpD kp7 hd7
        have hv7 : NumV m H7 v := hv.kp (deal_tup kp7 X6.deal)
        refine ⟨_, rfl, _, rfl, p, m, d, x, fv, rfl, X7.mach, shp, fun a b c u w e => ?_, fun H8 s8 => ⟨_, rfl, _, rfl, _, rfl, _, rfl, L, m, x, fv, rfl, X7.steps.same s8, shp_same shp s8, bnd, fun H9 s9 => ⟨_, rfl, ?_⟩⟩⟩
        · have q := bnd a b c u w e
          exact ⟨by omega, fun us e6 => by have z := q.2 us e6; omega⟩
        · refine ⟨rfl, _, rfl, iteF' (by simp) ⟨X7.same (s8.trans s9), hv7.kp fun a xs e => s9 _ _ (s8 _ _ e), _, _, _, rfl⟩⟩
    · intro NX hNX
      obtain ⟨v5, e5, nv5⟩ := X5.hd
      refine ⟨_, rfl, _, rfl, p, m, d, rfl, X5.mach, .inr ⟨v5, e5, nv5⟩, fun H6 v2 kp6 hd6 hv2 => ?_⟩
      have X6 := X5.kpd kp6 hd6 hv2
      have hv6 : NumV m H6 v := hv.kp fun a xs e => kp6 _ _ e (off_d e e5 fun _ z => nomatch z)
      refine ⟨(by show 2 ≤ sizeLine; decide), fun G hG => ?_⟩
      have s7 : Same H6 (upd H6 G (.lst [v, v2])) := same_new (fun _ _ e => e) hG
      refine ⟨G, rfl, ⟨_, SqL.of upd_same⟩, for_list (K := K) (a := G) (xs := [v, v2]) (fun i st H' => Same (upd H6 G (.lst [v, v2])) H' ∧ ∃ j7, st = [some (.ref a0), some (.ref D), some (.int (m.c : Int)), some (.ref L), some (.ref p), some due, some v, j7, none, none, none, none, none, none, none, none])
        ⟨fun _ _ e => e, _, rfl⟩ (fun i st H' _ z => SqL.of (z.1 _ _ upd_same)) ?_ ?_⟩
      · rintro i x st H8 hi ⟨s8, j7, rfl⟩
        have s68 := s7.trans s8
        have hx : NumV m H8 x := by
          have q := List.mem_of_getElem? hi
          simp only [List.mem_cons, List.not_mem_nil, or_false] at q
          rcases q with q | q
          · rw [q]; exact hv6.kp fun a xs e => s68 _ _ e
          · rw [q]; exact hv2.kp fun a xs e => s68 _ _ e
        have X8 := X6.same s68
        rcases NumV.shp hx with ⟨rfl, nof⟩ | ⟨t, u, wA, wt, k0, rfl, ht, hu, hf, low, k1, shp⟩
        · rcases hdue with ⟨rfl, _⟩ | ⟨b, rfl, hb, _⟩
          · exact ⟨_, rfl, rfl, _, rfl, iteT ⟨_, rfl, rfl, _, rfl, iteF ⟨_, rfl, rfl, _, rfl, iteF (iteF ⟨s8, _, rfl⟩)⟩⟩⟩
          · exact absurd hb (nof b)
        · rcases hdue with ⟨rfl, no⟩ | ⟨b, rfl, hb, mn⟩
          · exact absurd ⟨wt, hf⟩ (no k0 (by omega))
          · have eb : b = k0 := by
              have z1 := mn k0 (by omega) ⟨wt, hf⟩
              by_cases z : b < k0
              · exact absurd hb (low b z)
              · omega
            subst eb
            refine ⟨_, rfl, rfl, _, rfl, iteF (iteF ⟨_, rfl, rfl, _, rfl, iteT ?_⟩)⟩
            refine ⟨_, rfl, _, rfl, _, rfl, L, m, _, _, rfl, X8.steps, shp, fun a b c u w e => ?_, fun H9 s9 => ?_⟩
            · injection e with _ _ _ e4 e5
              subst e4 e5
              rw [lfn_len, hf.1.lw]
              exact ⟨by omega, fun us e6 => by rw [← Option.some.inj e6, lfn_len, hf.1.lu]; omega⟩
            · rw [fvB_fault hf]
              refine ⟨_, rfl, iteF ⟨_, rfl, t, _, 3, _, rfl, rfl, SqT.of (s9 _ _ ht), atI_nat (j := 3) rfl, u, _, rfl, .inr (SqT.of (s9 _ _ hu)), _, rfl, rfl, _, rfl, ?_⟩⟩
              rw [nts_len, hf.1.lu]
              refine iteF' (by simp) ?_
              exact ⟨s8.trans s9, _, rfl⟩
      · rintro st H8 ⟨s8, j7, rfl⟩
        have s68 := s7.trans s8
        exact hNX _ _ ⟨X6.same s68, hv6.kp fun a xs e => s68 _ _ e, _, rfl⟩
end
end K53
namespace K53
open PySem PySem.Spec PyProof.Rows L2 L2.KR LamX
/-! ### all defs, one after another -/
structure TopD (K : PySem.W.Frag) (mg : Str → Option Value) (name x qual : Str) (st : Stmt) : Prop where
  ex : ∃ (f : Addr) (fd : FuncData), Fun K x qual st f fd ∧ mg name = some (.ref f)
theorem top_mk {K : PySem.W.Frag} {h : Heap} {mg : Str → Option Value} {name x qual : Str} {st : Stmt} {f : Addr} {oc : Value} {od an : Option Addr} {osl : Array (Option Value)} {kV doc pm cdv ct : Value} (X : K.In h) (G : h.Ns mainGlobals mg) (a : PySem.W.nsIn K mainGlobals name = some (some (.ref f)))
    (l : K.lookup f = some ⟨oc, od, .func (PySem.W.fnOf x qual (defArgs st) (defBody st) (defScope st) .none kV doc pm an cdv ct), osl⟩) (c : PySem.W.codeIn K cdv qual = true) (k : PySem.W.keepIn K (.ref f) = true) : TopD K mg name x qual st :=
  ⟨f, _, fun_mk l c k, PySem.W.mg_of X G a⟩
section
variable {P : Program} {w : World} {K : PySem.W.Frag}
                                                            {mg : Str → Option Value} {base : Heap}
theorem df_of {name x qual : Str} {st : Stmt} {k : Nat} {ps : List Str} {sp : Sp} (T : TopD K mg name x qual st) (ok : ∀ {f : Addr} {fd : FuncData}, Fun K x qual st f fd → FnOk P w K mg base CX0 k f fd ps sp)
    (h : ∀ (kV doc pm : Value) (an : Option Addr) (cdv ct : Value) (us : List Value), us.length = ps.length → bindArgs (PySem.W.fnOf x qual (defArgs st) (defBody st) (defScope st) .none kV doc pm an cdv ct) ⟨us, []⟩ = pure (ps.zip us)) : Df P w K mg base k name ps sp := by
  obtain ⟨f, fd, F, hm⟩ := T.ex
  exact ⟨f, fd, ok F, hm, F.kp, F.binds h⟩
theorem dfk_of {name x qual : Str} {st : Stmt} {k : Nat} {ps ks : List Str} {sp : Sp} {g : List Value → List Value → List Value} {gV : List V → List V → List V} (T : TopD K mg name x qual st) (ok : ∀ {f : Addr} {fd : FuncData}, Fun K x qual st f fd → FnOk P w K mg base CX0 k f fd ps sp)
    (h : ∀ (kV doc pm : Value) (an : Option Addr) (cdv ct : Value) (us ws : List Value), (g us ws).length = ps.length → bindArgs (PySem.W.fnOf x qual (defArgs st) (defBody st) (defScope st) .none kV doc pm an cdv ct) ⟨us, ks.zip ws⟩ = pure (ps.zip (g us ws)))
    (rel : ∀ {vs : List V} {us : List Value} {zs : List V} {ws : List Value}, Vals vs us → Vals zs ws → Vals (gV vs zs) (g us ws)) : DfK P w K mg base k name ps ks gV sp := by
  obtain ⟨f, fd, F, hm⟩ := T.ex
  obtain ⟨oc, od, kV, doc, pm, an, cdv, ct, osl, rfl, lk, hcd⟩ := id F.ex
  exact ⟨f, _, g, ok F, hm, F.kp, ⟨fun s us ws _ hl => .of_eq (h kV doc pm an cdv ct us ws hl), rel⟩⟩
theorem one_rel {vs : List V} {us : List Value} {zs : List V} {ws : List Value} (a : Vals vs us) (b : Vals zs ws) : Vals (kOne vs zs) (kOne us ws) := by
  cases a with
  | nil =>
    cases b with
    | nil => exact .nil
    | cons r t =>
      cases t with
      | nil => exact .cons r .nil
      | cons _ _ => exact .nil
  | cons _ _ => exact .nil
theorem rev_rel {vs : List V} {us : List Value} {zs : List V} {ws : List Value} (a : Vals vs us) (b : Vals zs ws) : Vals (kRev vs zs) (kRev us ws) := by
  cases a with
  | nil =>
    cases b with
    | nil => exact .nil
    | cons r t =>
      cases t with
      | nil => exact .nil
      | cons r2 t2 =>
        cases t2 with
        | nil => exact .cons r2 (.cons r .nil)
        | cons _ _ => exact .nil
  | cons _ _ => exact .nil
end
theorem all_law {l : PySem.W.OpenLaw} {w : World} {K : PySem.W.Frag} {h : Heap} {mg : Str → Option Value} {fa C fI fF fD fS PT cS : Addr} {fdI fdF fdD : FuncData} {oc : Value} {od an : Option Addr} {osl : Array (Option Value)} {kV doc pm ct : Value} (hfa : mg "law" = some (.ref fa))
    (tb : h.get? PT = some { cls := .none, data := .fields #[] }) (nt : K.lookup PT = none) (hd : PySem.W.CodeHd h cS PT) (T : Txt mg) (M : MTxt K mg C) (MK : Mk K C fI) (FI : Fun K "__init__" "Machine.__init__" sInit fI fdI)
    (mF : Meth K C "found" fF) (FF : Fun K "found" "Machine.found" sFound fF fdF) (mD : Meth K C "does" fD) (FD : Fun K "does" "Machine.does" sDoes fD fdD)
    (sS : mg "seen" = some (.ref fS)) (lS : K.lookup fS = some ⟨oc, od, .func (PySem.W.fnOf "seen" "seen" (defArgs sSeen) (defBody sSeen) (defScope sSeen) .none kV doc pm an (.ref cS) ct), osl⟩) (hcS : PySem.W.codeIn K (.ref cS) "seen" = true) (kS : PySem.W.keepIn K (.ref fS) = true)
    (dlaw : TopD K mg "law" "law" "law" sLaw)
    (disInt : TopD K mg "is_integer" "is_integer" "is_integer" sIsInt)
    (disNum : TopD K mg "is_number" "is_number" "is_number" sIsNum)
    (disIx : TopD K mg "is_index" "is_index" "is_index" sIsIdx)
    (disSeq : TopD K mg "is_sequence" "is_sequence" "is_sequence" sIsSeq)
    (dled : TopD K mg "led" "led" "led" sLed)
    (dfours : TopD K mg "first_fours" "first_fours" "first_fours" sFours)
    (dexN : TopD K mg "explored_bynumber" "explored" "explored" sExN)
    (dnumF : TopD K mg "number_fault" "number_fault" "number_fault" sNumF)
    (disRow : TopD K mg "is_row" "is_row" "is_row" sIsRow)
    (disNF : TopD K mg "is_number_fault" "is_number_fault" "is_number_fault" sIsNF)
    (dareSt : TopD K mg "are_states" "are_states" "are_states" sAreSt)
    (dchk : TopD K mg "checked_change" "checked_change" "checked_change" sChk)
    (dstarts : TopD K mg "starts" "starts" "starts" sStarts)
    (dnexts : TopD K mg "nexts" "nexts" "nexts" sNexts)
    (dexC : TopD K mg "explored_changes" "explored" "explored" sExC)
    (dfault : TopD K mg "fault" "fault" "fault" sFault)
    (dlate : TopD K mg "late_commands" "late_commands" "late_commands" sLate)
    (dblind : TopD K mg "is_blind" "is_blind" "is_blind" sBlind)
    (ddraw : TopD K mg "_law_draw" "_law_draw" "_law_draw" sDraw)
    (dany : TopD K mg "_law_any" "_law_any" "_law_any" sAny)
    (dof : TopD K mg "_law_of" "_law_of" "_law_of" sOf)
    (dmixed : TopD K mg "_law_mixed" "_law_mixed" "_law_mixed" sMixed)
    (dcols : TopD K mg "_law_columns" "_law_columns" "_law_columns" sColumns)
    (dcol : TopD K mg "_law_column" "_law_column" "_law_column" sColumn)
    (dmach : TopD K mg "_law_machine" "_law_machine" "_law_machine" sMach)
    (dlled : TopD K mg "_law_led" "_law_led" "_law_led" sLLed)
    (dlrow : TopD K mg "_law_row" "_law_row" "_law_row" sLRow)
    (dshort : TopD K mg "_law_shortest" "_law_shortest" "_law_shortest" sShort)
    (dlisf : TopD K mg "_law_is_fault" "_law_is_fault" "_law_is_fault" sLIsF)
    (dnear : TopD K mg "_law_near" "_law_near" "_law_near" sNear) : LawAtS l w K CX0 10 63 "_law_script" mg fa h := by
  have bI := FI.binds (ps := ["self", "commands", "steps"]) (fun _ _ _ _ _ _ us hl => match us, hl with | [_, _, _], _ => rfl)
  have bF := FF.binds (ps := ["self", "word", "work"]) (fun _ _ _ _ _ _ us hl => match us, hl with | [_, _, _], _ => rfl)
  have bD := FD.binds (ps := ["self", "command"]) (fun _ _ _ _ _ _ us hl => match us, hl with | [_, _], _ => rfl)
  obtain ⟨f0, fd0, F0, hm0⟩ := dlaw.ex
  have e0 := hfa.symm.trans hm0
  injection e0 with e0
  injection e0 with e0
  subst e0
  have b0 := F0.binds (ps := ["_law_script"]) (fun _ _ _ _ _ _ us hl => match us, hl with | [_], _ => rfl)
  refine ⟨fd0, [(cS, PT)], spLaw K PT, fun p hp => by rw [List.mem_singleton.mp hp]; exact tb, fun p hp => by rw [List.mem_singleton.mp hp]; exact nt, fun p hp => by rw [List.mem_singleton.mp hp]; exact hd, fun s u => ?_, fun H a ns hl _ hH hS => ⟨a, ns, rfl, hS, hl, hH (cS, PT) List.mem_cons_self, fun _ => rfl⟩, fun base _ _ hTB => ?_⟩
  · obtain ⟨oc1, od1, kV1, doc1, pm1, an1, cdv1, ct1, osl1, rfl, lk1, hcd1⟩ := F0.ex
    exact .of_eq rfl
  have TB : TabB base mg cS PT := hTB (cS, PT) List.mem_cons_self
  have cisInt := df_of (P := l.prog) (w := w) (base := base) disInt (fun F => ok_isInt F T) (fun _ _ _ _ _ _ us hl => match us, hl with | [_], _ => rfl)
  have cisNum := df_of (P := l.prog) (w := w) (base := base) disNum (fun F => ok_isNum F cisInt) (fun _ _ _ _ _ _ us hl => match us, hl with | [_], _ => rfl)
  have cisIx := df_of (P := l.prog) (w := w) (base := base) disIx (fun F => ok_isIx F cisNum) (fun _ _ _ _ _ _ us hl => match us, hl with | [_, _], _ => rfl)
  have cisSeq := df_of (P := l.prog) (w := w) (base := base) disSeq (fun F => ok_isSeq F T) (fun _ _ _ _ _ _ us hl => match us, hl with | [_], _ => rfl)
  have cled := df_of (P := l.prog) (w := w) (base := base) dled (fun F => ok_led F M) (fun _ _ _ _ _ _ us hl => match us, hl with | [_, _, _], _ => rfl)
  have cfours := df_of (P := l.prog) (w := w) (base := base) dfours (fun F => ok_fours F T M) (fun _ _ _ _ _ _ us hl => match us, hl with | [_], _ => rfl)
  obtain ⟨fe, fde, FE, hfe⟩ := dexN.ex
  have GE := ok_exN (P := l.prog) (w := w) (base := base) FE T M cfours
  have bE := FE.binds (ps := ["machine"]) (fun _ _ _ _ _ _ us hl => match us, hl with | [_], _ => rfl)
  have GF := ok_foundS FF M GE FE.kp bE
  have GD := ok_does (P := l.prog) (w := w) (mg := mg) (base := base) FD T M
  have GI := ok_init FI T M cisNum cisIx cisSeq
  have cnumF := df_of (P := l.prog) (w := w) (base := base) dnumF (fun F => ok_numF F M mF GF bF hfe) (fun _ _ _ _ _ _ us hl => match us, hl with | [_], _ => rfl)
  have knumF := dfk_of (P := l.prog) (w := w) (base := base) (ks := ["machine"]) (g := kOne) (gV := kOne) dnumF (fun F => ok_numF F M mF GF bF hfe) (fun _ _ _ _ _ _ us ws hl => match us, ws, hl with | [], [_], _ => rfl) one_rel
  have cisRow := df_of (P := l.prog) (w := w) (base := base) disRow (fun F => ok_isRow F T M cisIx) (fun _ _ _ _ _ _ us hl => match us, hl with | [_, _], _ => rfl)
  have careSt := df_of (P := l.prog) (w := w) (base := base) dareSt (fun F => ok_areSt F T M cisIx) (fun _ _ _ _ _ _ us hl => match us, hl with | [_, _, _], _ => rfl)
  have cchk := df_of (P := l.prog) (w := w) (base := base) dchk (fun F => ok_chk F M careSt) (fun _ _ _ _ _ _ us hl => match us, hl with | [_, _], _ => rfl)
  have cstarts := df_of (P := l.prog) (w := w) (base := base) dstarts (fun F => ok_starts F T M) (fun _ _ _ _ _ _ us hl => match us, hl with | [_, _], _ => rfl)
  have cnexts := df_of (P := l.prog) (w := w) (base := base) dnexts (fun F => ok_nexts F T M) (fun _ _ _ _ _ _ us hl => match us, hl with | [_, _], _ => rfl)
  have cexC := df_of (P := l.prog) (w := w) (base := base) dexC (fun F => ok_exC F T M cstarts cnexts) (fun _ _ _ _ _ _ us hl => match us, hl with | [_, _], _ => rfl)
  have kisNF := dfk_of (P := l.prog) (w := w) (base := base) (ks := ["value", "machine"]) (g := kRev) (gV := kRev) disNF (fun F => ok_isNF F T M cisIx cisRow cled) (fun _ _ _ _ _ _ us ws hl => match us, ws, hl with | [], [_, _], _ => rfl) rev_rel
  have cseen : Df l.prog w K mg base 6 "seen" ["machine", "change"] (spSeen w C PT) := by
    obtain ⟨oc1, od1, kV1, doc1, pm1, an1, cdv1, ct1, osl1, rfl, lk1, hcd1⟩ := id FF.ex
    exact ⟨fS, _, ok_seen lS hcS M mF lk1 hcd1 bF TB cchk cexC, sS, kS, (fun_mk lS hcS kS).binds (fun _ _ _ _ _ _ us hl => match us, hl with | [_, _], _ => rfl)⟩
  have cfault := df_of (P := l.prog) (w := w) (base := base) dfault (fun F => ok_fault F cseen) (fun _ _ _ _ _ _ us hl => match us, hl with | [_, _], _ => rfl)
  have clate := df_of (P := l.prog) (w := w) (base := base) dlate (fun F => ok_late F T M mD GD bD cfault) (fun _ _ _ _ _ _ us hl => match us, hl with | [_], _ => rfl)
  have cblind := df_of (P := l.prog) (w := w) (base := base) dblind (fun F => ok_blind F T M clate) (fun _ _ _ _ _ _ us hl => match us, hl with | [_], _ => rfl)
  have cdraw := df_of (P := l.prog) (w := w) (base := base) ddraw (fun F => ok_draw F T) (fun _ _ _ _ _ _ us hl => match us, hl with | [_, _], _ => rfl)
  have cany := df_of (P := l.prog) (w := w) (base := base) dany (fun F => ok_any F T) (fun _ _ _ _ _ _ us hl => match us, hl with | [_, _], _ => rfl)
  have cof := df_of (P := l.prog) (w := w) (base := base) dof (fun F => ok_of F T cany) (fun _ _ _ _ _ _ us hl => match us, hl with | [_, _], _ => rfl)
  have cmixed := df_of (P := l.prog) (w := w) (base := base) dmixed (fun F => ok_mixed F T cany) (fun _ _ _ _ _ _ us hl => match us, hl with | [_, _], _ => rfl)
  have ccols := df_of (P := l.prog) (w := w) (base := base) dcols (fun F => ok_cols F T) (fun _ _ _ _ _ _ us hl => match us, hl with | [_], _ => rfl)
  have ccol := df_of (P := l.prog) (w := w) (base := base) dcol (fun F => ok_col F T cany cmixed) (fun _ _ _ _ _ _ us hl => match us, hl with | [_, _, _], _ => rfl)
  have cmach := df_of (P := l.prog) (w := w) (base := base) dmach (fun F => ok_mach F T cany cof ccol ccols) (fun _ _ _ _ _ _ us hl => match us, hl with | [_, _], _ => rfl)
  have clled := df_of (P := l.prog) (w := w) (base := base) dlled (fun F => ok_lled F ) (fun _ _ _ _ _ _ us hl => match us, hl with | [_, _, _], _ => rfl)
  have clrow := df_of (P := l.prog) (w := w) (base := base) dlrow (fun F => ok_lrow F T cany) (fun _ _ _ _ _ _ us hl => match us, hl with | [_, _, _], _ => rfl)
  have cshort := df_of (P := l.prog) (w := w) (base := base) dshort (fun F => ok_short F T) (fun _ _ _ _ _ _ us hl => match us, hl with | [_, _], _ => rfl)
  have clisf := df_of (P := l.prog) (w := w) (base := base) dlisf (fun F => ok_lisf F T clled) (fun _ _ _ _ _ _ us hl => match us, hl with | [_, _, _], _ => rfl)
  have cnear := df_of (P := l.prog) (w := w) (base := base) dnear (fun F => ok_near F T cany cof clrow) (fun _ _ _ _ _ _ us hl => match us, hl with | [_, _, _, _], _ => rfl)
  exact ok_law F0 T M MK GI bI cdraw cmach cshort cnumF knumF clisf cnear kisNF cblind
end K53
open PySem PySem.W
                                                            PyProof.Rows
set_option maxRecDepth
                                                            100000 in
set_option maxHeartbeats 0 in
theorem PySem.Challenge.cw_lateslips_k53_whole_number_faults_holds : PySem.Challenge.rw_lateslips_k53_whole_number_faults.Holds := by
  w_on; o_law; k_head; (case hw => w_witness2)
  k_fill
  refine LamX.walk_ofTs (n := 63) (k := 10) (x := "_law_script") (CX := fun _ => L2.CX0) rfl (by decide) rfl ⟨rfl, by decide, by decide⟩ (fun w h Y => PySem.W.km_in_of Y) ?kqF (fun _ _ _ _ _ z => z)
  case kqF =>
    intro w mg fa h Y KX G hmg
    have tb : h.get? 204 = some { cls := .none, data := .fields #[] } := PySem.W.km_tabs_of Y 204 (List.mem_singleton.mpr rfl)
    refine' K53.all_law (PT := 204) hmg tb ?kq_nt ?kq_hd ?kq_T ?kq_M ?kq_MK ?kq_FI ?kq_mF ?kq_FF ?kq_mD ?kq_FD ?kq_sS ?kq_lS ?kq_hcS ?kq_kS ?kq_dlaw ?kq_disInt ?kq_disNum ?kq_disIx ?kq_disSeq ?kq_dled ?kq_dfours ?kq_dexN ?kq_dnumF ?kq_disRow ?kq_disNF ?kq_dareSt ?kq_dchk ?kq_dstarts ?kq_dnexts ?kq_dexC ?kq_dfault ?kq_dlate ?kq_dblind ?kq_ddraw ?kq_dany ?kq_dof ?kq_dmixed ?kq_dcols ?kq_dcol ?kq_dmach ?kq_dlled ?kq_dlrow ?kq_dshort ?kq_dlisf ?kq_dnear
    case kq_M =>
      refine' ⟨⟨?kq1, ?kq2, ?kq3, ?kq4⟩, ?kq5, ?kq6, ?kq7, ?kq8, PySem.W.mg_of KX G ?kq9⟩
      (case kq9 => k_is); (case kq1 => k_is); (case kq2 => k_is)
      (case kq3 => k_is); (case kq4 => k_is); (case kq5 => unfold L2.NoAttr; k_is)
      (case kq6 => unfold L2.NoAttr; k_is); (case kq7 => unfold L2.NoAttr; k_is); (case kq8 => unfold L2.NoAttr; k_is)
    case kq_MK =>
      refine' ⟨?kq10, ?kq11, ?kq12, ?kq13⟩
      (case kq11 => k_is); (case kq10 => k_is); (case kq12 => k_is)
      (case kq13 => k_is)
    case kq_FI =>
      refine' L2.fun_mk ?kq14 ?kq15 ?kq16
      (case kq14 => k_is); (case kq15 => k_is); (case kq16 => k_is)
    case kq_mF =>
      refine' ⟨?kq17, ?kq18, ?kq19⟩
      (case kq17 => k_is); (case kq18 => k_is); (case kq19 => k_is)
    case kq_FF =>
      refine' L2.fun_mk ?kq20 ?kq21 ?kq22
      (case kq20 => k_is); (case kq21 => k_is); (case kq22 => k_is)
    case kq_mD =>
      refine' ⟨?kq23, ?kq24, ?kq25⟩
      (case kq23 => k_is); (case kq24 => k_is); (case kq25 => k_is)
    case kq_FD =>
      refine' L2.fun_mk ?kq26 ?kq27 ?kq28
      (case kq26 => k_is); (case kq27 => k_is); (case kq28 => k_is)
    case kq_sS =>
      refine' PySem.W.mg_of KX G ?kq29
      (case kq29 => k_is)
    (case kq_lS => k_is); (case kq_hcS => k_is); (case kq_kS => k_is)
    case kq_T =>
      refine' ⟨PySem.W.mg_none_of KX G ?kq30, PySem.W.mg_none_of KX G ?kq31, PySem.W.mg_none_of KX G ?kq32, PySem.W.mg_none_of KX G ?kq33, PySem.W.mg_none_of KX G ?kq34, PySem.W.mg_none_of KX G ?kq35, PySem.W.mg_none_of KX G ?kq36, PySem.W.mg_none_of KX G ?kq37, PySem.W.mg_none_of KX G ?kq38, PySem.W.mg_none_of KX G ?kq39, PySem.W.mg_none_of KX G ?kq40, PySem.W.mg_none_of KX G ?kq41, PySem.W.mg_none_of KX G ?kq42, PySem.W.mg_none_of KX G ?kq43, PySem.W.mg_none_of KX G ?kq44⟩
      (case kq30 => k_is); (case kq31 => k_is); (case kq32 => k_is)
      (case kq33 => k_is); (case kq34 => k_is); (case kq35 => k_is)
      (case kq36 => k_is); (case kq37 => k_is); (case kq38 => k_is)
      (case kq39 => k_is); (case kq40 => k_is); (case kq41 => k_is)
      (case kq42 => k_is); (case kq43 => k_is); (case kq44 => k_is)
    case kq_nt => first | k_is | exact rfl
    case kq_hd => exact PySem.W.codeHd_of_K KX (by first | k_is | exact rfl)
    case kq_disInt =>
      refine' K53.top_mk KX G ?kq45 ?kq46 ?kq47 ?kq48
      (case kq45 => k_is); (case kq46 => k_is); (case kq47 => k_is)
      (case kq48 => k_is)
    case kq_disNum =>
      refine' K53.top_mk KX G ?kq49 ?kq50 ?kq51 ?kq52
      (case kq49 => k_is); (case kq50 => k_is); (case kq51 => k_is)
      (case kq52 => k_is)
    case kq_disIx =>
      refine' K53.top_mk KX G ?kq53 ?kq54 ?kq55 ?kq56
      (case kq53 => k_is); (case kq54 => k_is); (case kq55 => k_is)
      (case kq56 => k_is)
    case kq_disSeq =>
      refine' K53.top_mk KX G ?kq57 ?kq58 ?kq59 ?kq60
      (case kq57 => k_is); (case kq58 => k_is); (case kq59 => k_is)
      (case kq60 => k_is)
    case kq_dled =>
      refine' K53.top_mk KX G ?kq61 ?kq62 ?kq63 ?kq64
      (case kq61 => k_is); (case kq62 => k_is); (case kq63 => k_is)
      (case kq64 => k_is)
    case kq_dfours =>
      refine' K53.top_mk KX G ?kq65 ?kq66 ?kq67 ?kq68
      (case kq65 => k_is); (case kq66 => k_is); (case kq67 => k_is)
      (case kq68 => k_is)
    case kq_dexN =>
      refine' K53.top_mk KX G ?kq69 ?kq70 ?kq71 ?kq72
      (case kq69 => k_is); (case kq70 => k_is); (case kq71 => k_is)
      (case kq72 => k_is)
    case kq_dnumF =>
      refine' K53.top_mk KX G ?kq73 ?kq74 ?kq75 ?kq76
      (case kq73 => k_is); (case kq74 => k_is); (case kq75 => k_is)
      (case kq76 => k_is)
    case kq_disRow =>
      refine' K53.top_mk KX G ?kq77 ?kq78 ?kq79 ?kq80
      (case kq77 => k_is); (case kq78 => k_is); (case kq79 => k_is)
      (case kq80 => k_is)
    case kq_disNF =>
      refine' K53.top_mk KX G ?kq81 ?kq82 ?kq83 ?kq84
      (case kq81 => k_is); (case kq82 => k_is); (case kq83 => k_is)
      (case kq84 => k_is)
    case kq_dareSt =>
      refine' K53.top_mk KX G ?kq85 ?kq86 ?kq87 ?kq88
      (case kq85 => k_is); (case kq86 => k_is); (case kq87 => k_is)
      (case kq88 => k_is)
    case kq_dchk =>
      refine' K53.top_mk KX G ?kq89 ?kq90 ?kq91 ?kq92
      (case kq89 => k_is); (case kq90 => k_is); (case kq91 => k_is)
      (case kq92 => k_is)
    case kq_dstarts =>
      refine' K53.top_mk KX G ?kq93 ?kq94 ?kq95 ?kq96
      (case kq93 => k_is); (case kq94 => k_is); (case kq95 => k_is)
      (case kq96 => k_is)
    case kq_dnexts =>
      refine' K53.top_mk KX G ?kq97 ?kq98 ?kq99 ?kq100
      (case kq97 => k_is); (case kq98 => k_is); (case kq99 => k_is)
      (case kq100 => k_is)
    case kq_dexC =>
      refine' K53.top_mk KX G ?kq101 ?kq102 ?kq103 ?kq104
      (case kq101 => k_is); (case kq102 => k_is); (case kq103 => k_is)
      (case kq104 => k_is)
    case kq_dfault =>
      refine' K53.top_mk KX G ?kq105 ?kq106 ?kq107 ?kq108
      (case kq105 => k_is); (case kq106 => k_is); (case kq107 => k_is)
      (case kq108 => k_is)
    case kq_dlate =>
      refine' K53.top_mk KX G ?kq109 ?kq110 ?kq111 ?kq112
      (case kq109 => k_is); (case kq110 => k_is); (case kq111 => k_is)
      (case kq112 => k_is)
    case kq_dblind =>
      refine' K53.top_mk KX G ?kq113 ?kq114 ?kq115 ?kq116
      (case kq113 => k_is); (case kq114 => k_is); (case kq115 => k_is)
      (case kq116 => k_is)
    case kq_ddraw =>
      refine' K53.top_mk KX G ?kq117 ?kq118 ?kq119 ?kq120
      (case kq117 => k_is); (case kq118 => k_is); (case kq119 => k_is)
      (case kq120 => k_is)
    case kq_dany =>
      refine' K53.top_mk KX G ?kq121 ?kq122 ?kq123 ?kq124
      (case kq121 => k_is); (case kq122 => k_is); (case kq123 => k_is)
      (case kq124 => k_is)
    case kq_dof =>
      refine' K53.top_mk KX G ?kq125 ?kq126 ?kq127 ?kq128
      (case kq125 => k_is); (case kq126 => k_is); (case kq127 => k_is)
      (case kq128 => k_is)
    case kq_dmixed =>
      refine' K53.top_mk KX G ?kq129 ?kq130 ?kq131 ?kq132
      (case kq129 => k_is); (case kq130 => k_is); (case kq131 => k_is)
      (case kq132 => k_is)
    case kq_dcols =>
      refine' K53.top_mk KX G ?kq133 ?kq134 ?kq135 ?kq136
      (case kq133 => k_is); (case kq134 => k_is); (case kq135 => k_is)
      (case kq136 => k_is)
    case kq_dcol =>
      refine' K53.top_mk KX G ?kq137 ?kq138 ?kq139 ?kq140
      (case kq137 => k_is); (case kq138 => k_is); (case kq139 => k_is)
      (case kq140 => k_is)
    case kq_dmach =>
      refine' K53.top_mk KX G ?kq141 ?kq142 ?kq143 ?kq144
      (case kq141 => k_is); (case kq142 => k_is); (case kq143 => k_is)
      (case kq144 => k_is)
    case kq_dlled =>
      refine' K53.top_mk KX G ?kq145 ?kq146 ?kq147 ?kq148
      (case kq145 => k_is); (case kq146 => k_is); (case kq147 => k_is)
      (case kq148 => k_is)
    case kq_dlrow =>
      refine' K53.top_mk KX G ?kq149 ?kq150 ?kq151 ?kq152
      (case kq149 => k_is); (case kq150 => k_is); (case kq151 => k_is)
      (case kq152 => k_is)
    case kq_dshort =>
      refine' K53.top_mk KX G ?kq153 ?kq154 ?kq155 ?kq156
      (case kq153 => k_is); (case kq154 => k_is); (case kq155 => k_is)
      (case kq156 => k_is)
    case kq_dlisf =>
      refine' K53.top_mk KX G ?kq157 ?kq158 ?kq159 ?kq160
      (case kq157 => k_is); (case kq158 => k_is); (case kq159 => k_is)
      (case kq160 => k_is)
    case kq_dnear =>
      refine' K53.top_mk KX G ?kq161 ?kq162 ?kq163 ?kq164
      (case kq161 => k_is); (case kq162 => k_is); (case kq163 => k_is)
      (case kq164 => k_is)
    case kq_dlaw =>
      refine' K53.top_mk KX G ?kq165 ?kq166 ?kq167 ?kq168
      (case kq165 => k_is); (case kq166 => k_is); (case kq167 => k_is)
      (case kq168 => k_is)
