import PyProof.Rows.All
import Wide.All
import OpenK.AllK
import Wide.FinOn
import HandS.Base
import HandS.Call
import HandS.List
import HandS.Comp
import HandS.Ends
import HandS.Words
import HandS.WordsList
import HandS.Iter
import HandS.Text
import HandS.AnyAll
import HandS.Defaults
import KE.KNest
import KE.GoesEnum
import HandS.ForMost
import HandS.Walk
import HandS.Zip
import HandS.FStr
import HandS.Deep
import HandS.Exc
import HandS.Evl
import PyProof.ReprLen
import HandS.EndBits
import KE.KStateDown
import HandS.Head0
import HandS.Head1
import HandS.Head2
import HandS.HeadHook1
import HandS.HeadHook2
import HandS.HeadHook3
import HandS.HeadHook4
import PySem.Challenge.RW_heldwater_k15_plans_written
set_option Elab.async false
set_option linter.all false
set_option maxRecDepth 100000
set_option maxHeartbeats 4000000
/-! Frames over the abstract heap, the data of the law, the texts. -/
namespace K15
open PySem PySem.Spec PyProof.Rows L2

/-! ### frames: all but the places in S stays; tables of code objects may grow -/
structure Kx (S : List Addr) (H H' : Hp) : Prop where
  st : ∀ b o, b ∉ S → H b = some o → (∀ ps, o ≠ .tbl ps) → H' b = some o
  tu : ∀ b xs, H b = some (.tup xs) → H' b = some (.tup xs)
  tb : ∀ P ps, H P = some (.tbl ps) → ∃ qs, H' P = some (.tbl qs) ∧ (TriplesOk ps.toList → TriplesOk qs.toList)
  th : ∀ b, H' b = none → H b = none
section
variable {S S' : List Addr} {H H1 H2 H' : Hp} {p a : Addr} {o : HO}
theorem Kx.refl (S : List Addr) (H : Hp) : Kx S H H := ⟨fun _ _ _ e _ => e, fun _ _ e => e, fun _ ps e => ⟨ps, e, id⟩, fun _ e => e⟩
theorem Kx.trans (x : Kx S H H1) (y : Kx S H1 H2) : Kx S H H2 where
  st := fun b o n e t => y.st b o n (x.st b o n e t) t
  tu := fun b xs e => y.tu b xs (x.tu b xs e)
  tb := fun P ps e => by
    obtain ⟨qs, e1, t1⟩ := x.tb P ps e
    obtain ⟨rs, e2, t2⟩ := y.tb P qs e1
    exact ⟨rs, e2, fun z => t2 (t1 z)⟩
  th := fun b e => x.th b (y.th b e)
theorem Kx.wk (x : Kx S H H1) (h : ∀ b ∈ S, b ∈ S') : Kx S' H H1 := ⟨fun b o n => x.st b o fun z => n (h b z), x.tu, x.tb, x.th⟩
theorem Kx.any (x : Kx [] H H1) : Kx S H H1 := x.wk fun _ z => absurd z (by simp)
theorem ne_fresh (h : H p = none) {b : Addr} {u : HO} (e : H b = some u) : b ≠ p := fun z => by
  rw [z, h] at e
  cases e
/-- a new place is laid, or a place that was new at the beginning changes -/
theorem Kx.new (x : Kx S H H1) (h : H p = none) : Kx S H (upd H1 p o) where
  st := fun b u n e t => by rw [upd_ne (ne_fresh h e)]; exact x.st b u n e t
  tu := fun b xs e => by rw [upd_ne (ne_fresh h e)]; exact x.tu b xs e
  tb := fun P ps e => by
    obtain ⟨qs, e1, t1⟩ := x.tb P ps e
    exact ⟨qs, by rw [upd_ne (ne_fresh h e)]; exact e1, t1⟩
  th := fun b e => by
    by_cases hb : b = p
    · rw [hb]; exact h
    · rw [upd_ne hb] at e; exact x.th b e
theorem Kx.laid (x : Kx S H H1) (h : H1 p = none) : Kx S H (upd H1 p o) := x.new (x.th p h)
/-- a list at a place of S changes -/
theorem Kx.mut {xs ys : List V} (x : Kx S H H1) (h : p ∈ S) (e0 : H1 p = some (.lst xs)) : Kx S H (upd H1 p (.lst ys)) where
  st := fun b u n e t => by
    rw [upd_ne (show b ≠ p from fun z => n (by rw [z]; exact h))]; exact x.st b u n e t
  tu := fun b zs e => by
    have e1 := x.tu b zs e
    rw [upd_ne (ne_of e1 e0 (by intro z; cases z))]; exact e1
  tb := fun P ps e => by
    obtain ⟨qs, e1, t1⟩ := x.tb P ps e
    exact ⟨qs, by rw [upd_ne (ne_of e1 e0 (by intro z; cases z))]; exact e1, t1⟩
  th := fun b e => by
    by_cases hb : b = p
    · rw [hb, upd_same] at e; cases e
    · rw [upd_ne hb] at e; exact x.th b e
theorem Kx.tab {P : Addr} (x : Kx S H H1) (h : GxR.TabG H1 P) (t : GxR.Tabbed P H1 H2) : Kx S H H2 := x.trans
  { st := fun b o _ e n => by
      obtain ⟨ps, e1, _⟩ := h
      rw [t.2 b (fun z => by rw [z, e1] at e; cases e; exact n ps rfl)]; exact e
    tu := fun b xs e => by
      obtain ⟨ps, e1, _⟩ := h
      rw [t.2 b (ne_of e e1 (by intro z; cases z))]; exact e
    tb := fun Q ps e => by
      by_cases hq : Q = P
      · obtain ⟨qs, e2, t2⟩ := t.1
        exact ⟨qs, by rw [hq]; exact e2, fun _ => t2⟩
      · exact ⟨ps, by rw [t.2 Q hq]; exact e, id⟩
    th := fun b e => by
      by_cases hb : b = P
      · obtain ⟨qs, e2, _⟩ := t.1
        rw [hb, e2] at e; cases e
      · rw [t.2 b hb] at e; exact e }
theorem Kx.tabG (x : Kx S H H1) {P : Addr} (h : GxR.TabG H P) : GxR.TabG H1 P := by
  obtain ⟨ps, e, t⟩ := h
  obtain ⟨qs, e1, t1⟩ := x.tb P ps e
  exact ⟨qs, e1, t1 t⟩
theorem Kx.lst {xs : List V} (x : Kx S H H1) (n : p ∉ S) (e : H p = some (.lst xs)) : H1 p = some (.lst xs) := x.st p _ n e (fun ps z => by cases z)
theorem Kx.lst0 {xs : List V} (x : Kx [] H H1) (e : H p = some (.lst xs)) : H1 p = some (.lst xs) := x.lst (by simp) e
theorem Kx.sqL {K : PySem.W.Frag} {xs : List V} (x : Kx [] H H1) (e : SqL K H p xs) : SqL K H1 p xs := by
  rcases e with (e | ⟨o, e⟩) | e
  · exact .inl (.inl (x.lst0 e))
  · exact .inl (.inr ⟨o, x.st p _ (by simp) e (fun ps z => by cases z)⟩)
  · exact .inr e
end

/-! ### paired lists -/
section
variable {α β γ : Type} {R R' : α → β → Prop}
theorem pget : ∀ {l : List α} {m : List β} {i : Nat} {y : β}, Paired R l m → m[i]? = some y → ∃ x, l[i]? = some x ∧ R x y
  | _, _, _, _, .nil, e => by simp at e
  | _, _, 0, _, .cons r _, e => by simp at e; subst e; exact ⟨_, rfl, r⟩
  | _, _, i + 1, y, .cons _ t, e => by
    obtain ⟨x, h1, h2⟩ := pget (i := i) (y := y) t (by simpa using e)
    exact ⟨x, by simpa using h1, h2⟩
theorem pgetL : ∀ {l : List α} {m : List β} {i : Nat} {x : α}, Paired R l m → l[i]? = some x → ∃ y, m[i]? = some y ∧ R x y
  | _, _, _, _, .nil, e => by simp at e
  | _, _, 0, _, .cons r _, e => by simp at e; subst e; exact ⟨_, rfl, r⟩
  | _, _, i + 1, x, .cons _ t, e => by
    obtain ⟨y, h1, h2⟩ := pgetL (i := i) (x := x) t (by simpa using e)
    exact ⟨y, by simpa using h1, h2⟩
theorem papp : ∀ {l l' : List α} {m m' : List β}, Paired R l m → Paired R l' m' → Paired R (l ++ l') (m ++ m')
  | _, _, _, _, .nil, h => h
  | _, _, _, _, .cons r t, h => .cons r (papp t h)
theorem pmap {f : γ → α} {g : γ → β} (h : ∀ z, R (f z) (g z)) : ∀ l : List γ, Paired R (l.map f) (l.map g)
  | [] => .nil
  | z :: l => .cons (h z) (pmap h l)
theorem ptake : ∀ (n : Nat) {l : List α} {m : List β}, Paired R l m → Paired R (l.take n) (m.take n)
  | 0, _, _, _ => .nil
  | _ + 1, _, _, .nil => .nil
  | n + 1, _, _, .cons r t => .cons r (ptake n t)
theorem pdrop : ∀ (n : Nat) {l : List α} {m : List β}, Paired R l m → Paired R (l.drop n) (m.drop n)
  | 0, _, _, h => h
  | _ + 1, _, _, .nil => .nil
  | n + 1, _, _, .cons _ t => pdrop n t
end

/-! ### the data -/
def RowAt (H : Hp) (v : V) (ns : List Int) : Prop := ∃ a, v = .ref a ∧ H a = some (.tup (ns.map V.int))
def TupA {α : Type} (H : Hp) (R : V → α → Prop) (v : V) (l : List α) : Prop := ∃ a xs, v = .ref a ∧ H a = some (.tup xs) ∧ Paired R xs l
abbrev RowsAt (H : Hp) : V → List (List Int) → Prop := TupA H (RowAt H)
abbrev Plan : Type := List (List Int) × List (List Int) × List (List Int)
def PlanAt (H : Hp) (v : V) (p : Plan) : Prop := ∃ a x y z, v = .ref a ∧ H a = some (.tup [x, y, z]) ∧ RowsAt H x p.1 ∧ RowsAt H y p.2.1 ∧ RowsAt H z p.2.2
structure Site where
  name : Str
  nxt : Option Str
  travel : Int
  reach : Option Int
  room : Int
  held : Int
  infl : List Int
def optS : Option Str → V
  | none => .non
  | some x => .str x
def optI : Option Int → V
  | none => .non
  | some x => .int x
def SiteAt (H : Hp) (v : V) (s : Site) : Prop := ∃ a f, v = .ref a ∧ H a = some (.tup [.str s.name, optS s.nxt, .int s.travel, optI s.reach, .int s.room, .int s.held, f]) ∧ RowAt H f s.infl
structure Basin where
  months : Nat
  sites : List Site
def BasinAt (H : Hp) (v : V) (b : Basin) : Prop := ∃ a x, v = .ref a ∧ H a = some (.tup [.int (b.months : Nat), x]) ∧ TupA H (SiteAt H) x b.sites
structure Rt where
  name : Str
  site : Str
  dem : List Int
def RightAt (H : Hp) (v : V) (r : Rt) : Prop := ∃ a f, v = .ref a ∧ H a = some (.tup [.str r.name, .str r.site, f]) ∧ RowAt H f r.dem
abbrev RightsAt (H : Hp) : V → List Rt → Prop := TupA H (RightAt H)
abbrev Cell : Type := Nat × Nat
def CellAt (H : Hp) (v : V) (c : Cell) : Prop := ∃ a, v = .ref a ∧ H a = some (.tup [.int (c.1 : Nat), .int (c.2 : Nat)])
abbrev RegAt (H : Hp) : V → List Cell → Prop := TupA H (CellAt H)
abbrev RegsAt (H : Hp) : V → List (List Cell) → Prop := TupA H (RegAt H)
section
variable {S : List Addr} {H H' : Hp} {v : V}
theorem Kx.row (x : Kx S H H') {ns : List Int} (h : RowAt H v ns) : RowAt H' v ns := by
  obtain ⟨a, e, h⟩ := h
  exact ⟨a, e, x.tu _ _ h⟩
theorem Kx.tupA {α : Type} {R R' : V → α → Prop} (x : Kx S H H') (r : ∀ v y, R v y → R' v y) {l : List α} (h : TupA H R v l) : TupA H' R' v l := by
  obtain ⟨a, xs, e, h, p⟩ := h
  exact ⟨a, xs, e, x.tu _ _ h, p.mono r⟩
theorem Kx.rows (x : Kx S H H') {rs : List (List Int)} (h : RowsAt H v rs) : RowsAt H' v rs := x.tupA (fun _ _ => x.row) h
theorem Kx.plan (x : Kx S H H') {p : Plan} (h : PlanAt H v p) : PlanAt H' v p := by
  obtain ⟨a, y1, y2, y3, e, h, h1, h2, h3⟩ := h
  exact ⟨a, y1, y2, y3, e, x.tu _ _ h, x.rows h1, x.rows h2, x.rows h3⟩
theorem Kx.site (x : Kx S H H') {s : Site} (h : SiteAt H v s) : SiteAt H' v s := by
  obtain ⟨a, f, e, h, r⟩ := h
  exact ⟨a, f, e, x.tu _ _ h, x.row r⟩
theorem Kx.basin (x : Kx S H H') {b : Basin} (h : BasinAt H v b) : BasinAt H' v b := by
  obtain ⟨a, f, e, h, r⟩ := h
  exact ⟨a, f, e, x.tu _ _ h, x.tupA (fun _ _ => x.site) r⟩
theorem Kx.right (x : Kx S H H') {r : Rt} (h : RightAt H v r) : RightAt H' v r := by
  obtain ⟨a, f, e, h, r⟩ := h
  exact ⟨a, f, e, x.tu _ _ h, x.row r⟩
theorem Kx.rights (x : Kx S H H') {rs : List Rt} (h : RightsAt H v rs) : RightsAt H' v rs := x.tupA (fun _ _ => x.right) h
theorem Kx.cell (x : Kx S H H') {c : Cell} (h : CellAt H v c) : CellAt H' v c := by
  obtain ⟨a, e, h⟩ := h
  exact ⟨a, e, x.tu _ _ h⟩
theorem Kx.reg (x : Kx S H H') {r : List Cell} (h : RegAt H v r) : RegAt H' v r := x.tupA (fun _ _ => x.cell) h
theorem Kx.regs (x : Kx S H H') {r : List (List Cell)} (h : RegsAt H v r) : RegsAt H' v r := x.tupA (fun _ _ => x.reg) h
theorem TupA.get {α : Type} {R : V → α → Prop} {l : List α} {i : Nat} {y : α} (h : TupA H R v l) (e : l[i]? = some y) : ∃ a xs x, v = .ref a ∧ H a = some (.tup xs) ∧ xs[i]? = some x ∧ R x y := by
  obtain ⟨a, xs, ev, h, p⟩ := h
  obtain ⟨x, ex, r⟩ := pget p e
  exact ⟨a, xs, x, ev, h, ex, r⟩
theorem TupA.len {α : Type} {R : V → α → Prop} {l : List α} (h : TupA H R v l) : ∃ a xs, v = .ref a ∧ H a = some (.tup xs) ∧ xs.length = l.length := by
  obtain ⟨a, xs, ev, h, p⟩ := h
  exact ⟨a, xs, ev, h, p.length⟩
end

/-! ### as nested data -/
def rowD (ns : List Int) : PyData := .tuple (ns.map .int)
def rowsD (rs : List (List Int)) : PyData := .tuple (rs.map rowD)
def planD (p : Plan) : PyData := .tuple [rowsD p.1, rowsD p.2.1, rowsD p.2.2]
def cellD (c : Cell) : PyData := .tuple [.int (c.1 : Nat), .int (c.2 : Nat)]
def regD (r : List Cell) : PyData := .tuple (r.map cellD)
def regsD (rs : List (List Cell)) : PyData := .tuple (rs.map regD)
section
variable {K : PySem.W.Frag} {H : Hp} {v : V}
theorem dpAll_of {α : Type} {R : V → α → Prop} {f : α → PyData} (h : ∀ v y, R v y → Dp K H v (f y)) : ∀ {xs : List V} {l : List α}, Paired R xs l → DpAll K H xs (l.map f)
  | _, _, .nil => .nil
  | _, _, .cons r t => .cons (h _ _ r) (dpAll_of h t)
theorem dpAll_ints : ∀ ns : List Int, DpAll K H (ns.map V.int) (ns.map .int)
  | [] => .nil
  | n :: ns => .cons (.int n) (dpAll_ints ns)
theorem dpAll_strs : ∀ ns : List Str, DpAll K H (ns.map V.str) (ns.map .str)
  | [] => .nil
  | n :: ns => .cons (.str n) (dpAll_strs ns)
theorem RowAt.dp {ns : List Int} (h : RowAt H v ns) : Dp K H v (rowD ns) := by
  obtain ⟨a, rfl, h⟩ := h
  exact .tup (SqT.of h) (dpAll_ints ns)
theorem TupA.dp {α : Type} {R : V → α → Prop} {f : α → PyData} (r : ∀ v y, R v y → Dp K H v (f y)) {l : List α} (h : TupA H R v l) : Dp K H v (.tuple (l.map f)) := by
  obtain ⟨a, xs, rfl, h, p⟩ := h
  exact .tup (SqT.of h) (dpAll_of r p)
theorem PlanAt.dp {p : Plan} (h : PlanAt H v p) : Dp K H v (planD p) := by
  obtain ⟨a, x, y, z, rfl, h, h1, h2, h3⟩ := h
  exact .tup (SqT.of h) (.cons (TupA.dp (f := rowD) (fun _ _ => RowAt.dp) h1) (.cons (TupA.dp (f := rowD) (fun _ _ => RowAt.dp) h2) (.cons (TupA.dp (f := rowD) (fun _ _ => RowAt.dp) h3) .nil)))
theorem CellAt.dp {c : Cell} (h : CellAt H v c) : Dp K H v (cellD c) := by
  obtain ⟨a, rfl, h⟩ := h
  exact .tup (SqT.of h) (.cons (.int _) (.cons (.int _) .nil))
theorem reg_dp {r : List Cell} (h : RegAt H v r) : Dp K H v (regD r) := TupA.dp (f := cellD) (fun _ _ => CellAt.dp) h
theorem regs_dp {r : List (List Cell)} (h : RegsAt H v r) : Dp K H v (regsD r) := TupA.dp (f := regD) (fun _ _ => reg_dp) h
end
end K15
set_option Elab.async false
set_option linter.all false
set_option maxRecDepth 100000
set_option maxHeartbeats 4000000
/-! Texts of plans and certificates, and what splitting gives back. -/
namespace K15
open PySem PySem.Spec PyProof.Rows L2
open TL (tl numL)

def sSp : Str := " "
def sNl : Str := "\n"
def sSl : Str := "/"
theorem tl_sp : tl sSp = [32] := by decide +kernel
theorem tl_nl : tl sNl = [10] := by decide +kernel
theorem tl_sl : tl sSl = [47] := by decide +kernel
/-- str(n) -/
def numS (i : Int) : Str := Str.ofString (toString i)
theorem tl_numS {i : Int} (h : 0 ≤ i) : tl (numS i) = numL i.toNat := by
  have e : i = ((i.toNat : Nat) : Int) := by omega
  unfold numS
  rw [e, TL.tl_num]
  rfl
/-- every sign is a figure -/
theorem numS_dig {i : Int} (h : 0 ≤ i) : ∀ c ∈ tl (numS i), 48 ≤ c ∧ c ≤ 57 := by
  rw [tl_numS h]
  exact TL.numL_digits i.toNat
theorem numS_ne {i : Int} (h : 0 ≤ i) : tl (numS i) ≠ [] := by
  rw [tl_numS h]
  exact TL.numL_ne i.toNat
theorem numS_len {i : Int} (h : 0 ≤ i) (h2 : i ≤ 9999) : 1 ≤ (numS i).length ∧ (numS i).length ≤ 4 := by
  rw [TL.len_tl, tl_numS h]
  refine ⟨?_, TL.numL_len (by decide) (by omega)⟩
  have := TL.numL_ne i.toNat
  cases e : numL i.toNat with
  | nil => exact absurd e this
  | cons a r => simp
theorem numL_head : ∀ n : Nat, 0 < n → ∃ c r, numL n = c :: r ∧ c ≠ 48 := by
  intro n
  induction n using Nat.strongRecOn with
  | _ n ih =>
    intro h0
    by_cases h : n < 10
    · exact ⟨48 + n, [], TL.numL_lt h, by omega⟩
    · obtain ⟨c, r, e, hc⟩ := ih (n / 10) (by omega) (by omega)
      exact ⟨c, r ++ [48 + n % 10], by rw [TL.numL_step (by omega), e]; rfl, hc⟩
theorem numS_zero : numS 0 = ("0" : Str) := by decide +kernel
/-- no zero ahead -/
theorem numS_first {i : Int} (h : 0 ≤ i) (h0 : i ≠ 0) : ∃ c r, tl (numS i) = c :: r ∧ c ≠ 48 := by
  rw [tl_numS h]
  exact numL_head _ (by omega)
theorem numS_int {i : Int} (h : 0 ≤ i) (h2 : i ≤ 9999) : PySem.intText? (numS i) = some i := by
  have e : i = ((i.toNat : Nat) : Int) := by omega
  have l : (numL i.toNat).length ≤ 4 := TL.numL_len (by decide) (by omega)
  have q := TL.int_num (n := i.toNat) (by omega)
  rw [← e] at q
  exact q
theorem numS_free {i : Int} (h : 0 ≤ i) {s : Nat} (hs : s < 48 ∨ 57 < s) : s ∉ tl (numS i) := fun hm => by
  have := numS_dig h s hm
  omega

/-! ### names -/
structure NameOk (n : Str) : Prop where
  lo : 1 ≤ n.length
  hi : n.length ≤ 6
  az : ∀ c ∈ tl n, 97 ≤ c ∧ c ≤ 122
theorem NameOk.free {n : Str} (h : NameOk n) {s : Nat} (hs : s < 97) : s ∉ tl n := fun hm => by
  have := h.az s hm
  omega

/-! ### joined texts -/
theorem join_eq (y : Str) (parts : List Str) : Txt.join y parts = Str.join y parts := TL.join_eq y parts
theorem join_cons (y a b : Str) (r : List Str) : Txt.join y (a :: b :: r) = a ++ y ++ Txt.join y (b :: r) := by
  rw [join_eq, join_eq]
  rfl
theorem app_assoc (a b c : Str) : a ++ b ++ c = a ++ (b ++ c) := TL.ext_tl (by rw [TL.tl_append, TL.tl_append, TL.tl_append, TL.tl_append, List.append_assoc])
theorem len_app (a b : Str) : (a ++ b).length = a.length + b.length := by
  rw [TL.len_tl, TL.tl_append, List.length_append, ← TL.len_tl, ← TL.len_tl]
theorem free_joinL {s : Nat} {S : List Nat} (h : s ∉ S) : ∀ {l : List (List Nat)}, (∀ p ∈ l, s ∉ p) → s ∉ TL.joinL S l
  | [], _ => by simp [TL.joinL]
  | [p], hp => by
    show s ∉ p
    exact hp p (List.mem_singleton.mpr rfl)
  | p :: q :: r, hp => by
    show s ∉ p ++ (S ++ TL.joinL S (q :: r))
    simp only [List.mem_append, not_or]
    exact ⟨hp p List.mem_cons_self, h, free_joinL h fun z hz => hp z (List.mem_cons_of_mem _ hz)⟩
theorem free_join {s : Nat} {y : Str} (h : s ∉ tl y) {l : List Str} (hp : ∀ p ∈ l, s ∉ tl p) : s ∉ tl (Txt.join y l) := by
  rw [join_eq, TL.tl_join]
  refine free_joinL h fun p hm => ?_
  obtain ⟨z, hz, rfl⟩ := List.mem_map.mp hm
  exact hp z hz
theorem sum_short {B : Nat} : ∀ {l : List Str}, (∀ p ∈ l, p.length ≤ B) → (l.map (·.length)).sum ≤ l.length * B
  | [], _ => by simp
  | a :: r, h => by
    have h1 := h a List.mem_cons_self
    have h2 := sum_short (l := r) fun p hp => h p (List.mem_cons_of_mem _ hp)
    simp only [List.map_cons, List.sum_cons, List.length_cons]
    rw [Nat.succ_mul]
    omega
theorem join_short {B : Nat} {y : Str} {l : List Str} (h : ∀ p ∈ l, p.length ≤ B) : (Txt.join y l).length ≤ l.length * B + l.length * y.length := by
  have h1 := StrLaws.join_length_le y l
  have h2 := sum_short h
  rw [join_eq]
  omega
theorem split_join1 {y : Str} {s : Nat} (ey : tl y = [s]) (hk : y.cps.all (· < 256) = true) {parts : List Str} (hne : parts ≠ []) (hp : ∀ p ∈ parts, s ∉ tl p) : Txt.split (Txt.join y parts) y = parts :=
  TL.split_join ey hk hne hp
theorem split_sp {l : List Str} (hne : l ≠ []) (hp : ∀ p ∈ l, 32 ∉ tl p) : Txt.split (Txt.join sSp l) sSp = l := split_join1 tl_sp (by decide +kernel) hne hp
theorem split_nl {l : List Str} (hne : l ≠ []) (hp : ∀ p ∈ l, 10 ∉ tl p) : Txt.split (Txt.join sNl l) sNl = l := split_join1 tl_nl (by decide +kernel) hne hp
theorem split_sl {a b : Str} (ha : 47 ∉ tl a) (hb : 47 ∉ tl b) : Txt.split (a ++ sSl ++ b) sSl = [a, b] := by
  have e : a ++ sSl ++ b = Txt.join sSl [a, b] := by
    rw [join_cons, join_eq]
    rfl
  rw [e]
  refine split_join1 tl_sl (by decide +kernel) (by simp) fun p hp => ?_
  rcases List.mem_cons.mp hp with rfl | hp
  · exact ha
  · rw [List.mem_singleton.mp hp]
    exact hb

/-! ### lines -/
/-- the pieces of a line of a plan -/
def pieces (w n : Str) (row : List Int) : List Str := w :: n :: row.map numS
def lineS (w n : Str) (row : List Int) : Str := Txt.join sSp (pieces w n row)
def wGive : Str := "give"
def wLet : Str := "let"
def wStore : Str := "store"
def wRegion : Str := "region"
/-- a word of letters at most 6 long -/
theorem give_ok : NameOk wGive := ⟨by decide +kernel, by decide +kernel, by decide +kernel⟩
theorem let_ok : NameOk wLet := ⟨by decide +kernel, by decide +kernel, by decide +kernel⟩
theorem store_ok : NameOk wStore := ⟨by decide +kernel, by decide +kernel, by decide +kernel⟩
theorem region_ok : NameOk wRegion := ⟨by decide +kernel, by decide +kernel, by decide +kernel⟩
/-- the law's own way to write a line -/
theorem line_law (w n : Str) {row : List Int} (h : row ≠ []) : w ++ sSp ++ n ++ sSp ++ Txt.join sSp (row.map numS) = lineS w n row := by
  unfold lineS pieces
  cases row with
  | nil => exact absurd rfl h
  | cons x r =>
    rw [List.map_cons, join_cons, join_cons]
    simp only [app_assoc]
/-- a row's numbers -/
def RowOk (m : Nat) (row : List Int) : Prop := row.length = m ∧ ∀ x ∈ row, 0 ≤ x ∧ x ≤ 9999
theorem pieces_free {w n : Str} {row : List Int} {m s : Nat} (hw : NameOk w) (hn : NameOk n) (hr : RowOk m row) (hs : s < 48) : ∀ p ∈ pieces w n row, s ∉ tl p := fun p hp => by
  rcases List.mem_cons.mp hp with rfl | hp
  · exact hw.free (by omega)
  rcases List.mem_cons.mp hp with rfl | hp
  · exact hn.free (by omega)
  obtain ⟨x, hx, rfl⟩ := List.mem_map.mp hp
  exact numS_free (hr.2 x hx).1 (.inl hs)
theorem pieces_short {w n : Str} {row : List Int} {m : Nat} (hw : NameOk w) (hn : NameOk n) (hr : RowOk m row) : ∀ p ∈ pieces w n row, p.length ≤ 6 := fun p hp => by
  rcases List.mem_cons.mp hp with rfl | hp
  · exact hw.hi
  rcases List.mem_cons.mp hp with rfl | hp
  · exact hn.hi
  obtain ⟨x, hx, rfl⟩ := List.mem_map.mp hp
  have := numS_len (hr.2 x hx).1 (hr.2 x hx).2
  omega
theorem pieces_len (w n : Str) (row : List Int) : (pieces w n row).length = row.length + 2 := by
  show (row.map numS).length + 2 = _
  rw [List.length_map]
theorem len_sp : sSp.length = 1 := by decide +kernel
theorem len_nl : sNl.length = 1 := by decide +kernel
theorem line_split {w n : Str} {row : List Int} {m : Nat} (hw : NameOk w) (hn : NameOk n) (hr : RowOk m row) : Txt.split (lineS w n row) sSp = pieces w n row :=
  split_sp (by unfold pieces; simp) (pieces_free hw hn hr (by decide))
theorem line_free {w n : Str} {row : List Int} {m : Nat} (hw : NameOk w) (hn : NameOk n) (hr : RowOk m row) : 10 ∉ tl (lineS w n row) :=
  free_join (by rw [tl_sp]; decide) (pieces_free hw hn hr (by decide))
theorem line_short {w n : Str} {row : List Int} {m : Nat} (hw : NameOk w) (hn : NameOk n) (hr : RowOk m row) : (lineS w n row).length ≤ (m + 2) * 7 := by
  have h := join_short (y := sSp) (pieces_short hw hn hr)
  rw [pieces_len, hr.1, len_sp] at h
  unfold lineS
  omega

/-! ### plans -/
def headsOf (b : Basin) (rs : List Rt) : List (Str × Str) := rs.map (fun r => (wGive, r.name)) ++ b.sites.flatMap fun s => [(wLet, s.name), (wStore, s.name)]
/-- one of the first, one of the second, and so on -/
def weave {α : Type} : List α → List α → List α
  | x :: xs, y :: ys => x :: y :: weave xs ys
  | _, _ => []
/-- every second one -/
def evens {α : Type} : List α → List α
  | [] => []
  | [x] => [x]
  | x :: _ :: r => x :: evens r
theorem weave_len {α : Type} : ∀ {xs ys : List α}, xs.length = ys.length → (weave xs ys).length = 2 * xs.length
  | [], [], _ => rfl
  | x :: xs, y :: ys, h => by
    have := weave_len (xs := xs) (ys := ys) (by simpa using h)
    show (weave xs ys).length + 2 = 2 * (xs.length + 1)
    omega
  | [], _ :: _, h => by simp at h
  | _ :: _, [], h => by simp at h
theorem evens_weave {α : Type} : ∀ {xs ys : List α}, xs.length = ys.length → evens (weave xs ys) = xs
  | [], [], _ => rfl
  | x :: xs, y :: ys, h => by
    show x :: evens (weave xs ys) = x :: xs
    rw [evens_weave (by simpa using h)]
  | [], _ :: _, h => by simp at h
  | _ :: _, [], h => by simp at h
theorem odds_weave {α : Type} : ∀ {xs ys : List α}, xs.length = ys.length → evens ((weave xs ys).drop 1) = ys
  | [], [], _ => rfl
  | [x], [y], _ => rfl
  | x :: x' :: xs, y :: y' :: ys, h => by
    have ih := odds_weave (xs := x' :: xs) (ys := y' :: ys) (by simpa using h)
    show evens (y :: x' :: (weave (x' :: xs) (y' :: ys)).drop 1) = _
    show y :: evens ((weave (x' :: xs) (y' :: ys)).drop 1) = _
    rw [ih]
  | [_], _ :: _ :: _, h => by simp at h
  | [], _ :: _, h => by simp at h
  | _ :: _, [], h => by simp at h
  | _ :: _ :: _, [_], h => by simp at h
def rowsOfP (p : Plan) : List (List Int) := p.1 ++ weave p.2.1 p.2.2
structure PlanOk (b : Basin) (rs : List Rt) (p : Plan) : Prop where
  nd : p.1.length = rs.length
  nr : p.2.1.length = b.sites.length
  ns : p.2.2.length = b.sites.length
  rd : ∀ r ∈ p.1, RowOk b.months r
  rr : ∀ r ∈ p.2.1, RowOk b.months r
  rs : ∀ r ∈ p.2.2, RowOk b.months r
end K15
set_option Elab.async false
set_option linter.all false
set_option maxRecDepth 100000
set_option maxHeartbeats 4000000
/-! xs[a::2] -/
namespace K15
open PySem PySem.Spec PyProof.Rows L2
theorem pick2 {α : Type} : ∀ L : List α, (List.range ((L.length + 1) / 2)).filterMap (fun k => L[2 * k]?) = evens L
  | [] => by simp [evens]
  | [x] => by simp [evens, List.range_succ]
  | x :: y :: r => by
    have ih := pick2 r
    have e : ((x :: y :: r).length + 1) / 2 = (r.length + 1) / 2 + 1 := by
      simp only [List.length_cons]
      omega
    rw [e, List.range_succ_eq_map, List.filterMap_cons]
    show x :: _ = x :: evens r
    rw [List.filterMap_map, ← ih]
    congr 1
theorem range2 (a n : Nat) (h : a ≤ n) : sliceRange (a : Int) (n : Int) 2 = (List.range ((n - a + 1) / 2)).map fun k => a + 2 * k := by
  unfold sliceRange
  by_cases hb : (a : Int) < (n : Int)
  · have e : (((n : Int) - a + 2 - 1) / 2).toNat = (n - a + 1) / 2 := by omega
    simp only [show (2 : Int) > 0 by decide, if_true, hb, e]
    apply List.map_congr_left
    intro k hk
    omega
  · have e : a = n := by omega
    subst e
    simp
theorem slice2 (its : List Value) (a : Nat) (h : a ≤ its.length) : slicePick its.toArray (some (a : Int)) none (some 2) = (evens (its.drop a)).toArray := by
  have e : sliceBounds (some (a : Int)) none (some 2) its.toArray.size = ((a : Int), (its.length : Int), 2) := by
    simp only [sliceBounds, Option.getD_some, List.size_toArray]
    have h1 : ¬ ((a : Int) < 0) := by omega
    simp only [h1, if_false, show (2 : Int) > 0 by decide, if_true]
    congr 1
    omega
  unfold slicePick
  rw [e]
  show (List.filterMap _ (sliceRange (a : Int) (its.length : Int) 2)).toArray = _
  rw [range2 a its.length h, List.filterMap_map, ← pick2 (its.drop a), List.length_drop]
  congr 1
  apply congrArg (fun f => List.filterMap f _)
  funext k
  show its.toArray[a + 2 * k]? = (its.drop a)[2 * k]?
  rw [List.getElem?_drop, List.getElem?_toArray]
theorem evens_vals : ∀ {xs : List V} {us : List Value}, Vals xs us → Vals (evens xs) (evens us)
  | _, _, .nil => .nil
  | _, _, .cons r .nil => .cons r .nil
  | _, _, .cons r (.cons _ t) => .cons r (evens_vals t)
theorem evens_le {α : Type} : ∀ l : List α, (evens l).length ≤ l.length
  | [] => Nat.le_refl _
  | [_] => Nat.le_refl _
  | x :: y :: r => by
    have := evens_le r
    show (evens r).length + 1 ≤ r.length + 1 + 1
    omega
section
variable {X : Cx}
/-- xs[a::2], a within xs -/
def tStep2 (K : PySem.W.Frag) (te tl : TE) : TE := fun σ H Q => te σ H fun x H1 => tPart tl σ H1 fun o H2 => ∃ (a : Addr) (xs : List V) (j : Nat), x = .ref a ∧ o = some ((j : Nat) : Int) ∧ SqL K H2 a xs ∧ j ≤ xs.length ∧ ∀ p, H2 p = none → Q (.ref p) (upd H2 p (.lst (evens (xs.drop j))))
theorem pe_step2 {e l : Expr} {te tl : TE} {k : Nat} {p1 p3 pos : Pos} (he : PE X e te) (hl : PE X l tl) : PE X (.Subscript e (.Slice (some l) none (some (.Constant (.int 2) k p1)) p3) pos) (tStep2 X.K te tl) := by
  refine ⟨fun pins s σ H Q I h => ?_⟩
  refine Subscript_ (thn (he.run pins s σ H _ I h) fun v s1 ⟨x, H1, I1, r1, q1⟩ => ?_)
  have hlo : PO X (some l) (tPart tl) := po_some hl
  have hst : PO X (some (.Constant (.int 2) k p1)) (tPart (tC (.int 2))) := po_some pe_int
  refine wpAny_Slice (thn (hlo.run pins s1 σ H1 _ I1 q1) fun vl s2 ⟨o2, H2, I2, pl, q2⟩ => ?_)
  refine thn (po_none.run pins s2 σ H2 (fun o H3 => o = none ∧ H3 = H2) I2 ⟨rfl, rfl⟩) fun vu s3 ⟨o3, H3, I3, pu, eu, e3⟩ => ?_
  subst eu e3
  refine thn (hst.run pins s3 σ H3 (fun o H4 => o = some 2 ∧ H4 = H3) I3 ⟨2, rfl, rfl, rfl⟩) fun vs s4 ⟨o4, H4, I4, ps, eo, e4⟩ => ?_
  subst eo e4
  obtain ⟨a, xs, j, rfl, rfl, hx, hj, q⟩ := q2
  cases r1
  have I5 : Inv X pins σ H4 { s4 with heap := s4.heap.push { cls := .type "slice", data := .fields #[vl, vu, vs] } } := I4.kept (t' := s4.toks) fun b ob q => Heap.get?_push_of_some _ q
  obtain ⟨its, r, ht, hz⟩ := I5.list hx
  have hlen := r.length
  show wpAny (model X.prog X.w) X.A (subscriptTail e (.Slice (some l) none (some (.Constant (.int 2) k p1)) p3) (.ref a) (.ref s4.heap.objs.size)) (EP X pins σ Q) X.xe { s4 with heap := s4.heap.push { cls := .type "slice", data := .fields #[vl, vu, vs] } }
  refine tail_any (ops := [.ref a, .ref s4.heap.objs.size]) ht.isList.typeIs (PySem.slot_list_getitem.lookup) ?_ (by with_unfolding_all rfl)
  refine wpAny_getItem_list_slice ht.isList (Heap.IsSliceOf.new _ vl vu vs) pl pu ps (by decide) ?_ (by rw [List.size_toArray]; omega)
  rw [slice2 its j (by omega)]
  refine ⟨.ref _, _, I5.laid (t' := s4.toks) (o := .lst (evens (xs.drop j))) (fun b ob q => Heap.get?_push_of_some _ q) (Nat.le_refl _) ?_, rfl, q _ (I5.hok.fresh (Nat.le_refl _))⟩
  refine ⟨?_, _, 0, evens_vals (r.drop j), Heap.get?_push_size _ rfl⟩
  have h1 := evens_le (xs.drop j)
  rw [List.length_drop] at h1
  omega
end
end K15
set_option Elab.async false
set_option linter.all false
set_option maxRecDepth 100000
set_option maxHeartbeats 4000000
/-! repr of nested data; defs that may lean on what runs around (no repr runs) -/
namespace K15
open PySem PySem.Spec PyProof.Rows L2
section
variable {X : Cx}
def rRepr (K : PySem.W.Frag) : List V → Hp → VK → Prop := fun xs H Q => ∃ (a : Addr) (d : PyData), xs = [.ref a] ∧ Dp K H (.ref a) d ∧ d.showable = true ∧ d.hasDict = false ∧ d.shown.length ≤ sizeLine ∧ d.depth ≤ 60 ∧ Q (.str d.shown) H
theorem call_reprD (hg : X.A.guards = some []) (hu : X.A.units + 64 < cLine) : CallR X (.builtin "repr") (rRepr X.K) := by
  intro pins s σ H xs us Q I r h
  obtain ⟨a, d, rfl, hd, hs, hn, hz, hk, q⟩ := h
  cases r with
  | cons r0 rr =>
    cases rr
    obtain ⟨as, rd⟩ := Dp.reads I d _ _ hd r0
    cases r0
    exact repr_of_reads' rd hs (PyData.noDict_hsm hn) hg (by omega) (fun _ _ e => e) (fun h' u tk kp => ⟨.str d.shown, H, I.kept kp, ⟨u, rfl⟩, q⟩) hz
end

/-- as FnOk, where no repr runs around the call -/
structure FnG (P : Program) (w : World) (K : PySem.W.Frag) (mg : Str → Option Value) (base : Heap) (k : Nat) (f : Addr) (fd : FuncData) (ps : List Str) (sp : Sp) : Prop where
  lens : ∀ vs H Q E, sp vs H Q E → vs.length = ps.length
  runs : ∀ (A : Around) (outer : List Env) (s : Shared) (H : Hp) (args : Args) (us : List Value) (vs : List V) (Q : VK), A.guards = some [] → Room k A → Env0 P w K mg base A outer s H → BindsTo s fd args (ps.zip us) → Vals vs us → sp vs H Q E0 →
    codeAny (model P w) A (.call (.ref f) args) (CR CX0 outer P w H s Q E0) s
section
variable {P : Program} {w : World} {K : PySem.W.Frag} {mg : Str → Option Value} {base : Heap} {x qual : Str} {params : Arguments} {body : List Stmt} {scope : Scope} {f : Addr} {fd : FuncData}
/-- a def that promises nothing but values -/
theorem okD {N ps : List Str} {k : Nat} {sp : Sp} (F : FunD K x qual params body scope [] [] f fd) (S : FnScope N ps scope) (len : ∀ vs H Q E, sp vs H Q E → vs.length = ps.length)
    (hbody : ∀ (cdv : Value) (A : Around) (outer : List Env) (s : Shared) (H : Hp) (vs : List V) (Q : VK) (E : XK), Room k (A.deeper (envOfC qual scope s.heap.objs.size f cdv)) → sp vs H Q E →
      ∃ t, PSs (cxOf CX0 P w K mg base N qual scope f cdv A outer s H E).nox body t ∧ t { nx := fun _ H' => Q .non H', rt := Q } (start N vs) H) : FnOk P w K mg base CX0 (k + 1) f fd ps sp :=
  F.ok S len fun cdv A outer s H vs Q E hr h => by
    obtain ⟨t, h1, h2⟩ := hbody cdv A outer s H vs Q E hr h
    exact ⟨t, h1.nox, h2⟩
/-- the same, its code object told -/
theorem okDc {N ps : List Str} {k : Nat} {sp : Sp} {c : Addr} (F : FunD K x qual params body scope [] [] f fd) (hc : fd.code = .ref c) (S : FnScope N ps scope) (len : ∀ vs H Q E, sp vs H Q E → vs.length = ps.length)
    (hbody : ∀ (A : Around) (outer : List Env) (s : Shared) (H : Hp) (vs : List V) (Q : VK) (E : XK), Room k (A.deeper (envOfC qual scope s.heap.objs.size f (.ref c))) → sp vs H Q E →
      ∃ t, PSs (cxOf CX0 P w K mg base N qual scope f (.ref c) A outer s H E).nox body t ∧ t { nx := fun _ H' => Q .non H', rt := Q } (start N vs) H) : FnOk P w K mg base CX0 (k + 1) f fd ps sp := by
  obtain ⟨oc, od, dV, kV, doc, pm, an, cdv, ct, osl, rfl, lk, hcd, _, _⟩ := F.ex
  have e : cdv = .ref c := hc
  subst e
  refine fn_of lk hcd S len fun A outer s H vs Q E hr h => ?_
  obtain ⟨t, h1, h2⟩ := hbody A outer s H vs Q E hr h
  exact ⟨t, h1.nox, h2⟩
/-- the same, where no repr runs around -/
theorem okG {N ps : List Str} {k : Nat} {sp : Sp} (F : FunD K x qual params body scope [] [] f fd) (S : FnScope N ps scope) (len : ∀ vs H Q E, sp vs H Q E → vs.length = ps.length)
    (hbody : ∀ (cdv : Value) (A : Around) (outer : List Env) (s : Shared) (H : Hp) (vs : List V) (Q : VK), (A.deeper (envOfC qual scope s.heap.objs.size f cdv)).guards = some [] → Room k (A.deeper (envOfC qual scope s.heap.objs.size f cdv)) → sp vs H Q E0 →
      ∃ t, PSs (cxOf CX0 P w K mg base N qual scope f cdv A outer s H E0).nox body t ∧ t { nx := fun _ H' => Q .non H', rt := Q } (start N vs) H) : FnG P w K mg base (k + 1) f fd ps sp := by
  obtain ⟨oc, od, dV, kV, doc, pm, an, cdv, ct, osl, rfl, lk, hcd, _, _⟩ := F.ex
  refine ⟨len, fun A outer s H args us vs Q hg hr e0 hb r hsp => ?_⟩
  have hlen := len _ _ _ _ hsp
  have KX : K.In s.heap := e0.mod.kin.keeps fun b o e => (e0.bs b o e).1
  have nl : s.heap.NoLimit := e0.mod.nolimit.keeps fun b o e => (e0.bs b o e).1
  have kinds : ∀ y ∈ ps.zip us, scope.names.lookup y.1 = some .local ∨ (scope.names.lookup y.1 = some .cell ∧ ((cellsFrom (s.heap.objs.size + 1) scope.names []).lookup y.1).isSome = true) := by
    rintro ⟨n, v⟩ hy
    rcases S.par n (List.of_mem_zip hy).1 with q | q
    · exact .inl q
    · exact .inr ⟨q, PySem.W.cellsFrom_some _ _ _ (.inl q)⟩
  refine codeAny_call_function hr.depth (KX _ _ lk) rfl S.co S.gen rfl (PySem.W.codeRec_of KX hcd) (hb _ _ _ _ ?_)
  refine wpAny_newFunctionEnv_cells S.kind kinds fun env he s1 x1 => ?_
  subst he
  refine ⟨nl.keeps x1.toInCall.keep, codeAny_func ?_⟩
  obtain ⟨t, ht, hq⟩ := hbody cdv A outer s H vs Q hg (hr.deeper _) hsp
  have I := inv_start (CX := CX0) (E := E0) S hr.hd e0 hlen r x1
  refine wpAny_mono (ht.nox.run [] s1 (start N vs) H _ I hq) (fun fl s' hs => ?_) fun e s' hs => hs
  cases fl with
  | ret u =>
    obtain ⟨v, σ', H', J, rv, q⟩ := hs
    exact ⟨v, H', J.os, J.bare, J.base, J.hok, rv, q⟩
  | next =>
    obtain ⟨σ', H', J, q⟩ := hs
    exact ⟨V.non, H', J.os, J.bare, J.base, J.hok, rfl, q⟩
  | brk =>
    obtain ⟨_, _, _, q⟩ := hs
    exact q.elim
  | cont =>
    obtain ⟨_, _, _, q⟩ := hs
    exact q.elim
end
section
variable {X : Cx} {k : Nat} {f : Addr} {fd : FuncData} {ps : List Str} {sp : Sp} {x : Str} {p pos : Pos} {e : Expr} {es : List Expr} {t : TA}
def tCallG (sp : Sp) (t : TA) : TE := fun σ H Q => t σ H fun vs H1 => sp vs H1 Q E0
theorem pe_callG (F : FnG X.prog X.w X.K X.mg X.base k f fd ps sp) (hgd : X.A.guards = some []) (hr : Room k X.A) (hg : Gl X x) (hm : X.mg x = some (.ref f)) (hk : PySem.W.keepIn X.K (.ref f) = true) (hb : Binds X.K fd ps [])
    (ha : PA X (e :: es) t) (hdb : (x == ("__debug__" : Str)) = false := by decide) (he : starEach (e :: es) X.env = (false, eval e X.env) :: starEach es X.env := by rfl) (hpl : (backTo pos (starEach es X.env)).any (·.1) = false := by rfl) :
    PE X (.Call (.Name x p) (e :: es) [] pos) (tCallG sp t) := by
  refine ⟨fun pins s σ H Q I h => ?_⟩
  refine wpAny_Call_Name_kw (ld_glob I hg hm ?_ hdb)
  refine PySem.W.callWith_K (h₀ := X.base) I.ok.mod.kin hk (thn (ha.run pos pins s σ H _ I h) fun us s1 ⟨vs, H1, I1, r, q⟩ => ⟨I1.kIn, ?_⟩) he hpl
  have hl : (us ++ []).length = ps.length := by rw [List.append_nil, ← r.length]; exact F.lens _ _ _ _ q
  have hbind := hb s1 us I1.kIn hl
  rw [List.append_nil] at hbind
  refine wpAny_call (codeAny_mono (F.runs X.A X.stack s1 H1 ⟨us, []⟩ us vs Q hgd hr I1.env0 hbind r q) fun rs s' hq => ?_)
  cases rs with
  | error er => exact False.elim hq
  | ok fl =>
    cases fl with
    | ret u => exact I1.after hq
    | next => exact False.elim hq
    | brk => exact False.elim hq
    | cont => exact False.elim hq
end
end K15
set_option Elab.async false
set_option linter.all false
set_option maxRecDepth 100000
set_option maxHeartbeats 4000000
/-! all(test for x in ..), whatever is walked by one iterator; the test reads what stands -/
namespace K15
open PySem PySem.Spec PyProof.Rows L2
open GxR (TabB TabG Tabbed GenS)
section
variable {X : Cx} {pins : List (Addr × Obj)} {σ : L2.St} {H : Hp} {s : Shared}
/-- what is walked: an iterator Ia, younger than the state s1 at which all is known -/
structure Srcs (X : Cx) (pins : List (Addr × Obj)) (σ : L2.St) (P : Addr) (n : Nat) (Pf : Nat → Value → Prop) (H1 : Hp) (s1 s2 : Shared) (Ia : Addr) : Prop where
  inv : Inv X pins σ H1 s1
  keep : ∀ b o, s1.heap.get? b = some o → s2.heap.get? b = some o
  old : s1.heap.objs.size ≤ Ia
  lt : Ia < s2.heap.objs.size
  gens : s2.gens = s1.gens
  drawn : s2.drawn = s1.drawn
  os : s2.os = s1.os
  walk : ∃ St : Nat → Heap → Prop, (∀ A' : Around, A'.handled = none → Walks X.prog X.w A' Ia [Ia] [Ia] n Pf St) ∧ St 0 s2.heap
  tab : TabG H1 P
theorem Srcs.same {P : Addr} {n : Nat} {Pf : Nat → Value → Prop} {H1 : Hp} {s1 s2 : Shared} {Ia : Addr} (h : Srcs X pins σ P n Pf H1 s1 s2 Ia) : s2 = { s1 with heap := s2.heap, toks := s2.toks } := by
  have e1 := h.gens
  have e2 := h.drawn
  have e3 := h.os
  obtain ⟨a, b, c, d, e⟩ := s1
  obtain ⟨a', b', c', d', e'⟩ := s2
  cases e1
  cases e2
  cases e3
  rfl
/-- the test at turn i, within the generator's frame -/
def EltA (X : Cx) (P : Addr) (scope : Scope) (x : Str) (elt : Expr) (n : Nat) (Pf : Nat → Value → Prop) (pb : Nat → Bool) (s1 : Shared) : Prop :=
  ∀ (C : Addr) (code : Value) (bi : Addr) (A' : Around) (E' : Value → Shared → Prop) (i : Nat) (v : Value) (s2 : Shared) (m2 : Str → Option Value), A'.handled = none → Pf i v → s2.heap.Ns C m2 → m2 x = some v → (∀ b o, b ≠ P → s1.heap.get? b = some o → s2.heap.get? b = some o) →
    wpAny (model X.prog X.w) A' (eval elt (genEnv scope (cloFrom X.env.cells scope.names []) C code bi X.env)) (fun y s3 => y = .bool (pb i) ∧ Keeps s2 s3) E' s2

theorem gen_run {c P : Addr} {elt iter : Expr} {x : Str} {px gpos : Pos} {scope : Scope} {k : Nat} {Q' : Value → Shared → Prop} {R : Nat → (Nat → Bool) → Hp → Prop}
    (hr : Room k X.A) (TB : TabB X.base X.mg c P) (hcode : X.env.code = .ref c) (S : GenS X.env scope x) (hs : ∀ v, genFold iter X.env v = pure v)
    (src : wpAny (model X.prog X.w) X.A (eval iter X.env) (fun xv sx => wpAny (model X.prog X.w) X.A (pyIter xv) (fun it s2 => ∃ (n : Nat) (Pf : Nat → Value → Prop) (pb : Nat → Bool) (H1 : Hp) (s1 : Shared) (Ia : Addr), it = .ref Ia ∧ Srcs X pins σ P n Pf H1 s1 s2 Ia ∧ EltA X P scope x elt n Pf pb s1 ∧ R n pb H1) X.xe sx) X.xe s)
    (hQ : ∀ (n : Nat) (pb : Nat → Bool) (H1 : Hp) (g : Addr) (s5 : Shared) (fp wr : List Addr) (G : Array GenState → Array GenState → Prop) (F : Nat → Value → Prop) (St : Nat → Shared → Prop), R n pb H1 →
      WalksS X.prog X.w X.A.in1 g fp wr G n F St → St 0 s5 → TruthOf X.prog X.w X.A.in1 F pb → (∀ s', Moved wr G s5 s' → ∃ H2, Tabbed P H1 H2 ∧ Inv X pins σ H2 s') → Q' (.ref g) s5) :
    wpAny (model X.prog X.w) X.A (eval (.GeneratorExp elt [⟨.Name x px, iter, [], 0⟩] scope gpos) X.env) Q' X.xe s := by
  refine wpAny_GeneratorExp_walksQ hr.hd S.co (closure_ok S.free) S.cell S.dot S.loc S.kind (by have := hr.dp; omega) ?_ hs
  refine thn src fun xv sx hx => thn hx fun it s2 h2 => ?_
  obtain ⟨n, Pf, pb, H1, s1, Ia, rfl, D, hel, hR⟩ := h2
  have es2 := D.same
  have I1 := D.inv
  obtain ⟨St0, W0, hst0⟩ := D.walk
  obtain ⟨ps, hP, htr⟩ := D.tab
  have hPs : s1.heap.get? P = some { cls := .none, data := .fields ps } := I1.hok P _ hP
  have hPlt : P < s1.heap.objs.size := Heap.lt_size hPs
  have hP2 := D.keep _ _ hPs
  have kb2 : ∀ b u, X.base.get? b = some u → s2.heap.get? b = some u := fun b u e => D.keep b u (I1.bk b u e)
  have cd : PySem.W.CodeHd s2.heap c P := TB.code.keeps kb2
  have lim2 : s2.heap.NoLimit := I1.nolimit.keeps D.keep
  have hIP : Ia ≠ P := fun z => by
    have := D.old
    rw [z] at this
    exact absurd (Nat.lt_of_lt_of_le hPlt this) (Nat.lt_irrefl _)
  have finish : ∀ (code : Value) (h3 : Heap) (tk : Nat) (qs : Array Value), Heap.ExtBut P s2.heap h3 → s2.heap.objs.size ≤ h3.objs.size → h3.get? P = some { cls := .none, data := .fields qs } → (∃ more, qs = ps ++ more) → TriplesOk qs.toList →
      wpAny (model X.prog X.w) X.A (builtinsFor X.env.globals X.env.builtins) (fun bi s4 =>
        ∃ It fp wr n0 Pf0 St1 pz F, Value.ref Ia = .ref It ∧ (∀ A' : Around, A'.handled = none → Walks X.prog X.w A' It fp wr n0 Pf0 St1) ∧ St1 0 s4.heap ∧ (∀ b ∈ fp, b < s4.heap.objs.size) ∧ s4.heap.NoLimit ∧ cStatics ∉ wr ∧
          (∀ href : Heap, (∀ b o, s4.heap.get? b = some o → href.get? b = some o) →
            QuietGen X.prog X.w (genEnv scope (cloFrom X.env.cells scope.names []) s4.heap.objs.size code bi X.env) x [] elt (List.range s4.heap.objs.size) wr Pf0 pz F href) ∧
          (∀ a h5 tk gs, gs.bare = true → s4.heap.objs.size < a → h5.objs.size = a + 1 → (∀ b o, s4.heap.get? b = some o → h5.get? b = some o) →
            WalksS X.prog X.w X.A.in4 a (a :: s4.heap.objs.size :: List.range s4.heap.objs.size) (s4.heap.objs.size :: wr) (GenOnlyQ s4.gens.size) (passing pz n0 0).length
              (fun j y => ∃ i, (passing pz n0 0)[j]? = some i ∧ F i y) (GenAt X.prog X.w X.A.in4 a s4.gens.size s4.heap.objs.size (List.range s4.heap.objs.size) wr pz n0 F) →
            GenAt X.prog X.w X.A.in4 a s4.gens.size s4.heap.objs.size (List.range s4.heap.objs.size) wr pz n0 F 0 { s4 with gens := s4.gens.push gs, toks := tk, heap := h5 } →
            Q' (.ref a) { s4 with gens := s4.gens.push gs, toks := tk, heap := h5 })) X.xe { s2 with heap := h3, toks := tk } := by
    intro code h3 tk qs hx hsz hP3 hmore htr3
    obtain ⟨bm, ob, e1, e2, e3, e4, e5, e6, e7, e8⟩ := TB.bm
    have hcP : cStatics ≠ P := fun e => by
      obtain ⟨_, hns, _⟩ := I1.nolimit
      obtain ⟨o', es, ep, ho, hd, _⟩ := hns
      rw [e, hPs] at ho
      cases ho
      cases hd
    have hcl : cStatics < s1.heap.objs.size := let ⟨_, hns, _⟩ := I1.nolimit; hns.lt
    have keep3 : ∀ b u, b ≠ P → s1.heap.get? b = some u → h3.get? b = some u := fun b u hb e => hx b u hb (D.keep b u e)
    refine wpAny_builtinsFor (m := X.mg) (by rw [I1.ok.glob]; exact (I1.mod.glob.keeps kb2).extBut hx TB.gP) e1 e2 (keep3 _ _ e4 (I1.bk _ _ e5)) e6 e7 e8 ?_
    refine ⟨Ia, [Ia], [Ia], n, Pf, St0, (fun _ => true), (fun i y => y = .bool (pb i)), rfl, W0, ?_, ?_, lim2.extBut hx hcP, ?_, ?_, ?_⟩
    · refine (W0 X.A hr.hd).frame _ _ _ hst0 fun b hb u e => hx b u (fun z => hIP ?_) e
      rw [← List.mem_singleton.mp hb]
      exact z
    · intro b hb
      rw [List.mem_singleton.mp hb]
      exact Nat.lt_of_lt_of_le D.lt hsz
    · intro z
      have z2 := List.mem_singleton.mp z
      rw [z2] at hcl
      exact absurd (Nat.lt_of_lt_of_le hcl D.old) (Nat.lt_irrefl _)
    · intro href hhref
      refine ⟨fun A' E' i v s₂ m₂ hA hPv hn hm hk => ?_, fun A' E' i v s₂ m₂ hA hPv hp hn hm hk => ?_⟩
      · simp only [List.forIn_nil]
        exact wpAny_pure ⟨rfl, GxR.keeps_refl _⟩
      · refine hel _ _ _ A' E' i v s₂ m₂ hA hPv hn hm fun b o hb e => hk b (List.mem_range.mpr ?_) (fun z => ?_) o (hhref b o (keep3 b o hb e))
        · have hl := Heap.lt_size (keep3 b o hb e)
          exact hl
        · have hl := Heap.lt_size e
          rw [List.mem_singleton.mp z] at hl
          exact absurd (Nat.lt_of_lt_of_le hl D.old) (Nat.lt_irrefl _)
    · intro g h5 tk5 gs hgb hag hsz5 hk5 W5 hat
      simp only [GxR.passing_true, List.length_range] at W5
      refine hQ n pb H1 g _ _ _ _ _ _ hR W5.in4_1 hat ?_ fun s' hm => ?_
      · intro j y sj Qj Ej hy hQj
        obtain ⟨i, hij, rfl⟩ := hy
        obtain ⟨hj, ej⟩ := List.getElem?_eq_some_iff.mp hij
        rw [List.getElem_range] at ej
        subst ej
        exact wpAny_truthy_bool hQj
      · obtain ⟨more, em⟩ := hmore
        have nwr : ∀ b u, s1.heap.get? b = some u → b ∉ h3.objs.size :: [Ia] := fun b u e hb => by
          have hl := Heap.lt_size e
          have h1 : s1.heap.objs.size ≤ h3.objs.size := Nat.le_trans D.old (Nat.le_trans (Nat.le_of_lt D.lt) hsz)
          rcases List.mem_cons.mp hb with z | z
          · rw [z] at hl
            exact absurd (Nat.lt_of_lt_of_le hl h1) (Nat.lt_irrefl _)
          · rw [List.mem_singleton.mp z] at hl
            exact absurd (Nat.lt_of_lt_of_le hl D.old) (Nat.lt_irrefl _)
        have bare0 : AllBare s2.gens := by rw [D.gens]; exact I1.bare
        have J := GxR.inv_tab (more := more) (h' := s'.heap) (g' := s'.gens) (d' := s'.drawn) (t' := s'.toks) I1 hP (fun b u hb e => hm.heap b u (nwr b u e) (hk5 b u (keep3 b u hb e)))
          (by rw [← em]; exact hm.heap P _ (nwr P _ hPs) (hk5 P _ hP3)) (AllBare.movedS (bare0.push hgb) hm)
        rw [GxR.sh_eta s1 s' (hm.os.trans D.os)] at J
        exact ⟨upd H1 P (.tbl (ps ++ more)), ⟨⟨ps ++ more, upd_same, by rw [← em]; exact htr3⟩, fun b hb => upd_ne hb⟩, J⟩
  refine ⟨lim2, ?_⟩
  cases hf : codeAmong gpos ps.toList with
  | none =>
    refine wpAny_genexprCodeX hcode (cd.code hP2 htr) (cd.tab hP2) hf fun c' h' tk hx hge hlt hco' _ htab' _ => ?_
    obtain ⟨o1, vs, f1, tf, fl, tg, inF, tx, tt, op, _, _, _, _, _, _, _, _, _, htr2, _⟩ := hco'
    exact finish _ h' tk _ hx (Nat.le_trans hge (Nat.le_of_lt hlt)) htab'.2 ⟨_, rfl⟩ htr2
  | some cv =>
    refine wpAny_genexprCode_hit hcode (cd.code hP2 htr) hf ?_
    exact finish cv s2.heap s2.toks ps (Heap.ExtBut.refl _ _) (Nat.le_refl _) hP2 ⟨#[], by simp⟩ htr
/-- all(..) of it -/
theorem all_run {c P : Addr} {elt iter : Expr} {x : Str} {px p pos gpos : Pos} {scope : Scope} {k : Nat} {Q : VK}
    (hr : Room k X.A) (hg : Gl X "all") (hm : X.mg "all" = none) (hb : bootBuiltins "all" = some (.builtin "all")) (TB : TabB X.base X.mg c P) (hcode : X.env.code = .ref c) (S : GenS X.env scope x) (hs : ∀ v, genFold iter X.env v = pure v) (I : Inv X pins σ H s)
    (src : wpAny (model X.prog X.w) X.A (eval iter X.env) (fun xv sx => wpAny (model X.prog X.w) X.A (pyIter xv) (fun it s2 => ∃ (n : Nat) (Pf : Nat → Value → Prop) (pb : Nat → Bool) (H1 : Hp) (s1 : Shared) (Ia : Addr), it = .ref Ia ∧ Srcs X pins σ P n Pf H1 s1 s2 Ia ∧ EltA X P scope x elt n Pf pb s1 ∧ ∀ H2, Tabbed P H1 H2 → Q (.bl ((List.range n).all pb)) H2) X.xe sx) X.xe s)
    (he : starEach [.GeneratorExp elt [⟨.Name x px, iter, [], 0⟩] scope gpos] X.env = (false, eval (.GeneratorExp elt [⟨.Name x px, iter, [], 0⟩] scope gpos) X.env) :: starEach [] X.env := by rfl) :
    wpAny (model X.prog X.w) X.A (eval (.Call (.Name "all" p) [.GeneratorExp elt [⟨.Name x px, iter, [], 0⟩] scope gpos] [] pos) X.env) (EP X pins σ Q) X.xe s := by
  refine wpAny_Call_Name_kw (ld_blt I hg hm hb ?_)
  refine PyProof.Rows.callWith_builtin1 ?_ he (by rfl)
  rw [he]
  show wpAny _ _ (spliced ((false, eval (.GeneratorExp elt [⟨.Name x px, iter, [], 0⟩] scope gpos) X.env) :: backTo pos (starEach [] X.env))) _ _ s
  refine Calls.spliced_cons (gen_run (R := fun n pb H1 => ∀ H2, Tabbed P H1 H2 → Q (.bl ((List.range n).all pb)) H2) hr TB hcode S hs src fun n pb H1 g s5 fp wr G F St hR W hst htr hI => ?_)
  refine Calls.spliced_nil ?_
  refine call_all_walkS (W.self 0 _ _ _ hst ⟨g, fp, wr, G, _, F, St, _, rfl, W, hst, htr, fun s' hmv => ?_⟩)
  obtain ⟨H2, hT, J⟩ := hI s' hmv
  exact ⟨.bl _, H2, J, rfl, hR H2 hT⟩
end
end K15
set_option Elab.async false
set_option linter.all false
set_option maxRecDepth 100000
set_option maxHeartbeats 4000000
/-! all(x in NAME for x in text); all(xs[i] < xs[i + 1] for i in range(len(xs) - 1)) -/
namespace K15
open PySem PySem.Spec PyProof.Rows L2
open GxR (TabB TabG Tabbed GenS)
def atB {α : Type} (l : List α) (p : α → Bool) (j : Nat) : Bool := match l[j]? with
  | some b => p b
  | none => false
theorem atB_some {α : Type} {l : List α} {p : α → Bool} {j : Nat} {b : α} (h : l[j]? = some b) : atB l p j = p b := by
  unfold atB
  rw [h]
theorem all_range {α : Type} (l : List α) (p : α → Bool) : (List.range l.length).all (atB l p) = l.all p := by
  rw [Bool.eq_iff_iff, List.all_eq_true, List.all_eq_true]
  constructor
  · intro h b hb
    obtain ⟨j, hj, e⟩ := List.getElem_of_mem hb
    have q := h j (List.mem_range.mpr hj)
    rw [atB_some (List.getElem?_eq_getElem hj), e] at q
    exact q
  · intro h j hj
    have hj' := List.mem_range.mp hj
    rw [atB_some (List.getElem?_eq_getElem hj')]
    exact h _ (List.getElem_mem hj')
section
variable {X : Cx}
/-- all(x in NAME for x in e), e a text, NAME a text of the module -/
def tAllIn (P : Addr) (z : Str) (te : TE) : TE := fun σ H Q => te σ H fun v H1 => ∃ a : Str, v = .str a ∧ TabG H1 P ∧ ∀ H2, Tabbed P H1 H2 → Q (.bl (a.cps.toList.all fun c => decide (c ∈ z.cps.toList))) H2
theorem pe_allIn {c P : Addr} {iter : Expr} {x nm : Str} {z : Str} {tz : Tok} {px p pos gpos p1 p2 p3 : Pos} {scope : Scope} {te : TE} {k : Nat}
    (hr : Room k X.A) (hg : Gl X "all") (hm : X.mg "all" = none) (TB : TabB X.base X.mg c P) (hcode : X.env.code = .ref c) (S : GenS X.env scope x) (hi : PE X iter te)
    (hz : X.mg nm = some (.str z tz)) (hnm : scope.names.lookup nm = some .globalImplicit) (hs : ∀ v, genFold iter X.env v = pure v)
    (hd1 : (x == ("__debug__" : Str)) = false := by decide) (hd2 : (nm == ("__debug__" : Str)) = false := by decide)
    (he : starEach [.GeneratorExp (.Compare (.Name x p1) [.In] [.Name nm p2] p3) [⟨.Name x px, iter, [], 0⟩] scope gpos] X.env = (false, eval (.GeneratorExp (.Compare (.Name x p1) [.In] [.Name nm p2] p3) [⟨.Name x px, iter, [], 0⟩] scope gpos) X.env) :: starEach [] X.env := by rfl) :
    PE X (.Call (.Name "all" p) [.GeneratorExp (.Compare (.Name x p1) [.In] [.Name nm p2] p3) [⟨.Name x px, iter, [], 0⟩] scope gpos] [] pos) (tAllIn P z te) := by
  refine ⟨fun pins s σ H Q I h => ?_⟩
  refine all_run hr hg hm (by decide +kernel) TB hcode S hs I (thn (hi.run pins s σ H _ I h) fun v s1 ⟨y, H1, I1, r1, a, ey, hT, hq⟩ => ?_) he
  subst ey
  obtain ⟨t, rfl⟩ := r1
  refine wpAny_pyIter_str fun o St W hst => ?_
  refine ⟨a.cps.size, SignAt a, (atB a.cps.toList fun b => decide (b ∈ z.cps.toList)), H1, s1, s1.heap.objs.size, rfl, ⟨I1, fun b u e => Heap.get?_push_of_some _ e, Nat.le_refl _, ?_, rfl, rfl, rfl, ⟨St, W, hst⟩, hT⟩, ?_, fun H2 h2 => ?_⟩
  · show s1.heap.objs.size < (s1.heap.push o).objs.size
    rw [Heap.size_push]
    exact Nat.lt_succ_self _
  · intro C code bi A' E' i v s2 m2 hA hP hn hm2 hk
    obtain ⟨cc, u, hcc, rfl⟩ := hP
    have ecc : a.cps.toList[i]? = some cc := by rw [Array.getElem?_toList]; exact hcc
    have kin : ∀ b o, X.base.get? b = some o → b ≠ P → s2.heap.get? b = some o := fun b o e hb => hk b o hb (I1.bk b o e)
    have gns : s2.heap.Ns mainGlobals X.mg := by
      obtain ⟨o, es, ep, e, hr⟩ := I1.mod.glob
      exact ⟨o, es, ep, kin _ _ e TB.gP, hr⟩
    generalize hce : genEnv scope (cloFrom X.env.cells scope.names []) C code bi X.env = cenv
    have hsc : cenv.scope = scope := by rw [← hce]; rfl
    have hgl : cenv.globals = mainGlobals := by rw [← hce]; exact I1.ok.glob
    have hlo : cenv.locals = C := by rw [← hce]; rfl
    refine wpAny_Compare1 ?_
    refine wpAny_Name (wpAny_loadName_local (by rw [hsc]; exact S.kind) (show cenv.scope.names.lookup x = some .local by rw [hsc]; exact S.loc) (by rw [hlo]; exact hn) hm2 ?_) hd1
    refine Calls.Name_function_global (by rw [hsc]; exact S.kind) (show cenv.scope.names.lookup nm = some .globalImplicit by rw [hsc]; exact hnm) (Calls.loadGlobal_global (by rw [hgl]; exact gns) hz ?_) hd2
    refine PyProof.Rows.in_str ?_
    have e1 := PySem.StrLaws.found_one z cc
    refine ⟨?_, GxR.keeps_refl _⟩
    rw [atB_some ecc]
    exact congrArg Value.bool e1
  · have e1 : a.cps.size = a.cps.toList.length := by simp
    rw [e1, all_range]
    exact hq H2 h2
/-- each is less than the next -/
def rising (ns : List Int) : Bool := (List.range (ns.length - 1)).all fun j => decide (ns.getD j 0 < ns.getD (j + 1) 0)
theorem walks_lt {prog : Program} {w : World} {A : Around} {I : Addr} {fp wr : List Addr} {n : Nat} {Pf : Nat → Value → Prop} {St : Nat → Heap → Prop} (W : Walks prog w A I fp wr n Pf St) : Walks prog w A I fp wr n (fun i v => i < n ∧ Pf i v) St :=
  ⟨W.sub, W.frame, fun i s Q E hi hst hQ => W.item i s Q E hi hst fun v h' tk p => hQ v h' tk ⟨hi, p⟩, W.done, W.self⟩
/-- all(y[x] < y[x + 1] for x in range(e)), y a name of the def's own that the generator captures -/
def tAllLt (K : PySem.W.Frag) (P : Addr) (i : Nat) (ta : TA) : TE := fun σ H Q => ta σ H fun vs H1 => ∃ (L : Addr) (ns : List Int), σ[i]? = some (some (.ref L)) ∧ vs = [.int ((ns.length : Nat) - 1)] ∧ SqL K H1 L (ns.map V.int) ∧ ns.length ≤ 1000 ∧ TabG H1 P ∧ ∀ H2, Tabbed P H1 H2 → Q (.bl (rising ns)) H2
theorem pe_allLt {c P : Addr} {e : Expr} {x y : Str} {i k : Nat} {px p pr pos rpos gpos p1 p2 p3 p4 p5 p6 p7 p8 p9 : Pos} {scope : Scope} {ta : TA} {j1 : Nat}
    (hr : Room k X.A) (hg : Gl X "all") (hm : X.mg "all" = none) (hgr : Gl X "range") (hmr : X.mg "range" = none) (TB : TabB X.base X.mg c P) (hcode : X.env.code = .ref c) (S : GenS X.env scope x) (ha : PA X [e] ta)
    (hN : X.N[i]? = some y) (hcell : X.env.kindOf y = some .cell) (hfree : scope.names.lookup y = some .free) (hcl : ∀ cells : List (Str × Addr), (cloFrom cells scope.names []).lookup y = some ((cells.lookup y).getD 0))
    (hs : ∀ v, genFold (.Call (.Name "range" pr) [e] [] rpos) X.env v = pure v)
    (hd1 : (x == ("__debug__" : Str)) = false := by decide) (hd2 : (y == ("__debug__" : Str)) = false := by decide) (hd3 : (y == ("__classdict__" : Str)) = false := by decide)
    (hsa : starEach [e] X.env = [(false, eval e X.env)] := by rfl)
    (he : starEach [.GeneratorExp (.Compare (.Subscript (.Name y p1) (.Name x p2) p3) [.Lt] [.Subscript (.Name y p4) (.BinOp (.Name x p5) .Add (.Constant (.int 1) j1 p6) p7) p8] p9) [⟨.Name x px, .Call (.Name "range" pr) [e] [] rpos, [], 0⟩] scope gpos] X.env = (false, eval (.GeneratorExp (.Compare (.Subscript (.Name y p1) (.Name x p2) p3) [.Lt] [.Subscript (.Name y p4) (.BinOp (.Name x p5) .Add (.Constant (.int 1) j1 p6) p7) p8] p9) [⟨.Name x px, .Call (.Name "range" pr) [e] [] rpos, [], 0⟩] scope gpos) X.env) :: starEach [] X.env := by rfl) :
    PE X (.Call (.Name "all" p) [.GeneratorExp (.Compare (.Subscript (.Name y p1) (.Name x p2) p3) [.Lt] [.Subscript (.Name y p4) (.BinOp (.Name x p5) .Add (.Constant (.int 1) j1 p6) p7) p8] p9) [⟨.Name x px, .Call (.Name "range" pr) [e] [] rpos, [], 0⟩] scope gpos] [] pos) (tAllLt X.K P i ta) := by
  refine ⟨fun pins s σ H Q I h => ?_⟩
  refine all_run hr hg hm (by decide +kernel) TB hcode S hs I ?_ he
  refine Call_ (ld_blt I hgr hmr boot_range (PyProof.Rows.callWith_type1 (thn (ha.run rpos pins s σ H _ I h) fun us s1 ⟨vs, H1, I1, r1, L, ns, hσ, ev, hS, hz, hT, hq⟩ => ?_) hsa rfl))
  subst ev
  obtain ⟨u, rfl, t, rfl⟩ := vals1 r1
  refine call_range_1 ?_
  refine wpAny_pyIter_range (IsRange.new ..) (small_one (by omega) (by omega) (by omega) (by omega)) ?_
  refine ⟨ns.length - 1, (fun i v => i < ns.length - 1 ∧ ∃ t, v = .int ((0 : Int) + i * 1) t), (fun j => decide (ns.getD j 0 < ns.getD (j + 1) 0)), H1, s1, s1.heap.objs.size + 1, ?_, ⟨I1, fun b o e => Heap.get?_push_of_some _ (Heap.get?_push_of_some _ e), Nat.le_succ _, ?_, rfl, rfl, rfl, ⟨_, fun A' hA => walks_lt (Walks.range hA _ 0 1 _), ?_⟩, hT⟩, ?_, hq⟩
  · show Value.ref (s1.heap.push _).objs.size = _
    rw [Heap.size_push]
  · show s1.heap.objs.size + 1 < ((s1.heap.push _).push _).objs.size
    rw [Heap.size_push, Heap.size_push]
    exact Nat.lt_succ_self _
  · have e1 : (0 : Int) + ((0 : Nat) : Int) * 1 = 0 := by simp
    have e2 : (((ns.length - 1 : Nat) : Nat) : Int) - ((0 : Nat) : Int) = Builtin.Range.rangeSize 0 ((ns.length : Nat) - 1) 1 := by
      rw [rangeSize_one]
      split <;> omega
    show IsRangeIter _ _ ((0 : Int) + ((0 : Nat) : Int) * 1) ((((ns.length - 1 : Nat) : Nat) : Int) - ((0 : Nat) : Int)) 1
    rw [e1, e2]
    have e3 := Heap.get?_push_size (s1.heap.push { cls := .type "range", data := .fields #[.int 0 s1.toks, .int ((ns.length : Nat) - 1) t, .int 1 (s1.toks + 1)] }) (o := { cls := .type "range_iterator", data := .fields #[rawInt 0, rawInt (Builtin.Range.rangeSize 0 ((ns.length : Nat) - 1) 1), rawInt 1] }) rfl
    rw [Heap.size_push] at e3
    exact e3
  · intro C code bi A' E' i' v s2 m2 hA hP hn hm2 hk
    obtain ⟨hlt, tv, rfl⟩ := hP
    obtain ⟨ps, hPt, _⟩ := hT
    have hPs : s1.heap.get? P = some { cls := .none, data := .fields ps } := I1.hok P _ hPt
    obtain ⟨its, rv, pl, hz2⟩ := I1.list hS
    have hlen : its.length = ns.length := by rw [← rv.length, List.length_map]
    have lst2 : s2.heap.IsList L its.toArray := by
      obtain ⟨o, ho, hc, hd, hdat⟩ := id pl.isList
      refine ⟨o, hk L o (fun z => ?_) ho, hc, hd, hdat⟩
      rw [z, hPs] at ho
      cases ho
      cases hc
    obtain ⟨m, hns, hl⟩ := I1.loc
    obtain ⟨u, ru, lk⟩ := hl i y (.ref L) hN hσ (.inr (.inl hcell))
    cases ru
    rcases lk with ⟨hkl, _⟩ | ⟨_, cc, hcc, hisc⟩
    · rw [hcell] at hkl
      cases hkl
    have hisc2 : s2.heap.IsCell cc (some (.ref L)) := by
      obtain ⟨o, ho, hd⟩ := hisc
      refine ⟨o, hk cc o (fun z => ?_) ho, hd⟩
      rw [z, hPs] at ho
      cases ho
      cases hd
    generalize hce : genEnv scope (cloFrom X.env.cells scope.names []) C code bi X.env = cenv
    have hsc : cenv.scope = scope := by rw [← hce]; rfl
    have hlo : cenv.locals = C := by rw [← hce]; rfl
    have hcel : cenv.cells.lookup y = some cc := by
      rw [← hce]
      show (cloFrom X.env.cells scope.names []).lookup y = _
      rw [hcl, hcc]
      rfl
    have hknd : cenv.scope.kind = .function := by rw [hsc]; exact S.kind
    have hkx : cenv.scope.names.lookup x = some .local := by rw [hsc]; exact S.loc
    have hky : cenv.scope.names.lookup y = some .free := by rw [hsc]; exact hfree
    have hn2 : s2.heap.Ns cenv.locals m2 := by rw [hlo]; exact hn
    have gx : ∀ (j : Nat) (a : Int), ns[j]? = some a → ∃ ta : Tok, its.toArray[((j : Nat) : Int).toNat]? = some (.int a ta) := fun j a e => by
      obtain ⟨u, hu, ta, rfl⟩ := rv.get (i := j) (x := V.int a) (by rw [List.getElem?_map, e]; rfl)
      exact ⟨ta, by rw [Int.toNat_natCast, List.getElem?_toArray]; exact hu⟩
    have h1 : i' < ns.length := by omega
    have h2 : i' + 1 < ns.length := by omega
    obtain ⟨t1, g1⟩ := gx i' ns[i'] (List.getElem?_eq_getElem h1)
    obtain ⟨t2, g2⟩ := gx (i' + 1) ns[i' + 1] (List.getElem?_eq_getElem h2)
    have ei : (0 : Int) + (i' : Nat) * 1 = ((i' : Nat) : Int) := by omega
    rw [ei] at hm2
    have l63 : (1000 : Int) < 2 ^ 63 := by decide
    have ldL : ∀ {pp : Pos} {s3 : Shared} {Q3 : Value → Shared → Prop}, s3.heap = s2.heap → Q3 (.ref L) s3 → wpAny (model X.prog X.w) A' (eval (.Name y pp) cenv) Q3 E' s3 := fun {pp s3 Q3} hh q =>
      wpAny_Name (wpAny_loadName_free hknd (show cenv.scope.names.lookup y = some .free from hky) hcel (by rw [hh]; exact hisc2) q hd3) hd2
    have ldX : ∀ {pp : Pos} {s3 : Shared} {Q3 : Value → Shared → Prop}, s3.heap = s2.heap → Q3 (.int ((i' : Nat) : Int) tv) s3 → wpAny (model X.prog X.w) A' (eval (.Name x pp) cenv) Q3 E' s3 := fun {pp s3 Q3} hh q =>
      wpAny_Name (wpAny_loadName_local hknd (show cenv.scope.names.lookup x = some .local from hkx) (by rw [hh]; exact hn2) hm2 q) hd1
    refine wpAny_Compare1 ?_
    refine Subscript_ (ldL rfl (ldX rfl ?_))
    refine item_listR lst2 (by omega) (by omega) g1 ?_ (by rfl)
    refine Subscript_ (ldL rfl (wpAny_BinOp (ldX rfl (wpAny_Constant_int ?_))))
    refine PyProof.Rows.add_int ?_
    have es : (((i' : Nat) : Int) + 1) = ((i' + 1 : Nat) : Int) := by omega
    rw [es]
    refine item_listR (s := { s2 with toks := s2.toks + 1 + 1 }) lst2 (by omega) (by omega) g2 ?_ (by rfl)
    refine PyProof.Rows.lt_int ⟨?_, GxR.keeps_tok _ _⟩
    show Value.bool (decide (ns[i'] < ns[i' + 1])) = Value.bool (decide (ns.getD i' 0 < ns.getD (i' + 1) 0))
    rw [List.getD_eq_getElem?_getD, List.getD_eq_getElem?_getD, List.getElem?_eq_getElem h1, List.getElem?_eq_getElem h2]
    rfl
end
end K15
set_option Elab.async false
set_option linter.all false
set_option maxRecDepth 100000
set_option maxHeartbeats 4000000
/-! for i, x in enumerate(a tuple) -/
namespace PySem
open Sem (wp)
set_option maxHeartbeats 4000000 in
theorem k15_meets_enum {v : Value} {o : Obj} {H : Heap → Prop} (B : Begins v o H) :
    Meets (Builtin.«enumerate.__new__» ⟨[.type "enumerate", v], []⟩) (fun _ R s => H s.heap ∧
      R (.ok (.ret (.ref (s.heap.push o).objs.size))) { s with heap := (s.heap.push o).push { cls := .type "enumerate", data := .fields #[.none, .bool false, .ref s.heap.objs.size, rawInt 0, .none, .none] } }) :=
  .of_wp fun prog w A R s h => by
    obtain ⟨hp, g, d, tk, os⟩ := s
    obtain ⟨h1, h⟩ := h
    have hsub := sub_enumerate
    have it1 : ∀ {A' : Around} {E : Value → Shared → Prop} {Q : Value → Shared → Prop}, Q (.ref hp.objs.size) ⟨hp.push o, g, d, tk, os⟩ → wpAny (model prog w) A' (pyIter v) Q E ⟨hp, g, d, tk, os⟩ :=
      fun q => B.iter prog w _ _ ⟨hp, g, d, tk, os⟩ _ h1 q
    wp_walk using it1
    refine wpAny_stack_any fun st => wpAny_pure ?_
    split
    · rename_i c _ _ _ _ _
      cases (c == Value.type "enumerate")
      · wp_walk using it1
        exact ⟨_, rfl, h⟩
      · wp_walk using it1
        exact ⟨_, rfl, h⟩
    · wp_walk using it1
      exact ⟨_, rfl, h⟩
section
variable {prog : Program} {w : World} {A : Around} {E : Value → Shared → Prop} {s : Shared}
theorem k15_call_enum {v : Value} {o : Obj} {H : Heap → Prop} {Q : Value → Shared → Prop} (B : Begins v o H) (h1 : H s.heap)
    (h : ∀ h', IsEnum h' (s.heap.objs.size + 1) s.heap.objs.size 0 .none → h'.get? s.heap.objs.size = some o → h'.objs.size = s.heap.objs.size + 2 →
      (∀ b o, s.heap.get? b = some o → h'.get? b = some o) → Q (.ref (s.heap.objs.size + 1)) { s with heap := h' }) :
    wpAny (model prog w) A (call (.type "enumerate") [v]) Q E s := by
  refine callType_new F.called_enumerate (by decide) (F.typeCall_enumerate_1 _) (F.newCall_enumerate_1 _) (fun obj => F.args_object_init_2 obj _) F.entry_enumerate_new (k15_meets_enum B) ⟨h1, ?_⟩
  have z1 : (s.heap.push o).objs.size = s.heap.objs.size + 1 := Heap.size_push ..
  show _ ∧ _
  rw [z1]
  have he : IsEnum ((s.heap.push o).push { cls := .type "enumerate", data := .fields #[.none, .bool false, .ref s.heap.objs.size, rawInt 0, .none, .none] }) (s.heap.objs.size + 1) s.heap.objs.size 0 .none := by
    have q := Heap.get?_push_size (s.heap.push o) (o := { cls := .type "enumerate", data := .fields #[.none, .bool false, .ref s.heap.objs.size, rawInt 0, .none, .none] }) rfl
    rw [z1] at q
    exact q
  exact ⟨⟨_, he, rfl⟩, h _ he (Heap.get?_push_of_some _ (Heap.get?_push_size _ B.free)) (by rw [Heap.size_push, z1]) fun b o x => Heap.get?_push_of_some _ (Heap.get?_push_of_some _ x)⟩
end
end PySem
namespace K15
open PySem PySem.Spec PyProof.Rows L2
/-- the tuple at a, its items in new pairs with their places -/
def IteT (K : PySem.W.Frag) (a : Addr) (n : Nat) : It :=
  ⟨fun i H => ∃ (xs : List V) (x : V), SqT K H a xs ∧ xs.length = n ∧ xs[i]? = some x, fun i H v H' => ∃ T x, v = .ref T ∧ H T = none ∧ H' = upd H T (.tup [.int (i : Nat), x]) ∧ ∀ xs, SqT K H a xs → xs[i]? = some x, fun i H => ∃ xs : List V, SqT K H a xs ∧ xs.length = n ∧ n ≤ i⟩
theorem turn_enumT {P : Program} {w : World} {K : PySem.W.Frag} {elts : List Expr} {kk : Nat} {tpos : Pos} (a e it : Addr) (n : Nat) (hei : e ≠ it) (hai : a ≠ it) :
    Turn P w K (.Tuple elts kk tpos) (IteT K a n) [e, it] e (fun i h => (∃ old, IsEnum h e it ((i : Nat) : Int) old) ∧ h.IsTupleIter it a i ∧ i ≤ n) where
  mem := by simp
  obj := fun i h st b hb => by
    obtain ⟨⟨old, he⟩, ⟨o, ho, hc, hd⟩, _⟩ := st
    have e' : b = e ∨ b = it := by simpa using hb
    rcases e' with z | z
    · rw [z]; exact ⟨_, he, fun v q => nomatch q⟩
    · rw [z]; exact ⟨o, ho, fun v q => by rw [hd] at q; cases q⟩
  keep := fun i h h' st k => by
    obtain ⟨⟨old, he⟩, hi, hn⟩ := st
    exact ⟨⟨old, k e (by simp) _ he⟩, hi.at fun o q => k it (by simp) o q, hn⟩
  item := by
    intro X hP hw hK hc i pins s σ H E I hf st hg
    subst hP hw hK
    obtain ⟨⟨old, he⟩, hit, hin⟩ := st
    obtain ⟨xs, x, hq, hxn, hx⟩ := hg
    obtain ⟨its, rv, p, hz⟩ := I.tuple hq
    obtain ⟨u, hu, ru⟩ := rv.get hx
    have hlt : i < its.toArray.size := by
      rw [List.size_toArray]
      exact (List.getElem?_eq_some_iff.mp hu).1
    have hel : e < s.heap.objs.size := Heap.lt_size he
    have hil : it < s.heap.objs.size := by
      obtain ⟨_, q, _⟩ := id hit
      exact Heap.lt_size q
    have hea : e ≠ a := fun z => by
      obtain ⟨o, ho, hc, _⟩ := (show s.heap.IsTuple a its.toArray from p)
      rw [← z, (show s.heap.get? e = some _ from he)] at ho
      cases ho
      simp at hc
    have D := Draws.tuple (prog := X.prog) (w := X.w) (A := X.A.in1) (show X.A.in1.handled = none from I.ok.hd hc) it a hai its.toArray
    refine wpAny_pyNext_enum_itemD D he ⟨hit, (show s.heap.IsTuple a its.toArray from p)⟩ hlt hei (by simp [hei, hea]) fun y h' tk hy ho hs' hT hsz hk => ?_
    obtain ⟨hit', htp'⟩ := hs'
    have ey : y = u := by
      have q : its.toArray[i]? = some u := by simpa using hu
      rw [q] at hy
      exact (Option.some.inj hy).symm
    subst ey
    refine ⟨_, rfl, wpAny_letOwnedTupleGo_enum (s := { s with heap := h', toks := tk + 1 }) ho fun h'' he' sb => ?_⟩
    have hT2 : h''.get? s.heap.objs.size = some { cls := .type "tuple", data := .seq #[.int i tk, y] } := (sb.2 _ (Nat.ne_of_gt hel)).trans hT
    have new : ObjOk X.prog X.w (upd H s.heap.objs.size (.tup [.int (i : Nat), x])) h'' s.heap.objs.size (.tup [.int (i : Nat), x]) :=
      ⟨by show 2 ≤ sizeLine; decide, [.int i tk, y], .cons ⟨_, rfl⟩ (.cons ru .nil), ⟨_, hT2, rfl, _, rfl⟩⟩
    have I1 : Inv X pins σ (upd H s.heap.objs.size (.tup [.int (i : Nat), x])) { s with heap := h'', toks := tk + 1 } :=
      I.turnedNew (ch := [e, it]) (fun b ob hb q => (sb.2 b (fun z => hb (by simp [z]))).trans (hk b ob (fun z => hb (by simp [z])) (fun z => hb (by simp [z])) q)) hf (Nat.le_refl _) new
    refine ⟨.ref s.heap.objs.size, _, I1, rfl, ⟨_, x, rfl, I.hok.fresh (Nat.le_refl _), rfl, fun ys hy => by rw [I.tuple_inj hy hq]; exact hx⟩, ⟨⟨y, ?_⟩, hit'.at fun o q => (sb.2 it (Ne.symm hei)).trans q, ?_⟩, fun b hb => ?_⟩
    · have e1 : ((i + 1 : Nat) : Int) = (i : Int) + 1 := by omega
      rw [e1]; exact he'
    · have := (List.getElem?_eq_some_iff.mp hx).1
      omega
    · have hb' : b < s.heap.objs.size := by
        have e' : b = e ∨ b = it := by simpa using hb
        rcases e' with z | z
        · rw [z]; exact hel
        · rw [z]; exact hil
      rw [upd_ne (Nat.ne_of_lt hb')]
      exact (hf b hb).1
  done := by
    intro X hP hw hK hc i pins s σ H E I hf st hg
    subst hP hw hK
    obtain ⟨⟨old, he⟩, hit, hin⟩ := st
    obtain ⟨xs, hq, hxn, hni⟩ := hg
    obtain ⟨its, rv, p, hz⟩ := I.tuple hq
    obtain ⟨f0, f1, f2, f3, f4, f5⟩ := hf it (by simp)
    have hl := rv.length
    have ei : i = its.toArray.size := by
      rw [List.size_toArray]
      omega
    have D := Draws.tuple (prog := X.prog) (w := X.w) (A := X.A.in1) (show X.A.in1.handled = none from I.ok.hd hc) it a hai its.toArray
    subst ei
    exact wpAny_pyNext_enum_endD D he ⟨hit, (show s.heap.IsTuple a its.toArray from p)⟩ fun h' eb => ⟨rfl, I.turned (t' := s.toks) (fun b o hb q => eb b o hb q) f0 f1 f3 f4 f5⟩
  self := fun A i s Q E st h => by
    obtain ⟨⟨_, he⟩, _⟩ := st
    exact wpAny_pyIter_enum he h
def iEnumT (K : PySem.W.Frag) (ta : TA) : TI := fun σ H R => ta σ H fun vs H1 => ∃ a xs, vs = [.ref a] ∧ SqT K H1 a xs ∧ R (IteT K a xs.length) H1
theorem pi_enumT {X : Cx} {e : Expr} {ta : TA} {p pos tpos : Pos} {elts : List Expr} {kk : Nat} (hg : Gl X "enumerate") (hm : X.mg "enumerate" = none) (ha : PA X [e] ta) (hs : starEach [e] X.env = [(false, eval e X.env)] := by rfl) :
    PI X (.Tuple elts kk tpos) (.Call (.Name "enumerate" p) [e] [] pos) (iEnumT X.K ta) := by
  refine ⟨fun pins s σ H R I h => ?_⟩
  refine Call_ (ld_blt I hg hm boot_enumerate (PyProof.Rows.callWith_type1 (thn (ha.run pos pins s σ H _ I h) fun us s1 ⟨vs, H1, I1, r1, q1⟩ => ?_) hs rfl))
  obtain ⟨a, xs, ex, hq, q⟩ := q1
  subst ex
  cases r1 with
  | cons r rr =>
    cases rr
    cases r
    obtain ⟨its, rv, tp, hz⟩ := I1.tuple hq
    have ht : s1.heap.IsTuple a its.toArray := tp
    have hal : a < s1.heap.objs.size := by
      obtain ⟨_, q, _⟩ := id ht
      exact Heap.lt_size q
    refine k15_call_enum (begins_tuple a its.toArray) ht fun h' he hit hsz hk => wpAny_pyIter_enum he ?_
    have I2 : Inv X pins σ H1 { s1 with heap := h' } := I1.kept (t' := s1.toks) hk
    refine ⟨s1.heap.objs.size + 1, [s1.heap.objs.size + 1, s1.heap.objs.size], _, _, H1, rfl, I2, turn_enumT a (s1.heap.objs.size + 1) s1.heap.objs.size xs.length (Nat.succ_ne_self _) (Nat.ne_of_lt hal), ⟨⟨.none, he⟩, ⟨_, hit, rfl, rfl⟩, Nat.zero_le _⟩, fun b hb => ?_, q⟩
    have e' : b = s1.heap.objs.size + 1 ∨ b = s1.heap.objs.size := by simpa using hb
    have hle : s1.heap.objs.size ≤ b := by
      rcases e' with z | z
      · rw [z]; exact Nat.le_add_right _ _
      · rw [z]; exact Nat.le_refl _
    exact I1.fpOk hle (I1.hok.fresh hle)
/-- over a tuple with places -/
theorem for_enumT {K : PySem.W.Frag} {a : Addr} {xs : List V} {g : TG} {tb : TS} {D : Ends} {σ : L2.St} {H : Hp} (Pv : Nat → L2.St → Hp → Prop) (h0 : Pv 0 σ H) (hl : ∀ i σ H, Pv i σ H → SqT K H a xs)
    (hs : ∀ (i : Nat) (x : V) (T : Addr) (σ : L2.St) (H : Hp), xs[i]? = some x → Pv i σ H → H T = none → g (.ref T) σ (upd H T (.tup [.int (i : Nat), x])) fun σ2 H2 => tb { D with nx := Pv (i + 1), ct := Pv (i + 1), bk := D.nx } σ2 H2) (hd : ∀ σ H, Pv xs.length σ H → D.nx σ H) :
    ∃ W : Nat → Nat → L2.St → Hp → Prop, (∃ m, W 0 m σ H) ∧ ∀ i m σ H, W i m σ H →
      ((IteT K a xs.length).stop i H ∧ D.nx σ H) ∨ ((IteT K a xs.length).go i H ∧ ∃ N : L2.St → Hp → Prop, (∀ σ' H', N σ' H' → ∃ m', m' < m ∧ W (i + 1) m' σ' H') ∧ ∀ x H', (IteT K a xs.length).yld i H x H' → g x σ H' fun σ2 H2 => tb { D with nx := N, ct := N, bk := D.nx } σ2 H2) := by
  refine ⟨fun i m σ H => m = xs.length - i ∧ i ≤ xs.length ∧ Pv i σ H, ⟨xs.length, by simp, Nat.zero_le _, h0⟩, ?_⟩
  rintro i m σ H ⟨rfl, hi, p⟩
  have q := hl i σ H p
  by_cases hlt : i < xs.length
  · refine .inr ⟨⟨xs, xs[i], q, rfl, by simp [hlt]⟩, Pv (i + 1), fun σ' H' p' => ⟨xs.length - (i + 1), by omega, rfl, hlt, p'⟩, fun v H' y => ?_⟩
    obtain ⟨T, x, rfl, hT, rfl, y⟩ := y
    exact hs i x T σ H (y xs q) p hT
  · have e : i = xs.length := by omega
    subst e
    exact .inl ⟨⟨xs, q, rfl, Nat.le_refl _⟩, hd σ H p⟩
end K15
set_option Elab.async false
set_option linter.all false
set_option maxRecDepth 100000
set_option maxHeartbeats 4000000
/-! the defs of the text, their scopes -/
namespace K15
open PySem PySem.Spec PyProof.Rows L2
def topS (i : Nat) : Stmt := PySem.Challenge.pw_heldwater_k15_plans_written.main.body.getD i (.Pass ⟨0, 0, 0, 0⟩)
abbrev FnP (K : PySem.W.Frag) (x : Str) (st : Stmt) (f : Addr) (fd : FuncData) : Prop := FunD K x x (defArgs st) (defBody st) (defScope st) [] [] f fd
/-- a def that stands as the text has it, under its name -/
structure Df (K : PySem.W.Frag) (mg : Str → Option Value) (x : Str) (st : Stmt) (f : Addr) (fd : FuncData) : Prop where
  F : FnP K x st f fd
  g : mg x = some (.ref f)
abbrev sSiteNumber : Stmt := topS 2
abbrev nSiteNumber : List Str := ["basin", "name", "number", "site"]
theorem scSiteNumber : FnScope ["basin", "name", "number", "site"] ["basin", "name"] (defScope sSiteNumber) := ⟨rfl, rfl, rfl, by decide +kernel, rfl, by decide +kernel, by decide +kernel⟩
theorem bdSiteNumber {K : PySem.W.Frag} {f : Addr} {fd : FuncData} (F : FnP K "site_number" sSiteNumber f fd) : Binds K fd ["basin", "name"] [] := F.bindsN fun _ _ _ _ _ _ us hl => match us, hl with | [_, _], _ => rfl
abbrev sCells : Stmt := topS 3
abbrev nCells : List Str := ["basin", "months", "sites", "month", "number"]
theorem scCells : FnScope ["basin", "months", "sites", "month", "number"] ["basin"] (defScope sCells) := ⟨rfl, rfl, rfl, by decide +kernel, rfl, by decide +kernel, by decide +kernel⟩
theorem bdCells {K : PySem.W.Frag} {f : Addr} {fd : FuncData} (F : FnP K "cells" sCells f fd) : Binds K fd ["basin"] [] := F.bindsN fun _ _ _ _ _ _ us hl => match us, hl with | [_], _ => rfl
abbrev sCheck : Stmt := topS 12
abbrev nCheck : List Str := ["holds"]
theorem scCheck : FnScope ["holds"] ["holds"] (defScope sCheck) := ⟨rfl, rfl, rfl, by decide +kernel, rfl, by decide +kernel, by decide +kernel⟩
theorem bdCheck {K : PySem.W.Frag} {f : Addr} {fd : FuncData} (F : FnP K "check" sCheck f fd) : Binds K fd ["holds"] [] := F.bindsN fun _ _ _ _ _ _ us hl => match us, hl with | [_], _ => rfl
abbrev sNumberOf : Stmt := topS 13
abbrev nNumberOf : List Str := ["piece"]
theorem scNumberOf : FnScope ["piece"] ["piece"] (defScope sNumberOf) := ⟨rfl, rfl, rfl, by decide +kernel, rfl, by decide +kernel, by decide +kernel⟩
theorem bdNumberOf {K : PySem.W.Frag} {f : Addr} {fd : FuncData} (F : FnP K "number_of" sNumberOf f fd) : Binds K fd ["piece"] [] := F.bindsN fun _ _ _ _ _ _ us hl => match us, hl with | [_], _ => rfl
abbrev sHeads : Stmt := topS 14
abbrev nHeads : List Str := ["basin", "rights", "found", "site", "right"]
theorem scHeads : FnScope ["basin", "rights", "found", "site", "right"] ["basin", "rights"] (defScope sHeads) := ⟨rfl, rfl, rfl, by decide +kernel, rfl, by decide +kernel, by decide +kernel⟩
theorem bdHeads {K : PySem.W.Frag} {f : Addr} {fd : FuncData} (F : FnP K "heads" sHeads f fd) : Binds K fd ["basin", "rights"] [] := F.bindsN fun _ _ _ _ _ _ us hl => match us, hl with | [_, _], _ => rfl
abbrev sRowsOf : Stmt := topS 15
abbrev nRowsOf : List Str := ["basin", "rights", "plan", "deliveries", "releases", "storages", "number", "found"]
theorem scRowsOf : FnScope ["basin", "rights", "plan", "deliveries", "releases", "storages", "number", "found"] ["basin", "rights", "plan"] (defScope sRowsOf) := ⟨rfl, rfl, rfl, by decide +kernel, rfl, by decide +kernel, by decide +kernel⟩
theorem bdRowsOf {K : PySem.W.Frag} {f : Addr} {fd : FuncData} (F : FnP K "rows_of" sRowsOf f fd) : Binds K fd ["basin", "rights", "plan"] [] := F.bindsN fun _ _ _ _ _ _ us hl => match us, hl with | [_, _, _], _ => rfl
abbrev sPlanOf : Stmt := topS 16
abbrev nPlanOf : List Str := ["basin", "rights", "rows", "many"]
theorem scPlanOf : FnScope ["basin", "rights", "rows", "many"] ["basin", "rights", "rows"] (defScope sPlanOf) := ⟨rfl, rfl, rfl, by decide +kernel, rfl, by decide +kernel, by decide +kernel⟩
theorem bdPlanOf {K : PySem.W.Frag} {f : Addr} {fd : FuncData} (F : FnP K "plan_of" sPlanOf f fd) : Binds K fd ["basin", "rights", "rows"] [] := F.bindsN fun _ _ _ _ _ _ us hl => match us, hl with | [_, _, _], _ => rfl
abbrev sPlanLines : Stmt := topS 17
abbrev nPlanLines : List Str := ["basin", "rights", "plan", "found", "head", "row", "number"]
theorem scPlanLines : FnScope ["basin", "rights", "plan", "found", "head", "row", "number"] ["basin", "rights", "plan"] (defScope sPlanLines) := ⟨rfl, rfl, rfl, by decide +kernel, rfl, by decide +kernel, by decide +kernel⟩
theorem bdPlanLines {K : PySem.W.Frag} {f : Addr} {fd : FuncData} (F : FnP K "plan_lines" sPlanLines f fd) : Binds K fd ["basin", "rights", "plan"] [] := F.bindsN fun _ _ _ _ _ _ us hl => match us, hl with | [_, _, _], _ => rfl
abbrev sRegionLine : Stmt := topS 18
abbrev nRegionLine : List Str := ["basin", "region", "number", "month"]
theorem scRegionLine : FnScope ["basin", "region", "number", "month"] ["basin", "region"] (defScope sRegionLine) := ⟨rfl, rfl, rfl, by decide +kernel, rfl, by decide +kernel, by decide +kernel⟩
theorem bdRegionLine {K : PySem.W.Frag} {f : Addr} {fd : FuncData} (F : FnP K "region_line" sRegionLine f fd) : Binds K fd ["basin", "region"] [] := F.bindsN fun _ _ _ _ _ _ us hl => match us, hl with | [_, _], _ => rfl
abbrev sPlanText : Stmt := topS 19
abbrev nPlanText : List Str := ["basin", "rights", "plan"]
theorem scPlanText : FnScope ["basin", "rights", "plan"] ["basin", "rights", "plan"] (defScope sPlanText) := ⟨rfl, rfl, rfl, by decide +kernel, rfl, by decide +kernel, by decide +kernel⟩
theorem bdPlanText {K : PySem.W.Frag} {f : Addr} {fd : FuncData} (F : FnP K "plan_text" sPlanText f fd) : Binds K fd ["basin", "rights", "plan"] [] := F.bindsN fun _ _ _ _ _ _ us hl => match us, hl with | [_, _, _], _ => rfl
abbrev sCertText : Stmt := topS 20
abbrev nCertText : List Str := ["basin", "rights", "certificate", "plan", "regions", "region"]
theorem scCertText : FnScope ["basin", "rights", "certificate", "plan", "regions", "region"] ["basin", "rights", "certificate"] (defScope sCertText) := ⟨rfl, rfl, rfl, by decide +kernel, rfl, by decide +kernel, by decide +kernel⟩
theorem bdCertText {K : PySem.W.Frag} {f : Addr} {fd : FuncData} (F : FnP K "certificate_text" sCertText f fd) : Binds K fd ["basin", "rights", "certificate"] [] := F.bindsN fun _ _ _ _ _ _ us hl => match us, hl with | [_, _, _], _ => rfl
abbrev sReadRow : Stmt := topS 21
abbrev nReadRow : List Str := ["basin", "head", "line", "pieces", "piece"]
theorem scReadRow : FnScope ["basin", "head", "line", "pieces", "piece"] ["basin", "head", "line"] (defScope sReadRow) := ⟨rfl, rfl, rfl, by decide +kernel, rfl, by decide +kernel, by decide +kernel⟩
theorem bdReadRow {K : PySem.W.Frag} {f : Addr} {fd : FuncData} (F : FnP K "read_row" sReadRow f fd) : Binds K fd ["basin", "head", "line"] [] := F.bindsN fun _ _ _ _ _ _ us hl => match us, hl with | [_, _, _], _ => rfl
abbrev sReadCell : Stmt := topS 22
abbrev nReadCell : List Str := ["basin", "piece", "sides", "month"]
theorem scReadCell : FnScope ["basin", "piece", "sides", "month"] ["basin", "piece"] (defScope sReadCell) := ⟨rfl, rfl, rfl, by decide +kernel, rfl, by decide +kernel, by decide +kernel⟩
theorem bdReadCell {K : PySem.W.Frag} {f : Addr} {fd : FuncData} (F : FnP K "read_cell" sReadCell f fd) : Binds K fd ["basin", "piece"] [] := F.bindsN fun _ _ _ _ _ _ us hl => match us, hl with | [_, _], _ => rfl
abbrev sReadRegion : Stmt := topS 23
abbrev nReadRegion : List Str := ["basin", "line", "pieces", "every", "region", "places", "piece", "cell"]
theorem scReadRegion : FnScope ["basin", "line", "pieces", "every", "region", "places", "piece", "cell"] ["basin", "line"] (defScope sReadRegion) := ⟨rfl, rfl, rfl, by decide +kernel, rfl, by decide +kernel, by decide +kernel⟩
theorem bdReadRegion {K : PySem.W.Frag} {f : Addr} {fd : FuncData} (F : FnP K "read_region" sReadRegion f fd) : Binds K fd ["basin", "line"] [] := F.bindsN fun _ _ _ _ _ _ us hl => match us, hl with | [_, _], _ => rfl
abbrev sReadLines : Stmt := topS 24
abbrev nReadLines : List Str := ["basin", "rights", "lines", "expected", "rows", "regions", "at", "line"]
theorem scReadLines : FnScope ["basin", "rights", "lines", "expected", "rows", "regions", "at", "line"] ["basin", "rights", "lines"] (defScope sReadLines) := ⟨rfl, rfl, rfl, by decide +kernel, rfl, by decide +kernel, by decide +kernel⟩
theorem bdReadLines {K : PySem.W.Frag} {f : Addr} {fd : FuncData} (F : FnP K "read_lines" sReadLines f fd) : Binds K fd ["basin", "rights", "lines"] [] := F.bindsN fun _ _ _ _ _ _ us hl => match us, hl with | [_, _, _], _ => rfl
abbrev sParsePlan : Stmt := topS 25
abbrev nParsePlan : List Str := ["basin", "rights", "text", "lines", "many", "rows", "_"]
theorem scParsePlan : FnScope ["basin", "rights", "text", "lines", "many", "rows", "_"] ["basin", "rights", "text"] (defScope sParsePlan) := ⟨rfl, rfl, rfl, by decide +kernel, rfl, by decide +kernel, by decide +kernel⟩
theorem bdParsePlan {K : PySem.W.Frag} {f : Addr} {fd : FuncData} (F : FnP K "parse_plan" sParsePlan f fd) : Binds K fd ["basin", "rights", "text"] [] := F.bindsN fun _ _ _ _ _ _ us hl => match us, hl with | [_, _, _], _ => rfl
abbrev sParseCert : Stmt := topS 26
abbrev nParseCert : List Str := ["basin", "rights", "text", "rows", "regions"]
theorem scParseCert : FnScope ["basin", "rights", "text", "rows", "regions"] ["basin", "rights", "text"] (defScope sParseCert) := ⟨rfl, rfl, rfl, by decide +kernel, rfl, by decide +kernel, by decide +kernel⟩
theorem bdParseCert {K : PySem.W.Frag} {f : Addr} {fd : FuncData} (F : FnP K "parse_certificate" sParseCert f fd) : Binds K fd ["basin", "rights", "text"] [] := F.bindsN fun _ _ _ _ _ _ us hl => match us, hl with | [_, _, _], _ => rfl
abbrev sLCell : Stmt := topS 29
abbrev nLCell : List Str := ["_law_script", "_law_k"]
theorem scLCell : FnScope ["_law_script", "_law_k"] ["_law_script", "_law_k"] (defScope sLCell) := ⟨rfl, rfl, rfl, by decide +kernel, rfl, by decide +kernel, by decide +kernel⟩
theorem bdLCell {K : PySem.W.Frag} {f : Addr} {fd : FuncData} (F : FnP K "_law_cell" sLCell f fd) : Binds K fd ["_law_script", "_law_k"] [] := F.bindsN fun _ _ _ _ _ _ us hl => match us, hl with | [_, _], _ => rfl
abbrev sLSame : Stmt := topS 31
abbrev nLSame : List Str := ["_law_actual", "_law_due"]
theorem scLSame : FnScope ["_law_actual", "_law_due"] ["_law_actual", "_law_due"] (defScope sLSame) := ⟨rfl, rfl, rfl, by decide +kernel, rfl, by decide +kernel, by decide +kernel⟩
theorem bdLSame {K : PySem.W.Frag} {f : Addr} {fd : FuncData} (F : FnP K "_law_same" sLSame f fd) : Binds K fd ["_law_actual", "_law_due"] [] := F.bindsN fun _ _ _ _ _ _ us hl => match us, hl with | [_, _], _ => rfl
abbrev sLDigits : Stmt := topS 32
abbrev nLDigits : List Str := ["_law_script", "_law_first", "_law_last", "_law_digits_here", "_law_k", "_law_cell_here", "_law_turn", "_law_seed"]
theorem scLDigits : FnScope ["_law_script", "_law_first", "_law_last", "_law_digits_here", "_law_k", "_law_cell_here", "_law_turn", "_law_seed"] ["_law_script", "_law_first", "_law_last"] (defScope sLDigits) := ⟨rfl, rfl, rfl, by decide +kernel, rfl, by decide +kernel, by decide +kernel⟩
theorem bdLDigits {K : PySem.W.Frag} {f : Addr} {fd : FuncData} (F : FnP K "_law_digits" sLDigits f fd) : Binds K fd ["_law_script", "_law_first", "_law_last"] [] := F.bindsN fun _ _ _ _ _ _ us hl => match us, hl with | [_, _, _], _ => rfl
abbrev sLDraw : Stmt := topS 33
abbrev nLDraw : List Str := ["_law_box", "_law_many", "_law_at"]
theorem scLDraw : FnScope ["_law_box", "_law_many", "_law_at"] ["_law_box", "_law_many"] (defScope sLDraw) := ⟨rfl, rfl, rfl, by decide +kernel, rfl, by decide +kernel, by decide +kernel⟩
theorem bdLDraw {K : PySem.W.Frag} {f : Addr} {fd : FuncData} (F : FnP K "_law_draw" sLDraw f fd) : Binds K fd ["_law_box", "_law_many"] [] := F.bindsN fun _ _ _ _ _ _ us hl => match us, hl with | [_, _], _ => rfl
abbrev sLPick : Stmt := topS 34
abbrev nLPick : List Str := ["_law_box", "_law_rows"]
theorem scLPick : FnScope ["_law_box", "_law_rows"] ["_law_box", "_law_rows"] (defScope sLPick) := ⟨rfl, rfl, rfl, by decide +kernel, rfl, by decide +kernel, by decide +kernel⟩
theorem bdLPick {K : PySem.W.Frag} {f : Addr} {fd : FuncData} (F : FnP K "_law_pick" sLPick f fd) : Binds K fd ["_law_box", "_law_rows"] [] := F.bindsN fun _ _ _ _ _ _ us hl => match us, hl with | [_, _], _ => rfl
abbrev sLAmount : Stmt := topS 35
abbrev nLAmount : List Str := ["_law_box"]
theorem scLAmount : FnScope ["_law_box"] ["_law_box"] (defScope sLAmount) := ⟨rfl, rfl, rfl, by decide +kernel, rfl, by decide +kernel, by decide +kernel⟩
theorem bdLAmount {K : PySem.W.Frag} {f : Addr} {fd : FuncData} (F : FnP K "_law_amount" sLAmount f fd) : Binds K fd ["_law_box"] [] := F.bindsN fun _ _ _ _ _ _ us hl => match us, hl with | [_], _ => rfl
abbrev sLBasin : Stmt := topS 36
abbrev nLBasin : List Str := ["_law_box", "_law_months", "_law_many", "_law_names", "_law_sites", "_law_s", "_law_following", "_law_travel", "_law_reach", "_law_room", "_law_held", "_law_k"]
theorem scLBasin : FnScope ["_law_box", "_law_months", "_law_many", "_law_names", "_law_sites", "_law_s", "_law_following", "_law_travel", "_law_reach", "_law_room", "_law_held", "_law_k"] ["_law_box"] (defScope sLBasin) := ⟨rfl, rfl, rfl, by decide +kernel, rfl, by decide +kernel, by decide +kernel⟩
theorem bdLBasin {K : PySem.W.Frag} {f : Addr} {fd : FuncData} (F : FnP K "_law_basin" sLBasin f fd) : Binds K fd ["_law_box"] [] := F.bindsN fun _ _ _ _ _ _ us hl => match us, hl with | [_], _ => rfl
abbrev sLRights : Stmt := topS 37
abbrev nLRights : List Str := ["_law_box", "_law_basin_here", "_law_found", "_law_name", "_law_k"]
theorem scLRights : FnScope ["_law_box", "_law_basin_here", "_law_found", "_law_name", "_law_k"] ["_law_box", "_law_basin_here"] (defScope sLRights) := ⟨rfl, rfl, rfl, by decide +kernel, rfl, by decide +kernel, by decide +kernel⟩
theorem bdLRights {K : PySem.W.Frag} {f : Addr} {fd : FuncData} (F : FnP K "_law_rights" sLRights f fd) : Binds K fd ["_law_box", "_law_basin_here"] [] := F.bindsN fun _ _ _ _ _ _ us hl => match us, hl with | [_, _], _ => rfl
abbrev sLCells : Stmt := topS 40
abbrev nLCells : List Str := ["_law_basin_here", "_law_found", "_law_m", "_law_s"]
theorem scLCells : FnScope ["_law_basin_here", "_law_found", "_law_m", "_law_s"] ["_law_basin_here"] (defScope sLCells) := ⟨rfl, rfl, rfl, by decide +kernel, rfl, by decide +kernel, by decide +kernel⟩
theorem bdLCells {K : PySem.W.Frag} {f : Addr} {fd : FuncData} (F : FnP K "_law_cells" sLCells f fd) : Binds K fd ["_law_basin_here"] [] := F.bindsN fun _ _ _ _ _ _ us hl => match us, hl with | [_], _ => rfl
abbrev sLReceived : Stmt := topS 41
abbrev nLReceived : List Str := ["_law_basin_here", "_law_plan", "_law_s", "_law_m", "_law_deliveries", "_law_releases", "_law_storages", "_law_site", "_law_total", "_law_k", "_law_other"]
theorem scLReceived : FnScope ["_law_basin_here", "_law_plan", "_law_s", "_law_m", "_law_deliveries", "_law_releases", "_law_storages", "_law_site", "_law_total", "_law_k", "_law_other"] ["_law_basin_here", "_law_plan", "_law_s", "_law_m"] (defScope sLReceived) := ⟨rfl, rfl, rfl, by decide +kernel, rfl, by decide +kernel, by decide +kernel⟩
theorem bdLReceived {K : PySem.W.Frag} {f : Addr} {fd : FuncData} (F : FnP K "_law_received" sLReceived f fd) : Binds K fd ["_law_basin_here", "_law_plan", "_law_s", "_law_m"] [] := F.bindsN fun _ _ _ _ _ _ us hl => match us, hl with | [_, _, _, _], _ => rfl
abbrev sLLed : Stmt := topS 45
abbrev nLLed : List Str := ["_law_box", "_law_basin_here", "_law_rights_here", "_law_deliveries", "_law_site", "_law_releases", "_law_storages", "_law_m", "_law_s", "_law_left", "_law_r", "_law_right", "_law_one"]
theorem scLLed : FnScope ["_law_box", "_law_basin_here", "_law_rights_here", "_law_deliveries", "_law_site", "_law_releases", "_law_storages", "_law_m", "_law_s", "_law_left", "_law_r", "_law_right", "_law_one"] ["_law_box", "_law_basin_here", "_law_rights_here"] (defScope sLLed) := ⟨rfl, rfl, rfl, by decide +kernel, rfl, by decide +kernel, by decide +kernel⟩
theorem bdLLed {K : PySem.W.Frag} {f : Addr} {fd : FuncData} (F : FnP K "_law_led" sLLed f fd) : Binds K fd ["_law_box", "_law_basin_here", "_law_rights_here"] [] := F.bindsN fun _ _ _ _ _ _ us hl => match us, hl with | [_, _, _], _ => rfl
abbrev sLTuples : Stmt := topS 46
abbrev nLTuples : List Str := ["_law_rows", "_law_part", "_law_row"]
theorem scLTuples : FnScope ["_law_rows", "_law_part", "_law_row"] ["_law_rows"] (defScope sLTuples) := ⟨rfl, rfl, rfl, by decide +kernel, rfl, by decide +kernel, by decide +kernel⟩
theorem bdLTuples {K : PySem.W.Frag} {f : Addr} {fd : FuncData} (F : FnP K "_law_tuples" sLTuples f fd) : Binds K fd ["_law_rows"] [] := F.bindsN fun _ _ _ _ _ _ us hl => match us, hl with | [_], _ => rfl
abbrev sLWords : Stmt := topS 47
abbrev nLWords : List Str := ["_law_row", "_law_one"]
theorem scLWords : FnScope ["_law_row", "_law_one"] ["_law_row"] (defScope sLWords) := ⟨rfl, rfl, rfl, by decide +kernel, rfl, by decide +kernel, by decide +kernel⟩
theorem bdLWords {K : PySem.W.Frag} {f : Addr} {fd : FuncData} (F : FnP K "_law_words" sLWords f fd) : Binds K fd ["_law_row"] [] := F.bindsN fun _ _ _ _ _ _ us hl => match us, hl with | [_], _ => rfl
abbrev sLLines : Stmt := topS 48
abbrev nLLines : List Str := ["_law_basin_here", "_law_rights_here", "_law_plan", "_law_lines_here", "_law_r", "_law_s"]
theorem scLLines : FnScope ["_law_basin_here", "_law_rights_here", "_law_plan", "_law_lines_here", "_law_r", "_law_s"] ["_law_basin_here", "_law_rights_here", "_law_plan"] (defScope sLLines) := ⟨rfl, rfl, rfl, by decide +kernel, rfl, by decide +kernel, by decide +kernel⟩
theorem bdLLines {K : PySem.W.Frag} {f : Addr} {fd : FuncData} (F : FnP K "_law_lines" sLLines f fd) : Binds K fd ["_law_basin_here", "_law_rights_here", "_law_plan"] [] := F.bindsN fun _ _ _ _ _ _ us hl => match us, hl with | [_, _, _], _ => rfl
abbrev sLaw : Stmt := topS 49
abbrev nLaw : List Str := ["_law_script", "_law_box", "_law_basin_here", "_law_rights_here", "_law_plan", "_law_lines_here", "_law_text", "_law_regions", "_law_turn", "_law_region", "_law_pair", "_law_cell_here", "_law_s", "_law_m"]
theorem scLaw : FnScope ["_law_script", "_law_box", "_law_basin_here", "_law_rights_here", "_law_plan", "_law_lines_here", "_law_text", "_law_regions", "_law_turn", "_law_region", "_law_pair", "_law_cell_here", "_law_s", "_law_m"] ["_law_script"] (defScope sLaw) := ⟨rfl, rfl, rfl, by decide +kernel, rfl, by decide +kernel, by decide +kernel⟩
theorem bdLaw {K : PySem.W.Frag} {f : Addr} {fd : FuncData} (F : FnP K "law" sLaw f fd) : Binds K fd ["_law_script"] [] := F.bindsN fun _ _ _ _ _ _ us hl => match us, hl with | [_], _ => rfl
end K15
set_option Elab.async false
set_option linter.all false
set_option maxRecDepth 100000
set_option maxHeartbeats 4000000
/-! check, site_number, cells, number_of -/
namespace K15
open PySem PySem.Spec PyProof.Rows L2
section
variable {P : Program} {w : World} {K : PySem.W.Frag} {mg : Str → Option Value} {base : Heap} {f : Addr} {fd : FuncData}
/-! ### check -/
def spCheck : Sp := fun vs H Q _ => vs = [.bl true] ∧ Q .non H
theorem ok_check (D : Df K mg "check" sCheck f fd) : FnOk P w K mg base CX0 1 f fd ["holds"] spCheck := by
  refine okD D.F scCheck (fun vs H Q E h => ?_) (fun cdv A outer s H vs Q E hr h => ?_)
  · obtain ⟨rfl, _⟩ := h
    rfl
  · obtain ⟨rfl, q⟩ := h
    refine ⟨_, pss_one (ps_if (pt_not (pt_val (pv 0))) (pss_one ps_never) pss_nil), ?_⟩
    refine ⟨_, rfl, true, rfl, ?_⟩
    exact iteF q

/-! ### loops over a range, in a comprehension or not -/
theorem rg_walk {lo : Int} {n : Nat} {body : V → Hp → (Hp → Prop) → Prop} {H0 : Hp} {Qd : Hp → Prop} (Pv : Nat → Hp → Prop) (h0 : Pv 0 H0) (hs : ∀ i H, i < n → Pv i H → body (.int (lo + (i : Nat))) H (Pv (i + 1))) (hd : ∀ H, Pv n H → Qd H) :
    ∃ W : Nat → Nat → Hp → Prop, (∃ m, W 0 m H0) ∧ ∀ i m H, W i m H →
      ((Itr lo n).stop i H ∧ Qd H) ∨ ((Itr lo n).go i H ∧ ∃ Nx : Hp → Prop, (∀ H', Nx H' → ∃ m', m' < m ∧ W (i + 1) m' H') ∧ ∀ x H', (Itr lo n).yld i H x H' → body x H' Nx) := by
  refine ⟨fun i m H => m = n - i ∧ i ≤ n ∧ Pv i H, ⟨n, by simp, Nat.zero_le _, h0⟩, ?_⟩
  rintro i m H ⟨rfl, hi, p⟩
  by_cases hlt : i < n
  · refine .inr ⟨hlt, Pv (i + 1), fun H' p' => ⟨n - (i + 1), by omega, rfl, hlt, p'⟩, fun x H' y => ?_⟩
    obtain ⟨rfl, rfl⟩ := y
    exact hs i _ hlt p
  · have e : i = n := by omega
    subst e
    exact .inl ⟨Nat.le_refl _, hd H p⟩

/-! ### cells -/
abbrev rLenS (K : PySem.W.Frag) : List V → Hp → VK → Prop := fun xs H Q => ∃ p ys, xs = [.ref p] ∧ (SqL K H p ys ∨ SqT K H p ys) ∧ Q (.int ys.length) H
def cellsTo (n m : Nat) : List Cell := (List.range m).flatMap fun k => (List.range n).map fun s => (s, k)
def cellsOf (b : Basin) : List Cell := cellsTo b.sites.length b.months
theorem cellsTo_succ (n m : Nat) : cellsTo n (m + 1) = cellsTo n m ++ (List.range n).map fun s => (s, m) := by
  unfold cellsTo
  rw [List.range_succ, List.flatMap_append, List.flatMap_cons, List.flatMap_nil, List.append_nil]
theorem cellsTo_len (n m : Nat) : (cellsTo n m).length = m * n := by
  induction m with
  | zero => simp [cellsTo]
  | succ m ih =>
    rw [cellsTo_succ, List.length_append, ih, List.length_map, List.length_range, Nat.succ_mul]
/-- a list of cells stands at p -/
def CellsL (H : Hp) (p : Addr) (cs : List Cell) : Prop := ∃ xs, H p = some (.lst xs) ∧ Paired (CellAt H) xs cs
theorem CellsL.snoc {H H' : Hp} {p : Addr} {cs : List Cell} {v : V} {c : Cell} (h : CellsL H p cs) (k : Kx [] H H') (hc : CellAt H' v c) : ∃ xs, H' p = some (.lst xs) ∧ xs.length = cs.length ∧ CellsL (upd H' p (.lst (xs ++ [v]))) p (cs ++ [c]) := by
  obtain ⟨xs, e, pr⟩ := h
  have e1 := k.lst0 e
  have kk : Kx [p] H' (upd H' p (.lst (xs ++ [v]))) := (Kx.refl [p] H').mut (by simp) e1
  refine ⟨xs, e1, pr.length, xs ++ [v], upd_same, papp (pr.mono fun _ _ z => kk.cell (k.cell z)) (.cons (kk.cell hc) .nil)⟩
def spCells : Sp := fun vs H Q _ => ∃ (bv : V) (b : Basin), vs = [bv] ∧ BasinAt H bv b ∧ b.months ≤ 4 ∧ b.sites.length ≤ 4 ∧ ∀ H' p, Kx [] H H' → H p = none → CellsL H' p (cellsOf b) → Q (.ref p) H'
theorem ok_cells (D : Df K mg "cells" sCells f fd) (mR : mg "range" = none) (mL : mg "len" = none) : FnOk P w K mg base CX0 1 f fd ["basin"] spCells := by
  refine okD D.F scCells (fun vs H Q E h => ?_) (fun cdv A outer s H vs Q E hr h => ?_)
  · obtain ⟨bv, b, rfl, _⟩ := h
    rfl
  · obtain ⟨bv, b, rfl, hb, hm4, hn4, q⟩ := h
    refine ⟨_, pss_cons (ps_asg (pv 0) (pg_tup rfl (pgs_cons (pg_name (i := 1) scCells.nd rfl (.inl rfl)) (pgs_cons (pg_name (i := 2) scCells.nd rfl (.inr rfl)) pgs_nil))))
      (pss_one (ps_ret (pe_lc2 (own := [("month", 3), ("number", 4)]) (vs1 := [4]) (g := gName 3) (tt := tYes) (g1 := gName 4) (tt1 := tYes) rfl scCells.nd (pi_range1 (by rfl) mR (pa_cons (pv 1) pa_nil))
        (blkOk_by (N := nCells) (sc := defScope sCells) (by decide +kernel)) (by decide) (fun _ _ _ _ _ => pg_name (i := 3) scCells.nd rfl (.inl rfl)) (fun _ _ _ _ _ => pts_nil)
        (fun _ _ _ _ _ => pi_range1 (by rfl) mR (pa_cons (pe_callB (r := rLenS K) call_len_seq (by rfl) mL PySem.boot_len (pa_cons (pv 2) pa_nil)) pa_nil))
        (fun _ _ _ _ _ => pg_name (i := 4) scCells.nd rfl (.inl rfl)) (fun _ _ _ _ _ => pts_nil)
        (fun _ _ _ _ _ => pe_tup (pa_cons (pv 4) (pa_cons (pv 3) pa_nil)))))), ?_⟩
    obtain ⟨a, x, rfl, ha, c, ys, rfl, hc, hp⟩ := hb
    refine ⟨_, rfl, a, _, rfl, SqT.of ha, rfl, _, _, rfl, _, _, rfl, rfl, ?_⟩
    refine ⟨_, rfl, _, rfl, by omega, by omega, fun D hD => ?_⟩
    have hl := hp.length
    have hDc : D ≠ c := fun z => by rw [z, hc] at hD; cases hD
    refine rg_walk (fun i H' => Kx [] H H' ∧ CellsL H' D (cellsTo b.sites.length i)) ⟨(Kx.refl _ _).new hD, [], upd_same, .nil⟩ (fun i H' hi hP => ?_) (fun H' hP => ?_)
    · refine ⟨rfl, ?_⟩
      obtain ⟨kx, hcl⟩ := hP
      refine ⟨_, rfl, c, ys, rfl, .inr (SqT.of (kx.tu _ _ hc)), _, rfl, by omega, by omega, ?_⟩
      rw [Int.toNat_natCast]
      refine rg_walk (fun j H' => Kx [] H H' ∧ CellsL H' D (cellsTo b.sites.length i ++ (List.range j).map fun s => (s, i))) ⟨kx, by simpa using hcl⟩ (fun j H'' hj hP2 => ?_) (fun H'' hP2 => ?_)
      · obtain ⟨kx2, hcl2⟩ := hP2
        refine ⟨rfl, ?_⟩
        refine ⟨_, rfl, _, rfl, by show 2 ≤ sizeLine; decide, fun T hT => ?_⟩
        have kT : Kx [] H'' (upd H'' T (.tup [.int (0 + (j : Nat)), .int (0 + (i : Nat))])) := (Kx.refl _ _).laid hT
        obtain ⟨xs, e1, e2, e3⟩ := hcl2.snoc (v := .ref T) (c := (j, i)) kT ⟨T, rfl, by rw [upd_same, Int.zero_add, Int.zero_add]⟩
        refine ⟨xs, e1, ?_, (kx2.trans kT).new hD, ?_⟩
        · rw [e2, List.length_append, cellsTo_len, List.length_map, List.length_range]
          have : i * b.sites.length ≤ 4 * 4 := Nat.mul_le_mul (by omega) hn4
          exact small1000 (by omega)
        · rw [List.range_succ, List.map_append, ← List.append_assoc]
          exact e3
      · rw [hl] at hP2
        rw [cellsTo_succ]
        exact hP2
    · rw [Int.toNat_natCast] at hP
      exact q H' D hP.1 hD hP.2

/-! ### site_number -/
def spSite : Sp := fun vs H Q _ => ∃ (bv : V) (b : Basin) (nm : Str) (i : Nat) (s : Site), vs = [bv, .str nm] ∧ BasinAt H bv b ∧ b.sites[i]? = some s ∧ s.name = nm ∧ (∀ j t, b.sites[j]? = some t → t.name = nm → j = i) ∧
  ∀ H', Kx [] H H' → Q (.int (i : Nat)) H'
theorem ok_site (D : Df K mg "site_number" sSiteNumber f fd) (mE : mg "enumerate" = none) {t0 : Tok} (mN : mg "NAME" = some (.int 0 t0)) : FnOk P w K mg base CX0 1 f fd ["basin", "name"] spSite := by
  refine okD D.F scSiteNumber (fun vs H Q E h => ?_) (fun cdv A outer s H vs Q E hr h => ?_)
  · obtain ⟨bv, b, nm, i, s, rfl, _⟩ := h
    rfl
  · obtain ⟨bv, b, nm, i, st, rfl, hb, hi, hnm, huq, q⟩ := h
    refine ⟨_, pss_cons (ps_for PassesOwn.never rfl (pi_enumT (by rfl) mE (pa_cons (pe_ix ix_tup (pv 0) pe_int (fun _ _ => rfl)) pa_nil))
        (pg_tup rfl (pgs_cons (pg_name (i := 2) scSiteNumber.nd rfl (.inl rfl)) (pgs_cons (pg_name (i := 3) scSiteNumber.nd rfl (.inl rfl)) pgs_nil)))
        (pss_one (ps_if (pt_cmpR op_eq (pe_ix ix_tup (pv 3) (pe_glob (v := .int 0) (by rfl) mN ⟨_, rfl⟩) (fun _ _ => rfl)) (pv 1) (nomark _)) (pss_one (ps_ret (pv 2))) pss_nil)))
      (pss_one (ps_ret pe_non)), ?_⟩
    obtain ⟨a, x, rfl, ha, c, ys, rfl, hc, hp⟩ := hb
    refine ⟨_, rfl, a, _, 1, _, rfl, rfl, SqT.of ha, atI_nat (j := 1) rfl, c, ys, rfl, SqT.of hc, ?_⟩
    refine for_enumT (xs := ys) (fun j σ H' => Kx [] H H' ∧ j ≤ i ∧ ∃ y2 y3, σ = [some (.ref a), some (.str nm), y2, y3]) ⟨Kx.refl _ _, Nat.zero_le _, none, none, rfl⟩ (fun j σ H' hP => SqT.of (hP.1.tu _ _ hc)) (fun j x T σ H' hx hP hT => ?_) (fun σ H' hP => ?_)
    · obtain ⟨kx, hji, y2, y3, rfl⟩ := hP
      obtain ⟨sj, hsj, a2, f2, rfl, h2, hr2⟩ := pgetL hp hx
      have kx2 : Kx [] H (upd H' T (.tup [.int (j : Nat), .ref a2])) := kx.laid hT
      refine ⟨T, _, rfl, SqT.of upd_same, rfl, _, _, rfl, _, _, rfl, rfl, ?_⟩
      have h2' := kx2.tu _ _ h2
      refine ⟨_, rfl, a2, _, 0, _, rfl, rfl, SqT.of h2', atI_nat (j := 0) rfl, _, rfl, rfl, _, rfl, ?_⟩
      refine ite2 (fun e => ?_) (fun e => ?_)
      · have e1 : sj.name = nm := V.str.inj (of_decide_eq_true e)
        have e2 := huq j sj hsj e1
        subst e2
        exact ⟨_, rfl, q _ kx2⟩
      · refine ⟨kx2, ?_, _, _, rfl⟩
        by_cases hlt : j < i
        · exact hlt
        · have e2 : j = i := by omega
          subst e2
          rw [hi] at hsj
          cases hsj
          exact absurd (decide_eq_true (by rw [hnm])) e
    · exfalso
      have := hP.2.1
      have h1 := (List.getElem?_eq_some_iff.mp hi).1
      have h2 := hp.length
      omega

/-! ### number_of -/
def sDig : Str := "0123456789"
theorem dig_in (c : Nat) : decide (c ∈ sDig.cps.toList) = decide (48 ≤ c ∧ c ≤ 57) := by
  have e : sDig.cps.toList = [48, 49, 50, 51, 52, 53, 54, 55, 56, 57] := by decide +kernel
  rw [e]
  apply decide_eq_decide.mpr
  simp only [List.mem_cons, List.not_mem_nil, or_false]
  omega
def spNum (T1 : Addr) : Sp := fun vs H Q _ => ∃ i : Int, vs = [.str (numS i)] ∧ 0 ≤ i ∧ i ≤ 9999 ∧ GxR.TabG H T1 ∧ ∀ H', Kx [] H H' → Q (.int i) H'
theorem iteD {c A B : Prop} [Decidable c] (h : c) (hA : A) : if decide c = true then A else B := by
  rw [if_pos (decide_eq_true h)]
  exact hA
theorem iteDn {c A B : Prop} [Decidable c] (h : ¬ c) (hB : B) : if decide c = true then A else B := by
  rw [decide_eq_false h]
  exact iteF hB
theorem ok_num {c T1 f1 : Addr} {fd1 : FuncData} {tz t4 : Tok} (D : Df K mg "number_of" sNumberOf f fd) (hc : fd.code = .ref c) (TB : GxR.TabB base mg c T1) (D1 : Df K mg "check" sCheck f1 fd1)
    (mL : mg "len" = none) (mA : mg "all" = none) (mI : mg "int" = none) (mD : mg "DIGITS" = some (.str sDig tz)) (m4 : mg "NUMBER_DIGITS" = some (.int 4 t4)) : FnOk P w K mg base CX0 2 f fd ["piece"] (spNum T1) := by
  have G1 : FnOk P w K mg base CX0 1 f1 fd1 ["holds"] spCheck := ok_check D1
  refine okDc D.F hc scNumberOf (fun vs H Q E h => ?_) (fun A outer s H vs Q E hr h => ?_)
  · obtain ⟨i, rfl, _⟩ := h
    rfl
  · obtain ⟨i, rfl, h0, h1, hT, q⟩ := h
    refine ⟨_, pss_cons (ps_expr (pe_call G1 hr (by rfl) D1.g D1.F.kp (bdCheck D1.F) .nil pass0 (pa_cons
        (pe_and (pe_chain op_le op_le pe_int (pe_callB call_len_str (by rfl) mL PySem.boot_len (pa_cons (pv 0) pa_nil)) (pe_glob (v := .int 4) (by rfl) m4 ⟨_, rfl⟩))
          (pe_one (pe_allIn hr (by rfl) mA TB rfl ⟨rfl, rfl, by decide, rfl, rfl, fun y hy e => absurd e ((by decide : ∀ y ∈ _, y.2 ≠ .free) y hy)⟩ (pv 0) mD (by rfl) (fun _ => by rfl)))) pa_nil)))
      (pss_cons (ps_expr (pe_call G1 hr (by rfl) D1.g D1.F.kp (bdCheck D1.F) .nil pass0 (pa_cons
        (pe_or (pe_cmpR op_eq (pv 0) pe_str (nomark _)) (pe_one (pe_cmpR op_ne (pe_ix ix_str (pv 0) pe_int (fun _ _ => rfl)) pe_str (nomark _)))) pa_nil)))
      (pss_one (ps_ret (pe_callTy call_int_str (by rfl) mI (by decide +kernel) (pa_cons (pv 0) pa_nil))))), ?_⟩
    obtain ⟨l1, l4⟩ := numS_len h0 h1
    have lz : (4 : Nat) ≤ sizeLine := by decide
    have hall : ((numS i).cps.toList.all fun c => decide (c ∈ sDig.cps.toList)) = true := by
      rw [List.all_eq_true]
      intro x hx
      rw [dig_in]
      exact decide_eq_true (numS_dig h0 x hx)
    -- the first check
    refine ⟨_, rfl, numS i, rfl, by omega, _, _, rfl, rfl, _, rfl, iteD (by omega) ?_⟩
    refine ⟨_, _, rfl, rfl, _, rfl, iteD (by omega) ?_⟩
    refine ⟨_, rfl, numS i, rfl, hT, fun H2 h2 => ⟨by rw [hall]; rfl, ?_⟩⟩
    have k2 : Kx [] H H2 := (Kx.refl [] H).tab hT h2
    -- the second
    refine ⟨_, rfl, rfl, _, rfl, ?_⟩
    by_cases e0 : i = 0
    · subst e0
      refine iteD (by rw [numS_zero]) ⟨rfl, ?_⟩
      refine ⟨_, rfl, numS 0, 0, rfl, numS_int (by omega) (by omega), by omega, q _ k2⟩
    · obtain ⟨c0, r0, ec, hc0⟩ := numS_first h0 e0
      have hne : numS i ≠ ("0" : Str) := fun z => by
        have e1 : TL.tl (numS i) = [48] := by rw [z]; decide +kernel
        rw [ec] at e1
        cases e1
        exact hc0 rfl
      refine iteDn (fun z => hne (V.str.inj z)) ?_
      refine ⟨_, rfl, numS i, 0, c0, rfl, rfl, by omega, atI_nat (j := 0) (by show (TL.tl (numS i))[0]? = _; rw [ec]; rfl), rfl, ?_⟩
      have hne2 : V.str ⟨#[c0]⟩ ≠ V.str ("0" : Str) := fun z => by
        have e1 : TL.tl (⟨#[c0]⟩ : Str) = [48] := by rw [V.str.inj z]; decide +kernel
        have e2 : [c0] = [48] := e1
        cases e2
        exact hc0 rfl
      refine ⟨by rw [decide_eq_false hne2]; rfl, ?_⟩
      refine ⟨_, rfl, numS i, i, rfl, numS_int h0 h1, by omega, q _ k2⟩
end
end K15
set_option Elab.async false
set_option linter.all false
set_option maxRecDepth 100000
set_option maxHeartbeats 4000000
/-! heads, rows_of, plan_of, plan_lines, region_line, plan_text, certificate_text -/
namespace K15
open PySem PySem.Spec PyProof.Rows L2
/-! ### lists of objects that grow -/
structure Stb {α : Type} (R : Hp → V → α → Prop) : Prop where
  st : ∀ {H H' : Hp} {v : V} {y : α}, Kx [] H H' → R H v y → R H' v y
  up : ∀ {H : Hp} {p : Addr} {xs ys : List V} {v : V} {y : α}, H p = some (.lst xs) → (∀ x ∈ xs, ∃ a, x = .ref a) → R H v y → R (upd H p (.lst ys)) v y
  rf : ∀ {H : Hp} {v : V} {y : α}, R H v y → ∃ a, v = .ref a
def ListR {α : Type} (R : Hp → V → α → Prop) (H : Hp) (p : Addr) (l : List α) : Prop := ∃ xs, H p = some (.lst xs) ∧ Paired (R H) xs l
theorem refs_of {α : Type} {R : Hp → V → α → Prop} {H : Hp} (S : Stb R) : ∀ {xs : List V} {l : List α}, Paired (R H) xs l → ∀ x ∈ xs, ∃ a, x = .ref a
  | _, _, .nil, x, hx => by simp at hx
  | _, _, .cons r t, x, hx => by
    rcases List.mem_cons.mp hx with rfl | hx
    · exact S.rf r
    · exact refs_of S t x hx
theorem ListR.snoc {α : Type} {R : Hp → V → α → Prop} {H H' : Hp} {p : Addr} {l : List α} {v : V} {y : α} (S : Stb R) (h : ListR R H p l) (k : Kx [] H H') (hv : R H' v y) :
    ∃ xs, H' p = some (.lst xs) ∧ xs.length = l.length ∧ ListR R (upd H' p (.lst (xs ++ [v]))) p (l ++ [y]) := by
  obtain ⟨xs, e, pr⟩ := h
  have e1 := k.lst0 e
  have rs := refs_of S pr
  exact ⟨xs, e1, pr.length, xs ++ [v], upd_same, papp (pr.mono fun _ _ z => S.up e1 rs (S.st k z)) (.cons (S.up e1 rs hv) .nil)⟩
theorem ListR.kx {α : Type} {R : Hp → V → α → Prop} {H H' : Hp} {p : Addr} {l : List α} (S : Stb R) (h : ListR R H p l) (k : Kx [] H H') : ListR R H' p l := by
  obtain ⟨xs, e, pr⟩ := h
  exact ⟨xs, k.lst0 e, pr.mono fun _ _ z => S.st k z⟩
theorem ListR.new {α : Type} {R : Hp → V → α → Prop} {H : Hp} {p : Addr} : ListR R (upd H p (.lst [])) p [] := ⟨[], upd_same, .nil⟩
theorem tup_up {H : Hp} {p a : Addr} {xs ys zs : List V} (e : H p = some (.lst xs)) (h : H a = some (.tup zs)) : upd H p (.lst ys) a = some (.tup zs) := by
  rw [upd_ne (ne_of h e (by intro z; cases z))]
  exact h
theorem kup {H : Hp} {p : Addr} {xs ys : List V} (e : H p = some (.lst xs)) : Kx [p] H (upd H p (.lst ys)) := (Kx.refl [p] H).mut (by simp) e
theorem stb_row : Stb RowAt := ⟨fun k h => k.row h, fun e _ h => (kup e).row h, fun h => by obtain ⟨a, e, _⟩ := h; exact ⟨a, e⟩⟩
theorem stb_site : Stb SiteAt := ⟨fun k h => k.site h, fun e _ h => (kup e).site h, fun h => by obtain ⟨a, _, e, _⟩ := h; exact ⟨a, e⟩⟩
theorem stb_right : Stb RightAt := ⟨fun k h => k.right h, fun e _ h => (kup e).right h, fun h => by obtain ⟨a, _, e, _⟩ := h; exact ⟨a, e⟩⟩
theorem stb_cell : Stb CellAt := ⟨fun k h => k.cell h, fun e _ h => (kup e).cell h, fun h => by obtain ⟨a, e, _⟩ := h; exact ⟨a, e⟩⟩
theorem stb_reg : Stb RegAt := ⟨fun k h => k.reg h, fun e _ h => (kup e).reg h, fun h => by obtain ⟨a, _, e, _⟩ := h; exact ⟨a, e⟩⟩
theorem stb_rows : Stb RowsAt := ⟨fun k h => k.rows h, fun e _ h => (kup e).rows h, fun h => by obtain ⟨a, _, e, _⟩ := h; exact ⟨a, e⟩⟩
def HeadAt (H : Hp) (v : V) (h : Str × Str) : Prop := ∃ a, v = .ref a ∧ H a = some (.lst [.str h.1, .str h.2])
theorem stb_head : Stb HeadAt := by
  refine ⟨fun k h => ?_, fun {H p xs ys v y} e hx h => ?_, fun h => ?_⟩
  · obtain ⟨a, e, h⟩ := h
    exact ⟨a, e, k.lst0 h⟩
  · obtain ⟨a, ev, h⟩ := h
    refine ⟨a, ev, ?_⟩
    rw [upd_ne (fun z => ?_)]
    · exact h
    · rw [z, e] at h
      cases h
      obtain ⟨b, hb⟩ := hx _ List.mem_cons_self
      cases hb
  · obtain ⟨a, e, _⟩ := h
    exact ⟨a, e⟩

section
variable {P : Program} {w : World} {K : PySem.W.Frag} {mg : Str → Option Value} {base : Heap} {f : Addr} {fd : FuncData}
/-! ### heads -/
theorem headsOf_len (b : Basin) (rs : List Rt) : (headsOf b rs).length = rs.length + 2 * b.sites.length := by
  unfold headsOf
  rw [List.length_append, List.length_map]
  congr 1
  induction b.sites with
  | nil => rfl
  | cons s r ih =>
    rw [List.flatMap_cons, List.length_append, ih]
    simp only [List.length_cons, List.length_nil]
    omega
def spHeads : Sp := fun vs H Q _ => ∃ (bv rv : V) (b : Basin) (rs : List Rt), vs = [bv, rv] ∧ BasinAt H bv b ∧ RightsAt H rv rs ∧ b.sites.length ≤ 4 ∧ rs.length ≤ 4 ∧ ∀ H' p, Kx [] H H' → H p = none → ListR HeadAt H' p (headsOf b rs) → Q (.ref p) H'
theorem ok_heads {tN : Tok} (D : Df K mg "heads" sHeads f fd) (mN : mg "NAME" = some (.int 0 tN)) : FnOk P w K mg base CX0 1 f fd ["basin", "rights"] spHeads := by
  refine okD D.F scHeads (fun vs H Q E h => ?_) (fun cdv A outer s H vs Q E hr h => ?_)
  · obtain ⟨bv, rv, b, rs, rfl, _⟩ := h
    rfl
  · obtain ⟨bv, rv, b, rs, rfl, hb, hrt, hn4, hr4, q⟩ := h
    have sm : ∀ {X : Cx} {e : Expr} {te : TE} {p1 p2 p3 p4 p5 : Pos} {nm : Str} {i : Nat}, True := trivial
    refine ⟨_, pss_cons (ps_setLc (i := 2) (own := [("right", 4)]) (g := gName 4) (tt := tYes) rfl scHeads.nd rfl rfl (sw_true rfl rfl rfl (by decide +kernel)) (pi_tup (pv 1))
        (blkOk_by (N := nHeads) (sc := defScope sHeads) (by decide +kernel)) (fun _ _ _ _ _ => pg_name (i := 4) scHeads.nd rfl (.inl rfl)) (fun _ _ _ _ _ => pts_nil)
        (fun _ _ _ _ _ => pe_lst (pa_cons pe_str (pa_cons (pe_ix (r := rIxT K) ix_tup (pv 4) pe_int (fun _ _ => rfl)) pa_nil))))
      (pss_cons (ps_for PassesOwn.never rfl (pi_tup (pe_ix ix_tup (pv 0) pe_int (fun _ _ => rfl))) (pg_name (i := 3) scHeads.nd rfl (.inl rfl))
        (pss_cons (ps_expr (pe_bm PySem.F.plainAttrs_list PySem.F.slot_list_append PySem.F.type_list_append mt_append (pv 2) (pa_cons (pe_lst (pa_cons pe_str (pa_cons (pe_ix ix_tup (pv 3) (pe_glob (v := .int 0) (by rfl) mN ⟨_, rfl⟩) (fun _ _ => rfl)) pa_nil))) pa_nil)))
        (pss_one (ps_expr (pe_bm PySem.F.plainAttrs_list PySem.F.slot_list_append PySem.F.type_list_append mt_append (pv 2) (pa_cons (pe_lst (pa_cons pe_str (pa_cons (pe_ix ix_tup (pv 3) (pe_glob (v := .int 0) (by rfl) mN ⟨_, rfl⟩) (fun _ _ => rfl)) pa_nil))) pa_nil))))))
      (pss_one (ps_ret (pv 2)))), ?_⟩
    obtain ⟨a, x, rfl, ha, c, ys, rfl, hc, hp⟩ := hb
    obtain ⟨ra, rxs, rfl, hra, hrp⟩ := hrt
    refine ⟨_, rfl, ra, rfl, ⟨_, SqT.of hra⟩, fun L hL => ?_⟩
    refine lc_tup (xs := rxs) (fun i H' => Kx [] H H' ∧ ListR HeadAt H' L ((rs.take i).map fun r => (wGive, r.name))) ⟨(Kx.refl _ _).new hL, .new⟩ (fun i H' _ hP => SqT.of (hP.1.tu _ _ hra)) (fun i x H' hx hP => ?_) (fun H' hP => ?_)
    · obtain ⟨kx, hl⟩ := hP
      obtain ⟨r, hri, a2, f2, rfl, h2, _⟩ := pgetL hrp hx
      refine ⟨rfl, ?_⟩
      refine ⟨_, rfl, a2, _, 0, _, rfl, rfl, SqT.of (kx.tu _ _ h2), atI_nat (j := 0) rfl, by show 2 ≤ sizeLine; decide, fun T hT => ?_⟩
      have kT : Kx [] H' (upd H' T (.lst [.str "give", .str r.name])) := (Kx.refl _ _).laid hT
      obtain ⟨xs, e1, e2, e3⟩ := hl.snoc stb_head (v := .ref T) (y := (wGive, r.name)) kT ⟨T, rfl, upd_same⟩
      refine ⟨xs, e1, ?_, (kx.trans kT).new hL, ?_⟩
      · rw [e2, List.length_map, List.length_take]
        exact small1000 (by omega)
      · rw [List.take_add_one, hri, List.map_append]
        exact e3
    · rw [hrp.length, List.take_length] at hP
      obtain ⟨kx, hl⟩ := hP
      refine ⟨_, rfl, a, _, 1, _, rfl, rfl, SqT.of (kx.tu _ _ ha), atI_nat (j := 1) rfl, c, rfl, ⟨_, SqT.of (kx.tu _ _ hc)⟩, ?_⟩
      refine for_tup (xs := ys) (fun i σ H' => Kx [] H H' ∧ ListR HeadAt H' L (rs.map (fun r => (wGive, r.name)) ++ (b.sites.take i).flatMap fun s => [(wLet, s.name), (wStore, s.name)]) ∧ ∃ y3, σ = [some (.ref a), some (.ref ra), some (.ref L), y3, none])
        ⟨kx, by simpa using hl, none, rfl⟩ (fun i σ H' _ hP => SqT.of (hP.1.tu _ _ hc)) (fun i x σ H' hx hP => ?_) (fun σ H' hP => ?_)
      · obtain ⟨kx, hl, y3, rfl⟩ := hP
        obtain ⟨st, hsi, a2, f2, rfl, h2, _⟩ := pgetL hp hx
        have hlen := hl.choose_spec.1
        refine ⟨.ref L, rfl, .inl ⟨rfl, _, SqL.of hlen⟩, _, rfl, a2, _, 0, _, rfl, rfl, SqT.of (kx.tu _ _ h2), atI_nat (j := 0) rfl, by show 2 ≤ sizeLine; decide, fun T hT => ?_⟩
        have kT : Kx [] H' (upd H' T (.lst [.str "let", .str st.name])) := (Kx.refl _ _).laid hT
        obtain ⟨xs, e1, e2, e3⟩ := hl.snoc stb_head (v := .ref T) (y := (wLet, st.name)) kT ⟨T, rfl, upd_same⟩
        have blen : (b.sites.take i).length ≤ 4 := by rw [List.length_take]; omega
        have flen : ∀ l : List Site, (l.flatMap fun s => [(wLet, s.name), (wStore, s.name)]).length = 2 * l.length := by
          intro l
          induction l with
          | nil => rfl
          | cons z r ih =>
            rw [List.flatMap_cons, List.length_append, ih]
            simp only [List.length_cons, List.length_nil]
            omega
        have e2' : xs.length ≤ 12 := by
          rw [e2, List.length_append, List.length_map, flen]
          omega
        refine ⟨L, xs, _, rfl, rfl, e1, small1000 (by omega), ?_⟩
        have k1 : Kx [] H (upd (upd H' T (.lst [.str "let", .str st.name])) L (.lst (xs ++ [.ref T]))) := (kx.trans kT).new hL
        refine ⟨.ref L, rfl, .inl ⟨rfl, _, SqL.of upd_same⟩, _, rfl, a2, _, 0, _, rfl, rfl, SqT.of (k1.tu _ _ h2), atI_nat (j := 0) rfl, by show 2 ≤ sizeLine; decide, fun U hU => ?_⟩
        have kU := (Kx.refl [] (upd (upd H' T (.lst [.str "let", .str st.name])) L (.lst (xs ++ [.ref T])))).laid (o := .lst [.str "store", .str st.name]) hU
        obtain ⟨zs, d1, d2, d3⟩ := e3.snoc stb_head (v := .ref U) (y := (wStore, st.name)) kU ⟨U, rfl, upd_same⟩
        refine ⟨L, zs, _, rfl, rfl, d1, ?_, (k1.trans kU).new hL, ?_, _, rfl⟩
        · rw [d2, List.length_append, List.length_append, List.length_map, flen]
          exact small1000 (by simp only [List.length_cons, List.length_nil]; omega)
        · rw [List.take_add_one, hsi, List.flatMap_append]
          have e9 : ([st].flatMap fun s => [(wLet, s.name), (wStore, s.name)]) = [(wLet, st.name)] ++ [(wStore, st.name)] := rfl
          show ListR HeadAt _ L (_ ++ (_ ++ [st].flatMap fun s => [(wLet, s.name), (wStore, s.name)]))
          rw [e9, ← List.append_assoc, ← List.append_assoc]
          exact d3
      · obtain ⟨kx, hl, y3, rfl⟩ := hP
        rw [hp.length, List.take_length] at hl
        exact ⟨_, rfl, q H' L kx hL hl⟩

/-! ### rows_of -/
theorem weave_succ {α : Type} : ∀ {xs ys : List α} {i : Nat} {x y : α}, xs[i]? = some x → ys[i]? = some y → weave (xs.take (i + 1)) (ys.take (i + 1)) = weave (xs.take i) (ys.take i) ++ [x, y]
  | [], _, _, _, _, h, _ => by simp at h
  | _ :: _, [], _, _, _, _, h => by simp at h
  | a :: xs, b :: ys, 0, x, y, h, h2 => by
    simp at h h2
    subst h h2
    simp [weave]
  | a :: xs, b :: ys, i + 1, x, y, h, h2 => by
    have ih := weave_succ (xs := xs) (ys := ys) (i := i) (x := x) (y := y) (by simpa using h) (by simpa using h2)
    show a :: b :: weave (xs.take (i + 1)) (ys.take (i + 1)) = a :: b :: weave (xs.take i) (ys.take i) ++ [x, y]
    rw [ih]
    rfl
def spRowsOf : Sp := fun vs H Q _ => ∃ (bv rv pvl : V) (b : Basin) (rs : List Rt) (p : Plan), vs = [bv, rv, pvl] ∧ BasinAt H bv b ∧ RightsAt H rv rs ∧ PlanAt H pvl p ∧ b.sites.length ≤ 4 ∧ rs.length ≤ 4 ∧
  p.1.length = rs.length ∧ p.2.1.length = b.sites.length ∧ p.2.2.length = b.sites.length ∧ ∀ H' o, Kx [] H H' → H o = none → ListR RowAt H' o (rowsOfP p) → Q (.ref o) H'
theorem ok_rowsOf (D : Df K mg "rows_of" sRowsOf f fd) (mR : mg "range" = none) (mL : mg "len" = none) : FnOk P w K mg base CX0 1 f fd ["basin", "rights", "plan"] spRowsOf := by
  refine okD D.F scRowsOf (fun vs H Q E h => ?_) (fun cdv A outer s H vs Q E hr h => ?_)
  · obtain ⟨bv, rv, pvl, b, rs, p, rfl, _⟩ := h
    rfl
  · obtain ⟨bv, rv, pvl, b, rs, p, rfl, hb, hrt, hpl, hn4, hr4, l1, l2, l3, q⟩ := h
    refine ⟨_, pss_cons (ps_asg (pv 2) (pg_tup rfl (pgs_cons (pg_name (i := 3) scRowsOf.nd rfl (.inr rfl)) (pgs_cons (pg_name (i := 4) scRowsOf.nd rfl (.inl rfl)) (pgs_cons (pg_name (i := 5) scRowsOf.nd rfl (.inl rfl)) pgs_nil)))))
      (pss_cons (ps_setLc (i := 7) (own := [("number", 6)]) (g := gName 6) (tt := tYes) rfl scRowsOf.nd rfl rfl (sw_true rfl rfl rfl (by decide +kernel)) (pi_range1 (by rfl) mR (pa_cons (pe_callB call_len_seq (by rfl) mL PySem.boot_len (pa_cons (pv 1) pa_nil)) pa_nil))
        (blkOk_by (N := nRowsOf) (sc := defScope sRowsOf) (by decide +kernel)) (fun _ _ _ _ _ => pg_name (i := 6) scRowsOf.nd rfl (.inl rfl)) (fun _ _ _ _ _ => pts_nil)
        (fun _ _ _ _ _ => pe_ix (r := rIxT K) ix_tup (pv 3) (pv 6) (fun _ _ => rfl)))
      (pss_cons (ps_for PassesOwn.never rfl (pi_range1 (by rfl) mR (pa_cons (pe_callB call_len_seq (by rfl) mL PySem.boot_len (pa_cons (pe_ix ix_tup (pv 0) pe_int (fun _ _ => rfl)) pa_nil)) pa_nil)) (pg_name (i := 6) scRowsOf.nd rfl (.inl rfl))
        (pss_cons (ps_expr (pe_bm PySem.F.plainAttrs_list PySem.F.slot_list_append PySem.F.type_list_append mt_append (pv 7) (pa_cons (pe_ix ix_tup (pv 4) (pv 6) (fun _ _ => rfl)) pa_nil)))
        (pss_one (ps_expr (pe_bm PySem.F.plainAttrs_list PySem.F.slot_list_append PySem.F.type_list_append mt_append (pv 7) (pa_cons (pe_ix ix_tup (pv 5) (pv 6) (fun _ _ => rfl)) pa_nil))))))
      (pss_one (ps_ret (pv 7))))), ?_⟩
    obtain ⟨a, x, rfl, ha, c, ys, rfl, hc, hp⟩ := hb
    obtain ⟨ra, rxs, rfl, hra, hrp⟩ := hrt
    obtain ⟨pa, v1, v2, v3, rfl, hpa, ⟨a1, x1, rfl, h1, p1⟩, ⟨a2, x2, rfl, h2, p2⟩, ⟨a3, x3, rfl, h3, p3⟩⟩ := hpl
    have e1 := hrp.length
    have e2 := hp.length
    refine ⟨_, rfl, pa, _, rfl, SqT.of hpa, rfl, _, _, rfl, _, _, rfl, _, _, rfl, rfl, ?_⟩
    refine ⟨_, rfl, ra, rxs, rfl, .inr (SqT.of hra), _, rfl, by omega, by omega, fun L hL => ?_⟩
    rw [Int.toNat_natCast, e1]
    refine rg_walk (fun i H' => Kx [] H H' ∧ ListR RowAt H' L (p.1.take i)) ⟨(Kx.refl _ _).new hL, .new⟩ (fun i H' hi hP => ?_) (fun H' hP => ?_)
    · obtain ⟨kx, hl⟩ := hP
      have hi1 : i < p.1.length := by omega
      obtain ⟨y, hy, ry⟩ := pget p1 (List.getElem?_eq_getElem hi1)
      refine ⟨rfl, ?_⟩
      refine ⟨_, rfl, _, rfl, a1, x1, _, y, rfl, rfl, SqT.of (kx.tu _ _ h1), ?_, ?_⟩
      · rw [Int.zero_add]
        exact atI_nat hy
      · obtain ⟨xs, d1, d2, d3⟩ := hl.snoc stb_row (Kx.refl [] H') (kx.row ry)
        refine ⟨xs, d1, ?_, kx.new hL, ?_⟩
        · rw [d2, List.length_take]
          exact small1000 (by omega)
        · rw [List.take_add_one, List.getElem?_eq_getElem hi1]
          exact d3
    · rw [← l1, List.take_length] at hP
      obtain ⟨kx, hl⟩ := hP
      refine ⟨_, rfl, a, _, 1, _, rfl, rfl, SqT.of (kx.tu _ _ ha), atI_nat (j := 1) rfl, c, ys, rfl, .inr (SqT.of (kx.tu _ _ hc)), _, rfl, by omega, by omega, ?_⟩
      rw [Int.toNat_natCast, e2]
      refine for_range (lo := 0) (n := b.sites.length) (fun i σ H' => Kx [] H H' ∧ ListR RowAt H' L (p.1 ++ weave (p.2.1.take i) (p.2.2.take i)) ∧ ∃ y6, σ = [some (.ref a), some (.ref ra), some (.ref pa), some (.ref a1), some (.ref a2), some (.ref a3), y6, some (.ref L)])
        ⟨kx, by simpa [weave] using hl, _, rfl⟩ (fun i σ H' hi hP => ?_) (fun σ H' hP => ?_)
      · obtain ⟨kx, hl, y6, rfl⟩ := hP
        have hi1 : i < p.2.1.length := by omega
        have hi2 : i < p.2.2.length := by omega
        obtain ⟨y, hy, ry⟩ := pget p2 (List.getElem?_eq_getElem hi1)
        obtain ⟨z, hz, rz⟩ := pget p3 (List.getElem?_eq_getElem hi2)
        have wl : (p.1 ++ weave (p.2.1.take i) (p.2.2.take i)).length ≤ 12 := by
          rw [List.length_append, weave_len (by rw [List.length_take, List.length_take, l2, l3]), List.length_take]
          omega
        obtain ⟨xs, d1, d2, d3⟩ := hl.snoc stb_row (Kx.refl [] H') (kx.row ry)
        refine ⟨.ref L, rfl, .inl ⟨rfl, _, SqL.of d1⟩, _, rfl, _, rfl, a2, x2, _, y, rfl, rfl, SqT.of (kx.tu _ _ h2), by rw [Int.zero_add]; exact atI_nat hy, L, xs, y, rfl, rfl, d1, small1000 (by omega), ?_⟩
        have k1 : Kx [] H (upd H' L (.lst (xs ++ [y]))) := kx.new hL
        obtain ⟨xs2, g1, g2, g3⟩ := d3.snoc stb_row (Kx.refl [] _) (k1.row rz)
        refine ⟨.ref L, rfl, .inl ⟨rfl, _, SqL.of g1⟩, _, rfl, _, rfl, a3, x3, _, z, rfl, rfl, SqT.of (k1.tu _ _ h3), by rw [Int.zero_add]; exact atI_nat hz, L, xs2, z, rfl, rfl, g1, ?_, k1.new hL, ?_, _, rfl⟩
        · rw [g2, List.length_append]
          exact small1000 (by simp only [List.length_cons, List.length_nil]; omega)
        · rw [weave_succ (List.getElem?_eq_getElem hi1) (List.getElem?_eq_getElem hi2), ← List.append_assoc]
          have e9 : [p.2.1[i], p.2.2[i]] = [p.2.1[i]] ++ [p.2.2[i]] := rfl
          rw [e9, ← List.append_assoc]
          exact g3
      · obtain ⟨kx, hl, y6, rfl⟩ := hP
        rw [← l2, List.take_length, l2, ← l3, List.take_length] at hl
        exact ⟨_, rfl, q H' L kx hL hl⟩

/-! ### plan_of -/
theorem cut_to (xs : List V) (k : Nat) : cutV xs none (some (k : Int)) = xs.take k := by
  unfold cutV
  rw [HT.sIx_none, HT.sIx_nat, List.drop_zero, Nat.sub_zero, Nat.min_def]
  split
  · rfl
  · rw [List.take_of_length_le (Nat.le_refl _), List.take_of_length_le (by omega)]
theorem cut_from (xs : List V) (k : Nat) : cutV xs (some (k : Int)) none = xs.drop k := by
  unfold cutV
  rw [HT.sIx_none, HT.sIx_nat]
  by_cases h : k ≤ xs.length
  · rw [Nat.min_eq_left h, List.take_of_length_le (by rw [List.length_drop]; exact Nat.le_refl _)]
  · rw [Nat.min_eq_right (by omega), List.drop_of_length_le (Nat.le_refl _), List.drop_of_length_le (by omega)]
    simp
theorem pevens {α β : Type} {R : α → β → Prop} : ∀ {l : List α} {m : List β}, Paired R l m → Paired R (evens l) (evens m)
  | _, _, .nil => .nil
  | _, _, .cons r .nil => .cons r .nil
  | _, _, .cons r (.cons _ t) => .cons r (pevens t)
/-- a list's items as a tuple -/
theorem tupR_of {H : Hp} {p T : Addr} {xs : List V} {rs : List (List Int)} (hT : H T = none) (h : Paired (RowAt H) xs rs) : RowsAt (upd H T (.tup xs)) (.ref T) rs :=
  ⟨T, xs, rfl, upd_same, h.mono fun _ _ z => ((Kx.refl [] H).laid hT).row z⟩
def spPlanOf : Sp := fun vs H Q _ => ∃ (bv rv : V) (o : Addr) (rs : List Rt) (p : Plan), vs = [bv, rv, .ref o] ∧ RightsAt H rv rs ∧ ListR RowAt H o (rowsOfP p) ∧ rs.length ≤ 4 ∧ p.1.length = rs.length ∧ 1 ≤ p.2.1.length ∧ p.2.1.length = p.2.2.length ∧
  ∀ H' v, Kx [] H H' → PlanAt H' v p → Q v H'
theorem ok_planOf (D : Df K mg "plan_of" sPlanOf f fd) (mT : mg "tuple" = none) (mL : mg "len" = none) : FnOk P w K mg base CX0 1 f fd ["basin", "rights", "rows"] spPlanOf := by
  refine okD D.F scPlanOf (fun vs H Q E h => ?_) (fun cdv A outer s H vs Q E hr h => ?_)
  · obtain ⟨bv, rv, o, rs, p, rfl, _⟩ := h
    rfl
  · obtain ⟨bv, rv, o, rs, p, rfl, hrt, hl, hr4, l1, l2, l3, q⟩ := h
    refine ⟨_, pss_cons (ps_set (i := 3) scPlanOf.nd rfl (.inl rfl) (pe_callB call_len_seq (by rfl) mL PySem.boot_len (pa_cons (pv 1) pa_nil)))
      (pss_one (ps_ret (pe_tup (pa_cons (pe_callTy call_tuple_of (by rfl) mT (by decide +kernel) (pa_cons (pe_slice sl_list (pv 2) po_none (po_some (pv 3))) pa_nil))
        (pa_cons (pe_callTy call_tuple_of (by rfl) mT (by decide +kernel) (pa_cons (pe_step2 (pv 2) (pv 3)) pa_nil))
        (pa_cons (pe_callTy call_tuple_of (by rfl) mT (by decide +kernel) (pa_cons (pe_step2 (pv 2) (pe_op op_add (pv 3) pe_int)) pa_nil)) pa_nil)))))), ?_⟩
    obtain ⟨ra, rxs, rfl, hra, hrp⟩ := hrt
    obtain ⟨xs, hxs, hxp⟩ := hl
    have e1 := hrp.length
    have e2 : xs.length = rs.length + 2 * p.2.1.length := by
      rw [hxp.length]
      unfold rowsOfP
      rw [List.length_append, weave_len l3, l1]
    refine ⟨_, rfl, ra, rxs, rfl, .inr (SqT.of hra), ?_⟩
    rw [e1]
    -- the first
    refine ⟨_, rfl, _, rfl, _, rfl, o, xs, rfl, SqL.of hxs, fun T1 n1 => ?_⟩
    rw [cut_to]
    have k1 := (Kx.refl [] H).laid (o := .lst (xs.take rs.length)) n1
    refine ⟨T1, _, rfl, .inl ⟨SqL.of upd_same, fun U1 m1 => ?_⟩⟩
    have k2 := k1.laid (o := .tup (xs.take rs.length)) m1
    have q1 : RowsAt _ (.ref U1) (p.1 ++ weave p.2.1 p.2.2 |>.take rs.length) := tupR_of (p := o) m1 ((ptake rs.length hxp).mono fun _ _ z => k1.row z)
    have et : (p.1 ++ weave p.2.1 p.2.2).take rs.length = p.1 := by rw [← l1, List.take_left]
    rw [et] at q1
    -- the second
    have ed : (rowsOfP p).drop rs.length = weave p.2.1 p.2.2 := by
      unfold rowsOfP
      rw [← l1, List.drop_left]
    refine ⟨_, rfl, _, rfl, _, rfl, o, xs, rs.length, rfl, rfl, SqL.of (k2.lst0 hxs), by omega, fun T2 n2 => ?_⟩
    have k3 := k2.laid (o := .lst (evens (xs.drop rs.length))) n2
    refine ⟨T2, _, rfl, .inl ⟨SqL.of upd_same, fun U2 m2 => ?_⟩⟩
    have k4 := k3.laid (o := .tup (evens (xs.drop rs.length))) m2
    have q2 : RowsAt _ (.ref U2) (evens ((rowsOfP p).drop rs.length)) := tupR_of (p := o) m2 ((pevens (pdrop rs.length hxp)).mono fun _ _ z => k3.row z)
    rw [ed, evens_weave l3] at q2
    -- the third
    refine ⟨_, rfl, _, rfl, _, _, rfl, rfl, _, rfl, o, xs, rs.length + 1, rfl, rfl, SqL.of (k4.lst0 hxs), by omega, fun T3 n3 => ?_⟩
    have k5 := k4.laid (o := .lst (evens (xs.drop (rs.length + 1)))) n3
    refine ⟨T3, _, rfl, .inl ⟨SqL.of upd_same, fun U3 m3 => ?_⟩⟩
    have k6 := k5.laid (o := .tup (evens (xs.drop (rs.length + 1)))) m3
    have q3 : RowsAt _ (.ref U3) (evens ((rowsOfP p).drop (rs.length + 1))) := tupR_of (p := o) m3 ((pevens (pdrop (rs.length + 1) hxp)).mono fun _ _ z => k5.row z)
    have ed2 : evens ((rowsOfP p).drop (rs.length + 1)) = p.2.2 := by rw [← List.drop_drop, ed, odds_weave l3]
    rw [ed2] at q3
    -- the whole
    refine ⟨by show 3 ≤ sizeLine; decide, fun T hT => ?_⟩
    refine q _ _ (k6.laid hT) ⟨T, _, _, _, rfl, upd_same, ?_, ?_, ?_⟩
    · have r1 := ((Kx.refl [] _).laid (o := .lst (evens (xs.drop rs.length))) n2).rows q1
      have r2 := ((Kx.refl [] _).laid (o := .tup (evens (xs.drop rs.length))) m2).rows r1
      have r3 := ((Kx.refl [] _).laid (o := .lst (evens (xs.drop (rs.length + 1)))) n3).rows r2
      have r4 := ((Kx.refl [] _).laid (o := .tup (evens (xs.drop (rs.length + 1)))) m3).rows r3
      exact ((Kx.refl [] _).laid hT).rows r4
    · have r3 := ((Kx.refl [] _).laid (o := .lst (evens (xs.drop (rs.length + 1)))) n3).rows q2
      have r4 := ((Kx.refl [] _).laid (o := .tup (evens (xs.drop (rs.length + 1)))) m3).rows r3
      exact ((Kx.refl [] _).laid hT).rows r4
    · exact ((Kx.refl [] _).laid hT).rows q3
end
end K15
set_option Elab.async false
set_option linter.all false
set_option maxRecDepth 100000
set_option maxHeartbeats 4000000
/-! plan_lines, region_line, plan_text, certificate_text -/
namespace K15
open PySem PySem.Spec PyProof.Rows L2
section
variable {P : Program} {w : World} {K : PySem.W.Frag} {mg : Str → Option Value} {base : Heap} {f : Addr} {fd : FuncData}
theorem log_small {i : Int} (h0 : 0 ≤ i) (h1 : i ≤ 9999) : i.natAbs.log2 < 1920 := by
  by_cases h : i.natAbs = 0
  · rw [h]
    decide
  · have : i.natAbs.log2 < 14 := (Nat.log2_lt h).mpr (by omega)
    omega
def planLines (b : Basin) (rs : List Rt) (p : Plan) : List Str := List.zipWith (fun h r => lineS h.1 h.2 r) (headsOf b rs) (rowsOfP p)
structure BasinOk (b : Basin) : Prop where
  m1 : 1 ≤ b.months
  m4 : b.months ≤ 4
  n1 : 1 ≤ b.sites.length
  n4 : b.sites.length ≤ 4
  nm : ∀ s ∈ b.sites, NameOk s.name
  nd : ∀ (i j : Nat) (s t : Site), b.sites[i]? = some s → b.sites[j]? = some t → s.name = t.name → i = j
structure RightsOk (rs : List Rt) : Prop where
  n4 : rs.length ≤ 4
  nm : ∀ r ∈ rs, NameOk r.name
theorem heads_ok {b : Basin} {rs : List Rt} (hb : BasinOk b) (hr : RightsOk rs) : ∀ h ∈ headsOf b rs, NameOk h.1 ∧ NameOk h.2 := by
  intro h hm
  rcases List.mem_append.mp hm with hm | hm
  · obtain ⟨r, hr', rfl⟩ := List.mem_map.mp hm
    exact ⟨give_ok, hr.nm r hr'⟩
  · obtain ⟨s, hs, hm⟩ := List.mem_flatMap.mp hm
    rcases List.mem_cons.mp hm with rfl | hm
    · exact ⟨let_ok, hb.nm s hs⟩
    · rw [List.mem_singleton.mp hm]
      exact ⟨store_ok, hb.nm s hs⟩
theorem mem_weave {α : Type} : ∀ {xs ys : List α} {z : α}, z ∈ weave xs ys → z ∈ xs ∨ z ∈ ys
  | [], _, _, h => by simp [weave] at h
  | _ :: _, [], _, h => by simp [weave] at h
  | x :: xs, y :: ys, z, h => by
    have h : z ∈ x :: y :: weave xs ys := h
    rcases List.mem_cons.mp h with rfl | h
    · exact .inl List.mem_cons_self
    rcases List.mem_cons.mp h with rfl | h
    · exact .inr List.mem_cons_self
    rcases mem_weave h with h | h
    · exact .inl (List.mem_cons_of_mem _ h)
    · exact .inr (List.mem_cons_of_mem _ h)
theorem PlanOk.rows {b : Basin} {rs : List Rt} {p : Plan} (h : PlanOk b rs p) : ∀ r ∈ rowsOfP p, RowOk b.months r := by
  intro r hr
  rcases List.mem_append.mp hr with hr | hr
  · exact h.rd r hr
  rcases mem_weave hr with hr | hr
  · exact h.rr r hr
  · exact h.rs r hr
theorem PlanOk.len {b : Basin} {rs : List Rt} {p : Plan} (h : PlanOk b rs p) : (rowsOfP p).length = (headsOf b rs).length := by
  unfold rowsOfP
  rw [List.length_append, weave_len (by rw [h.nr, h.ns]), headsOf_len, h.nd, h.nr]
theorem planLines_len {b : Basin} {rs : List Rt} {p : Plan} (h : PlanOk b rs p) : (planLines b rs p).length = rs.length + 2 * b.sites.length := by
  unfold planLines
  rw [List.length_zipWith, h.len, headsOf_len, Nat.min_self]
/-- a list of texts stands at p -/
abbrev StrsL (H : Hp) (p : Addr) (l : List Str) : Prop := H p = some (.lst (l.map V.str))
def spLines : Sp := fun vs H Q _ => ∃ (bv rv pvl : V) (b : Basin) (rs : List Rt) (p : Plan), vs = [bv, rv, pvl] ∧ BasinAt H bv b ∧ RightsAt H rv rs ∧ PlanAt H pvl p ∧ BasinOk b ∧ RightsOk rs ∧ PlanOk b rs p ∧
  ∀ H' o, Kx [] H H' → H o = none → StrsL H' o (planLines b rs p) → Q (.ref o) H'
theorem ok_lines {f1 f2 : Addr} {fd1 fd2 : FuncData} {tN : Tok} (D : Df K mg "plan_lines" sPlanLines f fd) (D1 : Df K mg "heads" sHeads f1 fd1) (D2 : Df K mg "rows_of" sRowsOf f2 fd2) (mN : mg "NAME" = some (.int 0 tN))
    (mR : mg "range" = none) (mL : mg "len" = none) (mZ : mg "zip" = none) (mS : mg "str" = none) : FnOk P w K mg base CX0 2 f fd ["basin", "rights", "plan"] spLines := by
  have G1 : FnOk P w K mg base CX0 1 f1 fd1 _ spHeads := ok_heads D1 mN
  have G2 : FnOk P w K mg base CX0 1 f2 fd2 _ spRowsOf := ok_rowsOf D2 mR mL
  refine okD D.F scPlanLines (fun vs H Q E h => ?_) (fun cdv A outer s H vs Q E hr h => ?_)
  · obtain ⟨bv, rv, pvl, b, rs, p, rfl, _⟩ := h
    rfl
  · obtain ⟨bv, rv, pvl, b, rs, p, rfl, hb, hrt, hpl, bok, rok, pok, q⟩ := h
    refine ⟨_, pss_cons (ps_set (i := 3) scPlanLines.nd rfl (.inl rfl) (pe_lst pa_nil))
      (pss_cons (ps_for PassesOwn.never rfl (pi_zip (by rfl) mZ (pa_cons (pe_call G1 hr (by rfl) D1.g D1.F.kp (bdHeads D1.F) .nil pass0 (pa_cons (pv 0) (pa_cons (pv 1) pa_nil)))
          (pa_cons (pe_call G2 hr (by rfl) D2.g D2.F.kp (bdRowsOf D2.F) .nil pass0 (pa_cons (pv 0) (pa_cons (pv 1) (pa_cons (pv 2) pa_nil)))) pa_nil)))
          (pg_tup rfl (pgs_cons (pg_name (i := 4) scPlanLines.nd rfl (.inl rfl)) (pgs_cons (pg_name (i := 5) scPlanLines.nd rfl (.inl rfl)) pgs_nil)))
        (pss_one (ps_expr (pe_bm PySem.F.plainAttrs_list PySem.F.slot_list_append PySem.F.type_list_append mt_append (pv 3) (pa_cons
          (pe_join pe_str (pe_op op_cat (pv 4) (pe_lc (own := [("number", 6)]) (g := gName 6) (tt := tYes) rfl scPlanLines.nd (pi_tup (pv 5)) (blkOk_by (N := nPlanLines) (sc := defScope sPlanLines) (by decide +kernel))
            (fun _ _ _ _ _ => pg_name (i := 6) scPlanLines.nd rfl (.inl rfl)) (fun _ _ _ _ _ => pts_nil) (fun _ _ _ _ _ => pe_callTy call_str_int (by rfl) mS (by decide +kernel) (pa_cons (pv 6) pa_nil))))) pa_nil)))))
      (pss_one (ps_ret (pv 3)))), ?_⟩
    refine ⟨Nat.zero_le _, fun L hL => ?_⟩
    have k1 : Kx [] H (upd H L (.lst [])) := (Kx.refl _ _).laid hL
    refine ⟨_, rfl, _, rfl, bv, rv, b, rs, rfl, k1.basin hb, k1.rights hrt, bok.n4, rok.n4, fun H2 hA k2 nA lA => ?_⟩
    have k12 := k1.trans k2
    refine ⟨_, rfl, _, rfl, _, rfl, bv, rv, pvl, b, rs, p, rfl, k12.basin hb, k12.rights hrt, k12.plan hpl, bok.n4, rok.n4, pok.nd, pok.nr, pok.ns, fun H3 rA k3 nR lR => ?_⟩
    have k13 := k12.trans k3
    have lA3 := lA.kx stb_head k3
    obtain ⟨hxs, ehA, hpA⟩ := lA3
    obtain ⟨rxs, erA, hpR⟩ := lR
    have eL3 : H3 L = some (.lst []) := (k2.trans k3).lst0 upd_same
    have nAL : hA ≠ L := fun z => by
      rw [z, upd_same] at nA
      cases nA
    have nRL : rA ≠ L := fun z => by
      rw [z, k2.lst0 upd_same] at nR
      cases nR
    have el : hxs.length = rxs.length := by rw [hpA.length, hpR.length, pok.len]
    refine ⟨hA, rA, hxs, rxs, rfl, SqL.of ehA, SqL.of erA, ?_⟩
    refine RZ.for_zipL el (fun i σ H' => Kx [L] H3 H' ∧ Kx [] H H' ∧ StrsL H' L ((planLines b rs p).take i) ∧ ∃ y4 y5, σ = [some bv, some rv, some pvl, some (.ref L), y4, y5, none]) ⟨Kx.refl _ _, k13, by rw [List.take_zero]; exact eL3, none, none, rfl⟩
      (fun i σ H' hP => ⟨SqL.of (hP.1.lst (by simpa using nAL) ehA), SqL.of (hP.1.lst (by simpa using nRL) erA)⟩) (fun i x y T σ H' hx hy hP hT => ?_) (fun σ H' hP => ?_)
    · obtain ⟨kL, kx, eL, y4, y5, rfl⟩ := hP
      obtain ⟨hd, hhd, qa, rfl, hqa⟩ := pgetL hpA hx
      obtain ⟨row, hrow, ra, rfl, hra⟩ := pgetL hpR hy
      have qaL : qa ≠ L := fun z => by
        rw [z, eL3] at hqa
        cases hqa
      have rok1 : RowOk b.months row := pok.rows row (List.mem_of_getElem? hrow)
      have kT : Kx [] H' (upd H' T (.tup [.ref qa, .ref ra])) := (Kx.refl _ _).laid hT
      refine ⟨T, _, rfl, SqT.of upd_same, rfl, _, _, rfl, _, _, rfl, rfl, ?_⟩
      have hq2 := kT.lst0 (kL.lst (by simpa using qaL) hqa)
      have hr2 := kT.tu _ _ (kL.tu _ _ hra)
      refine ⟨.ref L, rfl, .inl ⟨rfl, _, SqL.of (kT.lst0 eL)⟩, ⟨_, rfl⟩, _, rfl, _, rfl, ra, rfl, ⟨_, SqT.of hr2⟩, fun D hD => ?_⟩
      refine lc_tup (xs := row.map V.int) (fun j H'' => Kx [] (upd H' T (.tup [.ref qa, .ref ra])) H'' ∧ StrsL H'' D ((row.take j).map numS)) ⟨(Kx.refl _ _).laid hD, upd_same⟩ (fun j H'' _ hP => SqT.of (hP.1.tu _ _ hr2)) (fun j x H'' hx hP => ?_) (fun H'' hP => ?_)
      · obtain ⟨kx2, eD⟩ := hP
        rw [List.getElem?_map] at hx
        obtain ⟨n, hn, rfl⟩ := Option.map_eq_some_iff.mp hx
        have nb := rok1.2 n (List.mem_of_getElem? hn)
        refine ⟨rfl, ?_⟩
        refine ⟨_, rfl, n, rfl, log_small nb.1 nb.2, _, eD, ?_, kx2.new hD, ?_⟩
        · have := rok1.1
          rw [List.length_map, List.length_map, List.length_take]
          exact small1000 (by have := bok.m4; omega)
        · rw [List.take_add_one, hn, StrsL, upd_same, List.map_append, List.map_append]
          rfl
      · rw [List.length_map, List.take_length] at hP
        obtain ⟨kx2, eD⟩ := hP
        have hqa2 := kx2.lst0 hq2
        have hok := heads_ok bok rok hd (List.mem_of_getElem? hhd)
        refine ⟨qa, D, _, _, rfl, rfl, hqa2, eD, ?_, fun C hC => ?_⟩
        · have := rok1.1
          have := bok.m4
          rw [List.length_map, List.length_map]
          exact Nat.le_of_lt (small1000 (by simp only [List.length_cons, List.length_nil]; omega))
        have epc : ([V.str hd.1, V.str hd.2] ++ (row.map numS).map V.str) = (pieces hd.1 hd.2 row).map V.str := rfl
        rw [epc]
        have ks := (Kx.refl [] H'').laid (o := .lst ((pieces hd.1 hd.2 row).map V.str)) hC
        have shrt := sum_short (pieces_short hok.1 hok.2 rok1)
        rw [pieces_len] at shrt
        refine ⟨_, C, pieces hd.1 hd.2 row, rfl, rfl, .inl (SqL.of upd_same), ?_, ?_⟩
        · have := rok1.1
          have := bok.m4
          have e1 : (pieces hd.1 hd.2 row).length ≤ 6 := by rw [pieces_len]; omega
          have e2 : ((pieces hd.1 hd.2 row).map (·.length)).sum ≤ 36 := by omega
          have e3 : ((" " : Str)).length = 1 := by decide +kernel
          rw [e3]
          omega
        · have eL4 := ks.lst0 (kx2.lst0 (kT.lst0 eL))
          refine ⟨L, _, _, rfl, rfl, eL4, ?_, (kL.trans ((kT.trans (kx2.trans ks)).any)).mut (by simp) eL4, (kx.trans (kT.trans (kx2.trans ks))).new hL, ?_, _, _, rfl⟩
          · rw [List.length_map, List.length_take, planLines_len pok]
            have := bok.n4
            have := rok.n4
            exact small1000 (by omega)
          · have e9 : (planLines b rs p)[i]? = some (lineS hd.1 hd.2 row) := by
              unfold planLines
              rw [List.getElem?_zipWith, hhd, hrow]
            rw [List.take_add_one, e9, StrsL, upd_same, List.map_append]
            rfl
    · obtain ⟨kL, kx, eL, y4, y5, rfl⟩ := hP
      have e9 : hxs.length = (planLines b rs p).length := by rw [hpA.length, headsOf_len, planLines_len pok]
      rw [e9, List.take_length] at eL
      exact ⟨_, rfl, q H' L kx hL eL⟩

/-! ### region_line -/
def tJ (ts : List TE) : TE := fun σ H Q => tJs ts Str.empty σ H fun out H1 => Q (.str out) H1
theorem pe_joinedT {X : Cx} {v1 v2 : Expr} {rest : List Expr} {ts : List TE} {pos : Pos} (h : PJ X (v1 :: v2 :: rest) ts) : PE X (.JoinedStr (v1 :: v2 :: rest) pos) (tJ ts) := pe_joined h
def nameAt (b : Basin) (i : Nat) : Str := match b.sites[i]? with
  | some s => s.name
  | none => Str.empty
theorem nameAt_of {b : Basin} {i : Nat} {s : Site} (h : b.sites[i]? = some s) : nameAt b i = s.name := by
  unfold nameAt
  rw [h]
def cellS (b : Basin) (c : Cell) : Str := nameAt b c.1 ++ sSl ++ numS (c.2 : Nat)
def regS (b : Basin) (r : List Cell) : Str := Txt.join sSp (wRegion :: r.map (cellS b))
/-- cells of the basin, not too many -/
structure CellsIn (b : Basin) (r : List Cell) : Prop where
  s : ∀ c ∈ r, c.1 < b.sites.length
  m : ∀ c ∈ r, c.2 < b.months
  n : r.length ≤ 16
theorem empty_app (x : Str) : Str.empty ++ x = x := TL.ext_tl (by rw [TL.tl_append]; rfl)
theorem nameAt_ok {b : Basin} (h : BasinOk b) {i : Nat} (hi : i < b.sites.length) : NameOk (nameAt b i) := by
  rw [nameAt_of (List.getElem?_eq_getElem hi)]
  exact h.nm _ (List.getElem_mem hi)
theorem cellS_len {b : Basin} (h : BasinOk b) {c : Cell} (h1 : c.1 < b.sites.length) (h2 : c.2 < b.months) : (cellS b c).length ≤ 11 := by
  have e1 := (nameAt_ok h h1).hi
  have e2 := numS_len (i := ((c.2 : Nat) : Int)) (by omega) (by have := h.m4; omega)
  have e3 : sSl.length = 1 := by decide +kernel
  unfold cellS
  rw [len_app, len_app]
  omega
def spRegLine : Sp := fun vs H Q _ => ∃ (bv rv : V) (b : Basin) (r : List Cell), vs = [bv, rv] ∧ BasinAt H bv b ∧ RegAt H rv r ∧ BasinOk b ∧ CellsIn b r ∧ ∀ H', Kx [] H H' → Q (.str (regS b r)) H'
theorem ok_regLine {tN tR : Tok} (D : Df K mg "region_line" sRegionLine f fd) (mN : mg "NAME" = some (.int 0 tN)) (mR : mg "REGION" = some (.str wRegion tR)) : FnOk P w K mg base CX0 1 f fd ["basin", "region"] spRegLine := by
  refine okD D.F scRegionLine (fun vs H Q E h => ?_) (fun cdv A outer s H vs Q E hr h => ?_)
  · obtain ⟨bv, rv, b, r, rfl, _⟩ := h
    rfl
  · obtain ⟨bv, rv, b, r, rfl, hb, hrg, bok, cin, q⟩ := h
    refine ⟨_, pss_one (ps_ret (pe_join pe_str (pe_op op_cat (pe_lst (pa_cons (pe_glob (v := .str wRegion) (by rfl) mR ⟨_, rfl⟩) pa_nil))
      (pe_lc (own := [("number", 2), ("month", 3)]) (g := gTup K 2 (gCons (gName 2) (gCons (gName 3) gNil))) (tt := tYes) rfl scRegionLine.nd (pi_tup (pv 1)) (blkOk_by (N := nRegionLine) (sc := defScope sRegionLine) (by decide +kernel))
        (fun _ _ _ _ _ => pg_tup rfl (pgs_cons (pg_name (i := 2) scRegionLine.nd rfl (.inl rfl)) (pgs_cons (pg_name (i := 3) scRegionLine.nd rfl (.inl rfl)) pgs_nil))) (fun _ _ _ _ _ => pts_nil)
        (fun _ _ _ _ _ => pe_joinedT (.cons (pe_fmt (pe_ix (r := rIxT K) ix_tup (pe_ix (r := rIxT K) ix_tup (pe_ix (r := rIxT K) ix_tup (pv 0) pe_int (fun _ _ => rfl)) (pv 2) (fun _ _ => rfl)) (pe_glob (v := .int 0) (by rfl) mN ⟨_, rfl⟩) (fun _ _ => rfl)))
          (.cons pe_str (.cons (pe_fmt (pv 3)) .nil)))))))), ?_⟩
    obtain ⟨a, x, rfl, ha, c, ys, rfl, hc, hp⟩ := hb
    obtain ⟨ra, rxs, rfl, hra, hrp⟩ := hrg
    refine ⟨⟨_, rfl⟩, by show 1 ≤ sizeLine; decide, fun L hL => ?_⟩
    have k1 : Kx [] H (upd H L (.lst [.str wRegion])) := (Kx.refl _ _).laid hL
    refine ⟨_, rfl, ra, rfl, ⟨_, SqT.of (k1.tu _ _ hra)⟩, fun D hD => ?_⟩
    have nDL : L ≠ D := fun z => by rw [← z, upd_same] at hD; cases hD
    have lz : (30 : Nat) ≤ sizeLine := by decide
    refine lc_tup (xs := rxs) (fun i H' => Kx [] H H' ∧ H' L = some (.lst [.str wRegion]) ∧ StrsL H' D ((r.take i).map (cellS b))) ⟨k1.laid hD, by rw [upd_ne nDL, upd_same], by rw [StrsL, upd_same]; rfl⟩ (fun i H' _ hP => SqT.of (hP.1.tu _ _ hra)) (fun i x H' hx hP => ?_) (fun H' hP => ?_)
    · obtain ⟨kx, eL, eD⟩ := hP
      obtain ⟨cl, hcl, ca, rfl, hca⟩ := pgetL hrp hx
      have hm := List.mem_of_getElem? hcl
      have h1 := cin.s cl hm
      have h2 := cin.m cl hm
      obtain ⟨sv, hsv, sa, sf, rfl, hsa, _⟩ := pget hp (List.getElem?_eq_getElem h1)
      have en : nameAt b cl.1 = (b.sites[cl.1]).name := nameAt_of (List.getElem?_eq_getElem h1)
      have nok := nameAt_ok bok h1
      rw [en] at nok
      have m4 := bok.m4
      have nl := numS_len (i := ((cl.2 : Nat) : Int)) (by omega) (by omega)
      refine ⟨ca, _, rfl, SqT.of (kx.tu _ _ hca), rfl, _, _, rfl, _, _, rfl, rfl, ?_⟩
      refine ⟨rfl, ?_⟩
      refine ⟨_, rfl, a, _, 1, _, rfl, rfl, SqT.of (kx.tu _ _ ha), atI_nat (j := 1) rfl, _, rfl, c, ys, _, _, rfl, rfl, SqT.of (kx.tu _ _ hc), atI_nat hsv, sa, _, 0, _, rfl, rfl, SqT.of (kx.tu _ _ hsa), atI_nat (j := 0) rfl, .inl ⟨_, rfl, by have := nok.hi; omega, _, rfl, ?_, ?_⟩⟩
      · rw [empty_app]
        have := nok.hi
        omega
      refine ⟨_, rfl, ?_, _, rfl, .inr ⟨_, rfl, log_small (by omega) (by omega), _, rfl, ?_, ?_⟩⟩
      · rw [empty_app, len_app]
        have := nok.hi
        have e3 : (("/" : Str)).length = 1 := by decide +kernel
        omega
      · rw [empty_app, len_app, len_app]
        have := nok.hi
        have e3 : (("/" : Str)).length = 1 := by decide +kernel
        have e4 : (Str.ofString (toString ((cl.2 : Nat) : Int))).length ≤ 4 := nl.2
        omega
      · refine ⟨_, eD, ?_, kx.new (k1.th _ hD), ?_, ?_⟩
        · rw [List.length_map, List.length_map, List.length_take]
          have := cin.n
          exact small1000 (by omega)
        · rw [upd_ne nDL]
          exact eL
        · have e9 : Str.empty ++ (b.sites[cl.1]).name ++ ("/" : Str) ++ Str.ofString (toString ((cl.2 : Nat) : Int)) = cellS b cl := by
            rw [empty_app, ← en]
            rfl
          rw [e9, List.take_add_one, hcl, StrsL, upd_same, List.map_append, List.map_append]
          rfl
    · have el := hrp.length
      rw [el, List.take_length] at hP
      obtain ⟨kx, eL, eD⟩ := hP
      have rn := cin.n
      refine ⟨L, D, _, _, rfl, rfl, eL, eD, ?_, fun C hC => ?_⟩
      · rw [List.length_map, List.length_map]
        exact Nat.le_of_lt (small1000 (by simp only [List.length_cons, List.length_nil]; omega))
      · have epc : ([V.str wRegion] ++ (r.map (cellS b)).map V.str) = (wRegion :: r.map (cellS b)).map V.str := rfl
        rw [epc]
        have shrt : ∀ p ∈ wRegion :: r.map (cellS b), p.length ≤ 11 := by
          intro p hp
          rcases List.mem_cons.mp hp with rfl | hp
          · decide +kernel
          · obtain ⟨cl, hcl, rfl⟩ := List.mem_map.mp hp
            exact cellS_len bok (cin.s cl hcl) (cin.m cl hcl)
        have sm := sum_short shrt
        have ln : (wRegion :: r.map (cellS b)).length ≤ 17 := by
          simp only [List.length_cons, List.length_map]
          omega
        have e3 : ((" " : Str)).length = 1 := by decide +kernel
        refine ⟨_, C, _, rfl, rfl, .inl (SqL.of upd_same), ?_, q _ (kx.laid hC)⟩
        rw [e3]
        omega

/-! ### plan_text, certificate_text -/
theorem lines_short {b : Basin} {rs : List Rt} {p : Plan} (hb : BasinOk b) (hr : RightsOk rs) (hp : PlanOk b rs p) : ∀ l ∈ planLines b rs p, l.length ≤ 42 := by
  intro l hl
  unfold planLines at hl
  obtain ⟨i, hi, e⟩ := List.mem_iff_getElem.mp hl
  rw [List.getElem_zipWith] at e
  have h1 : i < (headsOf b rs).length := by rw [List.length_zipWith] at hi; omega
  have h2 : i < (rowsOfP p).length := by rw [List.length_zipWith] at hi; omega
  have hok := heads_ok hb hr _ (List.getElem_mem h1)
  have := line_short hok.1 hok.2 (hp.rows _ (List.getElem_mem h2))
  have := hb.m4
  rw [← e]
  have : (b.months + 2) * 7 ≤ 42 := by omega
  omega
theorem reg_short {b : Basin} (hb : BasinOk b) {r : List Cell} (hr : CellsIn b r) : (regS b r).length ≤ 300 := by
  have shrt : ∀ p ∈ wRegion :: r.map (cellS b), p.length ≤ 11 := by
    intro p hp
    rcases List.mem_cons.mp hp with rfl | hp
    · decide +kernel
    · obtain ⟨cl, hcl, rfl⟩ := List.mem_map.mp hp
      exact cellS_len hb (hr.s cl hcl) (hr.m cl hcl)
  have h := join_short (y := sSp) shrt
  have ln : (wRegion :: r.map (cellS b)).length ≤ 17 := by
    have := hr.n
    simp only [List.length_cons, List.length_map]
    omega
  rw [len_sp] at h
  unfold regS
  omega
def planText (b : Basin) (rs : List Rt) (p : Plan) : Str := Txt.join sNl (planLines b rs p)
def certText (b : Basin) (rs : List Rt) (p : Plan) (gs : List (List Cell)) : Str := Txt.join sNl (planLines b rs p ++ gs.map (regS b))
def spPlanText : Sp := fun vs H Q _ => ∃ (bv rv pvl : V) (b : Basin) (rs : List Rt) (p : Plan), vs = [bv, rv, pvl] ∧ BasinAt H bv b ∧ RightsAt H rv rs ∧ PlanAt H pvl p ∧ BasinOk b ∧ RightsOk rs ∧ PlanOk b rs p ∧ ∀ H', Kx [] H H' → Q (.str (planText b rs p)) H'
theorem ok_planText {f1 : Addr} {fd1 : FuncData} (D : Df K mg "plan_text" sPlanText f fd) (D1 : Df K mg "plan_lines" sPlanLines f1 fd1) (G1 : FnOk P w K mg base CX0 2 f1 fd1 ["basin", "rights", "plan"] spLines) : FnOk P w K mg base CX0 3 f fd ["basin", "rights", "plan"] spPlanText := by
  refine okD D.F scPlanText (fun vs H Q E h => ?_) (fun cdv A outer s H vs Q E hr h => ?_)
  · obtain ⟨bv, rv, pvl, b, rs, p, rfl, _⟩ := h
    rfl
  · obtain ⟨bv, rv, pvl, b, rs, p, rfl, hb, hrt, hpl, bok, rok, pok, q⟩ := h
    refine ⟨_, pss_one (ps_ret (pe_join pe_str (pe_call G1 hr (by rfl) D1.g D1.F.kp (bdPlanLines D1.F) .nil pass0 (pa_cons (pv 0) (pa_cons (pv 1) (pa_cons (pv 2) pa_nil)))))), ?_⟩
    refine ⟨⟨_, rfl⟩, _, rfl, _, rfl, _, rfl, bv, rv, pvl, b, rs, p, rfl, hb, hrt, hpl, bok, rok, pok, fun H' o kx _ hl => ?_⟩
    have sm := sum_short (lines_short bok rok pok)
    have ln := planLines_len pok
    have := bok.n4
    have := rok.n4
    have e3 : (("\n" : Str)).length = 1 := by decide +kernel
    refine ⟨_, o, _, rfl, rfl, .inl (SqL.of hl), ?_, q _ kx⟩
    rw [e3]
    omega
def spCertText : Sp := fun vs H Q _ => ∃ (bv rv cv : V) (b : Basin) (rs : List Rt) (p : Plan) (gs : List (List Cell)) (a : Addr) (x y : V), vs = [bv, rv, cv] ∧ BasinAt H bv b ∧ RightsAt H rv rs ∧ cv = .ref a ∧ H a = some (.tup [x, y]) ∧ PlanAt H x p ∧ RegsAt H y gs ∧
  BasinOk b ∧ RightsOk rs ∧ PlanOk b rs p ∧ (∀ r ∈ gs, CellsIn b r) ∧ gs.length ≤ 4 ∧ ∀ H', Kx [] H H' → Q (.str (certText b rs p gs)) H'
theorem ok_certText {f1 f2 : Addr} {fd1 fd2 : FuncData} (D : Df K mg "certificate_text" sCertText f fd) (D1 : Df K mg "plan_lines" sPlanLines f1 fd1) (G1 : FnOk P w K mg base CX0 2 f1 fd1 ["basin", "rights", "plan"] spLines)
    (D2 : Df K mg "region_line" sRegionLine f2 fd2) (G2 : FnOk P w K mg base CX0 1 f2 fd2 ["basin", "region"] spRegLine) : FnOk P w K mg base CX0 3 f fd ["basin", "rights", "certificate"] spCertText := by
  refine okD D.F scCertText (fun vs H Q E h => ?_) (fun cdv A outer s H vs Q E hr h => ?_)
  · obtain ⟨bv, rv, cv, b, rs, p, gs, a, x, y, rfl, _⟩ := h
    rfl
  · obtain ⟨bv, rv, cv, b, rs, p, gs, a, x, y, rfl, hb, hrt, rfl, ha, hpl, hgs, bok, rok, pok, gok, g4, q⟩ := h
    refine ⟨_, pss_cons (ps_asg (pv 2) (pg_tup rfl (pgs_cons (pg_name (i := 3) scCertText.nd rfl (.inl rfl)) (pgs_cons (pg_name (i := 4) scCertText.nd rfl (.inl rfl)) pgs_nil))))
      (pss_one (ps_ret (pe_join pe_str (pe_op op_cat (pe_call G1 hr (by rfl) D1.g D1.F.kp (bdPlanLines D1.F) .nil pass0 (pa_cons (pv 0) (pa_cons (pv 1) (pa_cons (pv 3) pa_nil))))
        (pe_lc (own := [("region", 5)]) (g := gName 5) (tt := tYes) rfl scCertText.nd (pi_tup (pv 4)) (blkOk_by (N := nCertText) (sc := defScope sCertText) (by decide +kernel))
          (fun _ _ _ _ _ => pg_name (i := 5) scCertText.nd rfl (.inl rfl)) (fun _ _ _ _ _ => pts_nil)
          (fun _ _ _ _ _ => pe_call G2 (hr.mono (by decide)) (by rfl) D2.g D2.F.kp (bdRegionLine D2.F) .nil pass0 (pa_cons (pv 0) (pa_cons (pv 5) pa_nil)))))))), ?_⟩
    refine ⟨_, rfl, a, _, rfl, SqT.of ha, rfl, _, _, rfl, _, _, rfl, rfl, ?_⟩
    refine ⟨⟨_, rfl⟩, _, rfl, _, rfl, _, rfl, bv, rv, x, b, rs, p, rfl, hb, hrt, hpl, bok, rok, pok, fun H1 o k1 no hl => ?_⟩
    obtain ⟨ga, gxs, rfl, hga, hgp⟩ := hgs
    refine ⟨_, rfl, ga, rfl, ⟨_, SqT.of (k1.tu _ _ hga)⟩, fun L hL => ?_⟩
    have noL : o ≠ L := fun z => by rw [← z, hl] at hL; cases hL
    refine lc_tup (xs := gxs) (fun i H' => Kx [] H1 H' ∧ StrsL H' L ((gs.take i).map (regS b))) ⟨(Kx.refl _ _).laid hL, upd_same⟩ (fun i H' _ hP => SqT.of (hP.1.tu _ _ (k1.tu _ _ hga))) (fun i z H' hz hP => ?_) (fun H' hP => ?_)
    · obtain ⟨kx, eL⟩ := hP
      obtain ⟨r, hri, hr2⟩ := pgetL hgp hz
      refine ⟨rfl, ?_⟩
      refine ⟨_, rfl, _, rfl, bv, z, b, r, rfl, (k1.trans kx).basin hb, (k1.trans kx).reg hr2, bok, gok r (List.mem_of_getElem? hri), fun H2 k2 => ?_⟩
      refine ⟨_, k2.lst0 eL, ?_, (kx.trans k2).new hL, ?_⟩
      · rw [List.length_map, List.length_map, List.length_take]
        exact small1000 (by omega)
      · rw [List.take_add_one, hri, StrsL, upd_same, List.map_append, List.map_append]
        rfl
    · rw [hgp.length, List.take_length] at hP
      obtain ⟨kx, eL⟩ := hP
      have ln := planLines_len pok
      have := bok.n4
      have := rok.n4
      refine ⟨o, L, _, _, rfl, rfl, kx.lst0 hl, eL, ?_, fun C hC => ?_⟩
      · rw [List.length_map, List.length_map, List.length_map, ln]
        exact Nat.le_of_lt (small1000 (by omega))
      · have shrt : ∀ l ∈ planLines b rs p ++ gs.map (regS b), l.length ≤ 300 := by
          intro l hl
          rcases List.mem_append.mp hl with hl | hl
          · have := lines_short bok rok pok l hl
            omega
          · obtain ⟨r, hr3, rfl⟩ := List.mem_map.mp hl
            exact reg_short bok (gok r hr3)
        have sm := sum_short shrt
        have e4 : (planLines b rs p ++ gs.map (regS b)).length ≤ 20 := by
          rw [List.length_append, List.length_map, ln]
          omega
        have e3 : (("\n" : Str)).length = 1 := by decide +kernel
        rw [← List.map_append]
        refine ⟨_, C, _, rfl, rfl, .inl (SqL.of upd_same), ?_, q _ (k1.trans (kx.laid hC))⟩
        rw [e3]
        omega
end
end K15
set_option Elab.async false
set_option linter.all false
set_option maxRecDepth 100000
set_option maxHeartbeats 4000000
/-! read_row, read_cell, read_region -/
namespace K15
open PySem PySem.Spec PyProof.Rows L2
section
variable {P : Program} {w : World} {K : PySem.W.Frag} {mg : Str → Option Value} {base : Heap} {f : Addr} {fd : FuncData}
theorem strOk_of {x : Str} (h : ∀ c ∈ TL.tl x, c ≤ 122) : PyData.strOk x = true := by
  unfold PyData.strOk
  rw [← Array.all_toList, List.all_eq_true]
  intro c hc
  have := h c hc
  exact decide_eq_true (by omega)
theorem NameOk.strOk {x : Str} (h : NameOk x) : PyData.strOk x = true := strOk_of fun c hc => (h.az c hc).2
theorem shaped_two {x y : Str} (h1 : NameOk x) (h2 : NameOk y) : SeqAt.shaped (.list [.str x, .str y]) = true := by
  have e : (PyData.list [.str x, .str y]).depth ≤ 64 := by
    simp only [PyData.depth, PyData.depthAll]
    decide
  unfold SeqAt.shaped
  rw [decide_eq_true e]
  simp only [PyData.canLay0, PyData.canLayAll0, h1.strOk, h2.strOk, Bool.and_self]
def spReadRow (T1 : Addr) : Sp := fun vs H Q _ => ∃ (bv hv : V) (b : Basin) (h : Str × Str) (row : List Int), vs = [bv, hv, .str (lineS h.1 h.2 row)] ∧ BasinAt H bv b ∧ HeadAt H hv h ∧ NameOk h.1 ∧ NameOk h.2 ∧ RowOk b.months row ∧ b.months ≤ 4 ∧ GxR.TabG H T1 ∧
  ∀ H' v, Kx [] H H' → RowAt H' v row → Q v H'
theorem ok_readRow {T1 f1 f2 : Addr} {fd1 fd2 : FuncData} (D : Df K mg "read_row" sReadRow f fd) (D1 : Df K mg "check" sCheck f1 fd1) (D2 : Df K mg "number_of" sNumberOf f2 fd2) (G2 : FnOk P w K mg base CX0 2 f2 fd2 ["piece"] (spNum T1))
    (mL : mg "len" = none) (mT : mg "tuple" = none) : FnOk P w K mg base CX0 3 f fd ["basin", "head", "line"] (spReadRow T1) := by
  have G1 : FnOk P w K mg base CX0 1 f1 fd1 ["holds"] spCheck := ok_check D1
  refine okD D.F scReadRow (fun vs H Q E h => ?_) (fun cdv A outer s H vs Q E hr h => ?_)
  · obtain ⟨bv, hv, b, h, row, rfl, _⟩ := h
    rfl
  · obtain ⟨bv, hv, b, h, row, rfl, hb, ⟨hA, rfl, hhA⟩, ok1, ok2, rok, m4, hT, q⟩ := h
    refine ⟨_, pss_cons (ps_set (i := 3) scReadRow.nd rfl (.inl rfl) (pe_split (pv 2) pe_str))
      (pss_cons (ps_expr (pe_call G1 (hr.mono (by decide)) (by rfl) D1.g D1.F.kp (bdCheck D1.F) .nil pass0 (pa_cons
        (pe_and (pe_cmpR (op_eqD hr.units) (pe_slice sl_list (pv 3) po_none (po_some (pe_callB call_len_seq (by rfl) mL PySem.boot_len (pa_cons (pv 1) pa_nil)))) (pv 1) (nomark _))
          (pe_one (pe_cmpR op_eq (pe_callB call_len_seq (by rfl) mL PySem.boot_len (pa_cons (pv 3) pa_nil)) (pe_op op_add (pe_callB call_len_seq (by rfl) mL PySem.boot_len (pa_cons (pv 1) pa_nil)) (pe_ix ix_tup (pv 0) pe_int (fun _ _ => rfl))) (nomark _)))) pa_nil)))
      (pss_one (ps_ret (pe_callTy call_tuple_of (by rfl) mT (by decide +kernel) (pa_cons (pe_lc (own := [("piece", 4)]) (g := gName 4) (tt := tYes) rfl scReadRow.nd
        (pi_list (pe_slice sl_list (pv 3) (po_some (pe_callB call_len_seq (by rfl) mL PySem.boot_len (pa_cons (pv 1) pa_nil))) po_none)) (blkOk_by (N := nReadRow) (sc := defScope sReadRow) (by decide +kernel))
        (fun _ _ _ _ _ => pg_name (i := 4) scReadRow.nd rfl (.inl rfl)) (fun _ _ _ _ _ => pts_nil)
        (fun _ _ _ _ _ => pe_call G2 hr (by rfl) D2.g D2.F.kp (bdNumberOf D2.F) .nil pass0 (pa_cons (pv 4) pa_nil))) pa_nil))))), ?_⟩
    obtain ⟨a, x, rfl, ha, c, ys, rfl, hc, hp⟩ := hb
    have lz : (1000 : Nat) ≤ sizeLine := by decide
    have ll := line_short ok1 ok2 rok
    have : (b.months + 2) * 7 ≤ 42 := by omega
    refine ⟨_, rfl, ⟨_, rfl⟩, _, _, rfl, rfl, by decide +kernel, by omega, fun L hL => ?_⟩
    rw [show Txt.split (lineS h.1 h.2 row) (" " : Str) = pieces h.1 h.2 row from line_split ok1 ok2 rok]
    have k1 : Kx [] H (upd H L (.lst ((pieces h.1 h.2 row).map V.str))) := (Kx.refl _ _).laid hL
    have hA1 := k1.lst0 hhA
    refine ⟨_, rfl, _, rfl, hA, _, rfl, .inl (SqL.of hA1), _, rfl, L, _, rfl, SqL.of upd_same, fun C hC => ?_⟩
    have k2 : Kx [] H (upd (upd H L (.lst ((pieces h.1 h.2 row).map V.str))) C (.lst (cutV ((pieces h.1 h.2 row).map V.str) none (some ((([V.str h.1, V.str h.2] : List V).length : Nat) : Int))))) := k1.laid hC
    have ec : cutV ((pieces h.1 h.2 row).map V.str) none (some ((([V.str h.1, V.str h.2] : List V).length : Nat) : Int)) = [V.str h.1, V.str h.2] := cut_to _ 2
    rw [ec] at k2 ⊢
    have dA : Dp K (upd (upd H L (.lst ((pieces h.1 h.2 row).map V.str))) C (.lst [V.str h.1, V.str h.2])) (.ref C) (.list [.str h.1, .str h.2]) := .lst (SqL.of upd_same) (.cons (.str _) (.cons (.str _) .nil))
    have dB : Dp K (upd (upd H L (.lst ((pieces h.1 h.2 row).map V.str))) C (.lst [V.str h.1, V.str h.2])) (.ref hA) (.list [.str h.1, .str h.2]) := .lst (SqL.of (k2.lst0 hhA)) (.cons (.str _) (.cons (.str _) .nil))
    refine ⟨_, rfl, _, _, dA, dB, shaped_two ok1 ok2, shaped_two ok1 ok2, _, rfl, ?_⟩
    rw [show PyData.eqv (.list [.str h.1, .str h.2]) (.list [.str h.1, .str h.2]) = true by simp [PyData.eqv, PyData.eqvAll]]
    refine iteT ?_
    have nCL : L ≠ C := fun z => by rw [← z, upd_same] at hC; cases hC
    have eL : upd (upd H L (.lst ((pieces h.1 h.2 row).map V.str))) C (.lst [V.str h.1, V.str h.2]) L = some (.lst ((pieces h.1 h.2 row).map V.str)) := by rw [upd_ne nCL, upd_same]
    refine ⟨_, rfl, L, _, rfl, .inl (SqL.of eL), _, rfl, hA, _, rfl, .inl (SqL.of (k2.lst0 hhA)), _, rfl, a, _, 0, _, rfl, rfl, SqT.of (k2.tu _ _ ha), atI_nat (j := 0) rfl, _, _, rfl, rfl, rfl, ?_, ?_⟩
    · have e1 : ((((pieces h.1 h.2 row).map V.str).length : Nat) : Int) = ((([V.str h.1, V.str h.2] : List V).length : Nat) : Int) + (b.months : Nat) := by
        rw [List.length_map, pieces_len, rok.1]
        simp only [List.length_cons, List.length_nil]
        omega
      rw [e1, decide_eq_true rfl]
      rfl
    -- the numbers
    refine ⟨_, rfl, _, rfl, hA, _, rfl, .inl (SqL.of (k2.lst0 hhA)), _, rfl, L, _, rfl, SqL.of eL, fun C2 hC2 => ⟨C2, rfl, ⟨_, SqL.of upd_same⟩, fun D hD => ?_⟩⟩
    have ec2 : cutV ((pieces h.1 h.2 row).map V.str) (some ((([V.str h.1, V.str h.2] : List V).length : Nat) : Int)) none = (row.map numS).map V.str := cut_from _ 2
    rw [ec2] at hD ⊢
    have k3 := k2.laid (o := .lst ((row.map numS).map V.str)) hC2
    have nDC : C2 ≠ D := fun z => by rw [← z, upd_same] at hD; cases hD
    refine lc_list (xs := (row.map numS).map V.str) (fun i H' => Kx [] H H' ∧ H' C2 = some (.lst ((row.map numS).map V.str)) ∧ H' D = some (.lst ((row.take i).map V.int))) ⟨k3.laid hD, by rw [upd_ne nDC, upd_same], by rw [upd_same]; rfl⟩ (fun i H' _ hP => SqL.of hP.2.1) (fun i x H' hx hP => ?_) (fun H' hP => ?_)
    · obtain ⟨kx, e1, eD⟩ := hP
      rw [List.getElem?_map, List.getElem?_map, Option.map_map] at hx
      obtain ⟨n, hn, rfl⟩ := Option.map_eq_some_iff.mp hx
      have nb := rok.2 n (List.mem_of_getElem? hn)
      refine ⟨rfl, ?_⟩
      refine ⟨_, rfl, n, rfl, nb.1, nb.2, kx.tabG hT, fun H2 k22 => ⟨_, k22.lst0 eD, ?_, ?_, ?_, ?_⟩⟩
      · have := rok.1
        rw [List.length_map, List.length_take]
        exact small1000 (by omega)
      · exact (kx.trans k22).new (k3.th _ hD)
      · rw [upd_ne nDC]
        exact k22.lst0 e1
      · rw [upd_same, List.take_add_one, hn, List.map_append]
        rfl
    · rw [List.length_map, List.length_map, List.take_length] at hP
      obtain ⟨kx, e1, eD⟩ := hP
      exact ⟨D, _, rfl, .inl ⟨SqL.of eD, fun T hT2 => q _ _ (kx.laid hT2) ⟨T, rfl, upd_same⟩⟩⟩
end
end K15
set_option Elab.async false
set_option linter.all false
set_option maxRecDepth 100000
set_option maxHeartbeats 4000000
/-! read_cell, read_region -/
namespace K15
open PySem PySem.Spec PyProof.Rows L2
section
variable {X : Cx} {o e : Expr} {es : List Expr} {to : TE} {t : TA} {name : Str} {apos cpos : Pos} {T id : String} {r : V → List V → Hp → VK → Prop}
/-- pe_bm, the written part by its own name -/
theorem pe_bmK {K : PySem.W.Frag} (hK : X.K = K) (pa : PlainAttrs T) (slot : Slot T name id) (hty : typeOf (.builtin id) = pure (.type "method_descriptor")) (hm : MtR X id r) (ho : PE X o to) (ha : PA X (e :: es) t)
    (hbase : attributeBase o name X.env (eval o X.env) = eval o X.env := by rfl)
    (hfew : ((backTo cpos (starEach (e :: es) X.env)).all (fun x => !x.1) && (backToKw cpos (keywordEach [] X.env)).all (fun x => x.1.isSome)
      && decide ((e :: es).length + ([] : List Keyword).length + (if ([] : List Keyword).isEmpty then 0 else 1) < 30)) = true := by rfl)
    (hline : (apos.endLine == cpos.line) = true := by rfl) (hs : starEach (e :: es) X.env = (false, eval e X.env) :: starEach es X.env := by rfl) (hplain : (backTo cpos (starEach es X.env)).any (·.1) = false := by rfl) :
    PE X (.Call (.Attribute o name apos) (e :: es) [] cpos) (tBM K T r to t) := by
  subst hK
  exact pe_bm pa slot hty hm ho ha hbase hfew hline hs hplain
end
/-! ### places -/
def posN (n : Nat) (c : Cell) : Nat := c.2 * n + c.1
theorem cellsTo_get (n : Nat) : ∀ (m : Nat) (c : Cell), c.1 < n → c.2 < m → (cellsTo n m)[posN n c]? = some c := by
  intro m
  induction m with
  | zero => intro c _ h; exact absurd h (Nat.not_lt_zero _)
  | succ m ih =>
    intro c h1 h2
    rw [cellsTo_succ]
    by_cases h : c.2 < m
    · have e := ih c h1 h
      rw [List.getElem?_append_left (by exact (List.getElem?_eq_some_iff.mp e).1)]
      exact e
    · have e2 : c.2 = m := by omega
      have e3 : posN n c = m * n + c.1 := by unfold posN; rw [e2]
      rw [e3, List.getElem?_append_right (by rw [cellsTo_len]; omega), cellsTo_len, Nat.add_sub_cancel_left, List.getElem?_map, List.getElem?_range h1]
      simp only [Option.map_some, ← e2]
theorem cellsTo_inv (n : Nat) : ∀ (m i : Nat) (c : Cell), (cellsTo n m)[i]? = some c → i = posN n c ∧ c.1 < n ∧ c.2 < m := by
  intro m
  induction m with
  | zero => intro i c h; simp [cellsTo] at h
  | succ m ih =>
    intro i c h
    rw [cellsTo_succ] at h
    by_cases hi : i < (cellsTo n m).length
    · rw [List.getElem?_append_left hi] at h
      obtain ⟨h1, h2, h3⟩ := ih i c h
      exact ⟨h1, h2, by omega⟩
    · rw [List.getElem?_append_right (by omega), List.getElem?_map, cellsTo_len] at h
      rw [cellsTo_len] at hi
      obtain ⟨j, hj, rfl⟩ := Option.map_eq_some_iff.mp h
      obtain ⟨hj1, hj2⟩ := List.getElem?_eq_some_iff.mp hj
      rw [List.getElem_range] at hj2
      rw [List.length_range] at hj1
      subst hj2
      refine ⟨?_, hj1, Nat.lt_succ_self m⟩
      show i = m * n + (i - m * n)
      omega
/-- a region's cells: of the basin, in order, not none -/
structure RegOk (b : Basin) (r : List Cell) : Prop where
  cin : CellsIn b r
  ne : r ≠ []
  ord : ∀ (i : Nat) (c d : Cell), r[i]? = some c → r[i + 1]? = some d → posN b.sites.length c < posN b.sites.length d
theorem rising_of {n : Nat} {r : List Cell} (h : ∀ (i : Nat) (c d : Cell), r[i]? = some c → r[i + 1]? = some d → posN n c < posN n d) : rising (r.map fun c => ((posN n c : Nat) : Int)) = true := by
  unfold rising
  rw [List.all_eq_true]
  intro j hj
  have hj := List.mem_range.mp hj
  rw [List.length_map] at hj
  have h1 : j < r.length := by omega
  have h2 : j + 1 < r.length := by omega
  rw [List.getD_eq_getElem?_getD, List.getD_eq_getElem?_getD, List.getElem?_map, List.getElem?_map, List.getElem?_eq_getElem h1, List.getElem?_eq_getElem h2]
  exact decide_eq_true (Int.ofNat_lt.mpr (h j _ _ (List.getElem?_eq_getElem h1) (List.getElem?_eq_getElem h2)))
theorem cellD_eqv (c d : Cell) : PyData.eqv (cellD c) (cellD d) = decide (c = d) := by
  obtain ⟨c1, c2⟩ := c
  obtain ⟨d1, d2⟩ := d
  rw [Bool.eq_iff_iff, decide_eq_true_eq]
  simp only [cellD, PyData.eqv, PyData.eqvAll, Bool.and_true, Bool.and_eq_true, beq_iff_eq, Prod.mk.injEq]
  omega
theorem cellD_lay (c : Cell) : (cellD c).canLay0 = true := by simp [cellD, PyData.canLay0, PyData.canLayAll0]
theorem cellsD_lay : ∀ cs : List Cell, PyData.canLayAll0 (cs.map cellD) = true
  | [] => rfl
  | c :: cs => by
    show ((cellD c).canLay0 && PyData.canLayAll0 (cs.map cellD)) = true
    rw [cellD_lay, cellsD_lay cs]
    rfl
theorem cellD_depth (c : Cell) : (cellD c).depth ≤ 2 := by
  simp only [cellD, PyData.depth, PyData.depthAll]
  decide
theorem cellsD_depth : ∀ cs : List Cell, PyData.depthAll (cs.map cellD) ≤ 2
  | [] => by simp [PyData.depthAll]
  | c :: cs => by
    have h1 := cellD_depth c
    have h2 := cellsD_depth cs
    simp only [List.map_cons, PyData.depthAll]
    omega
theorem shaped_cell (c : Cell) : SeqAt.shaped (cellD c) = true := by
  unfold SeqAt.shaped
  rw [cellD_lay, decide_eq_true (by have := cellD_depth c; omega)]
  rfl
theorem shaped_cells (cs : List Cell) : SeqAt.shaped (.list (cs.map cellD)) = true := by
  unfold SeqAt.shaped
  have e : (PyData.list (cs.map cellD)).depth ≤ 64 := by
    have := cellsD_depth cs
    simp only [PyData.depth]
    omega
  rw [decide_eq_true e]
  simp only [PyData.canLay0, cellsD_lay, Bool.and_self]
section
variable {P : Program} {w : World} {K : PySem.W.Frag} {mg : Str → Option Value} {base : Heap} {f : Addr} {fd : FuncData}
/-! ### read_cell -/
def spReadCell (T1 : Addr) : Sp := fun vs H Q _ => ∃ (bv : V) (b : Basin) (c : Cell), vs = [bv, .str (cellS b c)] ∧ BasinAt H bv b ∧ BasinOk b ∧ c.1 < b.sites.length ∧ c.2 < b.months ∧ GxR.TabG H T1 ∧ ∀ H' v, Kx [] H H' → CellAt H' v c → Q v H'
theorem ok_readCell {T1 f1 f2 f3 : Addr} {fd1 fd2 fd3 : FuncData} (D : Df K mg "read_cell" sReadCell f fd) (D1 : Df K mg "check" sCheck f1 fd1) (D2 : Df K mg "number_of" sNumberOf f2 fd2) (G2 : FnOk P w K mg base CX0 2 f2 fd2 ["piece"] (spNum T1))
    (D3 : Df K mg "site_number" sSiteNumber f3 fd3) (G3 : FnOk P w K mg base CX0 1 f3 fd3 ["basin", "name"] spSite) (mL : mg "len" = none) : FnOk P w K mg base CX0 3 f fd ["basin", "piece"] (spReadCell T1) := by
  have G1 : FnOk P w K mg base CX0 1 f1 fd1 ["holds"] spCheck := ok_check D1
  refine okD D.F scReadCell (fun vs H Q E h => ?_) (fun cdv A outer s H vs Q E hr h => ?_)
  · obtain ⟨bv, b, c, rfl, _⟩ := h
    rfl
  · obtain ⟨bv, b, c, rfl, hb, bok, h1, h2, hT, q⟩ := h
    refine ⟨_, pss_cons (ps_set (i := 2) scReadCell.nd rfl (.inl rfl) (pe_split (pv 1) pe_str))
      (pss_cons (ps_expr (pe_call G1 (hr.mono (by decide)) (by rfl) D1.g D1.F.kp (bdCheck D1.F) .nil pass0 (pa_cons
        (pe_and (pe_cmpR op_eq (pe_callB call_len_seq (by rfl) mL PySem.boot_len (pa_cons (pv 2) pa_nil)) pe_int (nomark _))
          (pe_one (pe_cmpR op_notN (pe_call G3 (hr.mono (by decide)) (by rfl) D3.g D3.F.kp (bdSiteNumber D3.F) .nil pass0 (pa_cons (pv 0) (pa_cons (pe_ix ix_list (pv 2) pe_int (fun _ _ => rfl)) pa_nil))) pe_non (nomark _)))) pa_nil)))
      (pss_cons (ps_set (i := 3) scReadCell.nd rfl (.inl rfl) (pe_call G2 hr (by rfl) D2.g D2.F.kp (bdNumberOf D2.F) .nil pass0 (pa_cons (pe_ix ix_list (pv 2) pe_int (fun _ _ => rfl)) pa_nil)))
      (pss_cons (ps_expr (pe_call G1 (hr.mono (by decide)) (by rfl) D1.g D1.F.kp (bdCheck D1.F) .nil pass0 (pa_cons (pe_cmpR op_lt (pv 3) (pe_ix ix_tup (pv 0) pe_int (fun _ _ => rfl)) (nomark _)) pa_nil)))
      (pss_one (ps_ret (pe_tup (pa_cons (pe_call G3 (hr.mono (by decide)) (by rfl) D3.g D3.F.kp (bdSiteNumber D3.F) .nil pass0 (pa_cons (pv 0) (pa_cons (pe_ix ix_list (pv 2) pe_int (fun _ _ => rfl)) pa_nil))) (pa_cons (pv 3) pa_nil)))))))), ?_⟩
    have m4 := bok.m4
    have nok := nameAt_ok bok h1
    have lz : (1000 : Nat) ≤ sizeLine := by decide
    have ll := cellS_len bok h1 h2
    have esp : Txt.split (cellS b c) ("/" : Str) = [nameAt b c.1, numS (c.2 : Nat)] := split_sl (nok.free (by decide)) (numS_free (by omega) (.inl (by decide)))
    refine ⟨_, rfl, ⟨_, rfl⟩, _, _, rfl, rfl, by decide +kernel, by omega, fun L hL => ?_⟩
    rw [esp]
    have k1 : Kx [] H (upd H L (.lst ([nameAt b c.1, numS (c.2 : Nat)].map V.str))) := (Kx.refl _ _).laid hL
    have es := List.getElem?_eq_getElem h1
    have huq : ∀ (j : Nat) (t : Site), b.sites[j]? = some t → t.name = nameAt b c.1 → j = c.1 := fun j t hj e => bok.nd j c.1 t _ hj es (by rw [e, nameAt_of es])
    have hnm : b.sites[c.1].name = nameAt b c.1 := (nameAt_of es).symm
    refine ⟨_, rfl, L, _, rfl, .inl (SqL.of upd_same), rfl, _, rfl, iteT ?_⟩
    refine ⟨_, rfl, _, rfl, L, _, 0, _, rfl, rfl, SqL.of upd_same, atI_nat (j := 0) rfl, bv, b, _, c.1, _, rfl, k1.basin hb, es, hnm, huq, fun H2 k12 => ⟨rfl, rfl, ?_⟩⟩
    have k2 := k1.trans k12
    have eL2 := k12.lst0 (p := L) upd_same
    refine ⟨_, rfl, L, _, 1, _, rfl, rfl, SqL.of eL2, atI_nat (j := 1) rfl, _, rfl, by omega, by omega, k2.tabG hT, fun H3 k3 => ?_⟩
    have k13 := k2.trans k3
    have hb0 := hb
    obtain ⟨a, x, rfl, ha, hs⟩ := hb
    refine ⟨_, rfl, _, rfl, a, _, 0, _, rfl, rfl, SqT.of (k13.tu _ _ ha), atI_nat (j := 0) rfl, _, _, rfl, rfl, ?_, ?_⟩
    · show [V.bl (decide (((c.2 : Nat) : Int) < ((b.months : Nat) : Int)))] ++ [] = [V.bl true]
      rw [decide_eq_true (show ((c.2 : Nat) : Int) < ((b.months : Nat) : Int) by omega)]
      rfl
    refine ⟨_, rfl, _, rfl, L, _, 0, _, rfl, rfl, SqL.of (k3.lst0 eL2), atI_nat (j := 0) rfl, _, b, _, c.1, _, rfl, k13.basin hb0, es, hnm, huq, fun H4 k34 => ?_⟩
    have k4 := k13.trans k34
    exact ⟨_, rfl, by show 2 ≤ sizeLine; decide, fun T hT => q _ _ (k4.laid hT) ⟨T, rfl, upd_same⟩⟩

/-! ### read_region -/
theorem regS_split {b : Basin} {r : List Cell} (hb : BasinOk b) (hr : CellsIn b r) : Txt.split (regS b r) sSp = wRegion :: r.map (cellS b) := by
  refine split_sp (by simp) fun p hp => ?_
  rcases List.mem_cons.mp hp with rfl | hp
  · exact region_ok.free (by decide)
  · obtain ⟨c, hc, rfl⟩ := List.mem_map.mp hp
    have h1 := hr.s c hc
    have h2 := hr.m c hc
    unfold cellS
    rw [TL.tl_append, TL.tl_append, tl_sl]
    simp only [List.mem_append, not_or]
    exact ⟨⟨(nameAt_ok hb h1).free (by decide), by decide⟩, numS_free (by omega) (.inl (by decide))⟩
theorem cellsL_dp {H : Hp} {p : Addr} {cs : List Cell} (h : CellsL H p cs) : Dp K H (.ref p) (.list (cs.map cellD)) := by
  obtain ⟨xs, e, pr⟩ := h
  exact .lst (SqL.of e) (dpAll_of (f := cellD) (fun _ _ => CellAt.dp) pr)
theorem CellsL.kx {H H' : Hp} {p : Addr} {cs : List Cell} (h : CellsL H p cs) (k : Kx [] H H') : CellsL H' p cs := by
  obtain ⟨xs, e, pr⟩ := h
  exact ⟨xs, k.lst0 e, pr.mono fun _ _ => k.cell⟩
theorem hu65 {k : Nat} {A : Around} (r : Room k A) : A.units + 65 < cLine := by
  have := r.un
  omega
def spReadRegion (T1 T2 : Addr) : Sp := fun vs H Q _ => ∃ (bv : V) (b : Basin) (r : List Cell), vs = [bv, .str (regS b r)] ∧ BasinAt H bv b ∧ BasinOk b ∧ RegOk b r ∧ GxR.TabG H T1 ∧ GxR.TabG H T2 ∧ ∀ H' v, Kx [] H H' → RegAt H' v r → Q v H'
theorem ok_readRegion {c2 T1 T2 f1 f2 f3 : Addr} {fd1 fd2 fd3 : FuncData} {tR : Tok} (D : Df K mg "read_region" sReadRegion f fd) (hc : fd.code = .ref c2) (TB : GxR.TabB base mg c2 T2) (D1 : Df K mg "check" sCheck f1 fd1) (D2 : Df K mg "read_cell" sReadCell f2 fd2) (G2 : FnOk P w K mg base CX0 3 f2 fd2 ["basin", "piece"] (spReadCell T1))
    (D3 : Df K mg "cells" sCells f3 fd3) (G3 : FnOk P w K mg base CX0 1 f3 fd3 ["basin"] spCells) (mL : mg "len" = none) (mA : mg "all" = none) (mG : mg "range" = none) (mT : mg "tuple" = none) (mR : mg "REGION" = some (.str wRegion tR)) :
    FnOk P w K mg base CX0 4 f fd ["basin", "line"] (spReadRegion T1 T2) := by
  have G1 : FnOk P w K mg base CX0 1 f1 fd1 ["holds"] spCheck := ok_check D1
  refine okDc D.F hc scReadRegion (fun vs H Q E h => ?_) (fun A outer s H vs Q E hr h => ?_)
  · obtain ⟨bv, b, r, rfl, _⟩ := h
    rfl
  · obtain ⟨bv, b, r, rfl, hb, bok, rok, hT1, hT2, q⟩ := h
    refine ⟨_, pss_cons (ps_set (i := 2) scReadRegion.nd rfl (.inl rfl) (pe_split (pv 1) pe_str))
      (pss_cons (ps_expr (pe_call G1 (hr.mono (by decide)) (by rfl) D1.g D1.F.kp (bdCheck D1.F) .nil pass0 (pa_cons
        (pe_and (pe_cmpR op_eq (pe_ix ix_list (pv 2) pe_int (fun _ _ => rfl)) (pe_glob (v := .str wRegion) (by rfl) mR ⟨_, rfl⟩) (nomark _))
          (pe_one (pe_cmpR op_gt (pe_callB call_len_seq (by rfl) mL PySem.boot_len (pa_cons (pv 2) pa_nil)) pe_int (nomark _)))) pa_nil)))
      (pss_cons (ps_set (i := 3) scReadRegion.nd rfl (.inr rfl) (pe_call G3 (hr.mono (by decide)) (by rfl) D3.g D3.F.kp (bdCells D3.F) .nil pass0 (pa_cons (pv 0) pa_nil)))
      (pss_cons (ps_setLc (i := 4) (own := [("piece", 6)]) (g := gName 6) (tt := tYes) rfl scReadRegion.nd rfl rfl (sw_true rfl rfl rfl (by decide +kernel)) (pi_list (pe_slice sl_list (pv 2) (po_some pe_int) po_none))
        (blkOk_by (N := nReadRegion) (sc := defScope sReadRegion) (by decide +kernel)) (fun _ _ _ _ _ => pg_name (i := 6) scReadRegion.nd rfl (.inl rfl)) (fun _ _ _ _ _ => pts_nil)
        (fun _ _ _ _ _ => pe_call G2 hr (by rfl) D2.g D2.F.kp (bdReadCell D2.F) .nil pass0 (pa_cons (pv 0) (pa_cons (pv 6) pa_nil))))
      (pss_cons (ps_set (i := 5) scReadRegion.nd rfl (.inr rfl) (pe_lc (own := [("cell", 7)]) (g := gName 7) (tt := tYes) rfl scReadRegion.nd (pi_list (pv 4))
        (blkOk_by (N := nReadRegion) (sc := defScope sReadRegion) (by decide +kernel)) (fun _ _ _ _ _ => pg_name (i := 7) scReadRegion.nd rfl (.inl rfl)) (fun _ _ _ _ _ => pts_nil)
        (fun _ _ _ _ _ => pe_bmK (K := K) (r := rIndexD K) rfl PySem.F.plainAttrs_list PySem.F.slot_list_index PySem.F.type_list_index (mt_indexD (hu65 hr)) (pv 3) (pa_cons (pv 7) pa_nil))))
      (pss_cons (ps_expr (pe_call G1 (hr.mono (by decide)) (by rfl) D1.g D1.F.kp (bdCheck D1.F) .nil pass0 (pa_cons
        (pe_allLt (i := 5) hr (by rfl) mA (by rfl) mG TB rfl ⟨rfl, rfl, by decide, rfl, rfl, fun y hy e => ?_⟩ (pa_cons (pe_op op_sub (pe_callB call_len_seq (by rfl) mL PySem.boot_len (pa_cons (pv 5) pa_nil)) pe_int) pa_nil) rfl rfl rfl (fun _ => rfl) (fun _ => by rfl)) pa_nil)))
      (pss_one (ps_ret (pe_callTy call_tuple_of (by rfl) mT (by decide +kernel) (pa_cons (pv 4) pa_nil))))))))), ?_⟩
    · have ey : y.1 = "places" := (by decide : ∀ y ∈ ([(Str.ofString ".0", NameKind.local), (Str.ofString "at", NameKind.local), (Str.ofString "places", NameKind.free)] : List (Str × NameKind)), y.2 = .free → y.1 = "places") y hy e
      rw [ey]
      exact cell_has rfl
    · have m4 := bok.m4
      have n4 := bok.n4
      have cin := rok.cin
      have rl := cin.n
      have r1 : 1 ≤ r.length := by
        have := rok.ne
        cases r with
        | nil => exact absurd rfl this
        | cons _ _ => simp
      have lz : (1000 : Nat) ≤ sizeLine := by decide
      have ll := reg_short bok cin
      refine ⟨_, rfl, ⟨_, rfl⟩, _, _, rfl, rfl, by decide +kernel, by omega, fun L hL => ?_⟩
      rw [show Txt.split (regS b r) (" " : Str) = wRegion :: r.map (cellS b) from regS_split bok cin]
      have k1 : Kx [] H (upd H L (.lst ((wRegion :: r.map (cellS b)).map V.str))) := (Kx.refl _ _).laid hL
      refine ⟨_, rfl, L, _, 0, _, rfl, rfl, SqL.of upd_same, atI_nat (j := 0) rfl, rfl, _, rfl, iteD rfl ?_⟩
      refine ⟨_, rfl, L, _, rfl, .inl (SqL.of upd_same), _, _, rfl, rfl, ?_, ?_⟩
      · have e1 : (1 : Int) < ((((wRegion :: r.map (cellS b)).map V.str).length : Nat) : Int) := by
          simp only [List.length_map, List.length_cons]
          omega
        show [V.bl (decide ((1 : Int) < ((((wRegion :: r.map (cellS b)).map V.str).length : Nat) : Int)))] ++ [] = [V.bl true]
        rw [decide_eq_true e1]
        rfl
      refine ⟨_, rfl, bv, b, rfl, k1.basin hb, m4, n4, fun H2 Ev k12 nE hE => ?_⟩
      have k2 := k1.trans k12
      have eL := k12.lst0 (p := L) upd_same
      refine ⟨_, rfl, _, rfl, L, _, rfl, SqL.of eL, fun C hC => ⟨C, rfl, ⟨_, SqL.of upd_same⟩, fun D hD => ?_⟩⟩
      have ec : cutV ((wRegion :: r.map (cellS b)).map V.str) (some 1) none = (r.map (cellS b)).map V.str := cut_from _ 1
      rw [ec] at hD ⊢
      have k3 := k2.laid (o := .lst ((r.map (cellS b)).map V.str)) hC
      have k23 := (Kx.refl [] H2).laid (o := .lst ((r.map (cellS b)).map V.str)) hC
      have hE3 := hE.kx k23
      have nDC : C ≠ D := fun z => by rw [← z, upd_same] at hD; cases hD
      refine lc_list (xs := (r.map (cellS b)).map V.str) (fun i H' => Kx [] (upd H2 C (.lst ((r.map (cellS b)).map V.str))) H' ∧ ListR CellAt H' D (r.take i)) ⟨(Kx.refl _ _).laid hD, .new⟩ (fun i H' _ hP => SqL.of (hP.1.lst0 upd_same)) (fun i x H' hx hP => ?_) (fun H' hP => ?_)
      · obtain ⟨kx, hl⟩ := hP
        rw [List.getElem?_map, List.getElem?_map, Option.map_map] at hx
        obtain ⟨c, hc', rfl⟩ := Option.map_eq_some_iff.mp hx
        have hm := List.mem_of_getElem? hc'
        have kk := k3.trans kx
        refine ⟨rfl, ?_⟩
        refine ⟨_, rfl, _, rfl, bv, b, c, rfl, kk.basin hb, bok, cin.s c hm, cin.m c hm, kk.tabG hT1, fun H5 v k5 hv => ?_⟩
        obtain ⟨xs, e1, e2, e3⟩ := hl.snoc stb_cell k5 hv
        refine ⟨xs, e1, ?_, (kx.trans k5).new hD, ?_⟩
        · rw [e2, List.length_take]
          exact small1000 (by omega)
        · rw [List.take_add_one, hc']
          exact e3
      · rw [List.length_map, List.length_map, List.take_length] at hP
        obtain ⟨kx, hl⟩ := hP
        have k6 := k3.trans kx
        have hE6 := hE3.kx kx
        obtain ⟨xs, eD, pD⟩ := hl
        refine ⟨_, rfl, D, rfl, ⟨_, SqL.of eD⟩, fun M hM => ?_⟩
        refine lc_list (xs := xs) (fun i H'' => Kx [] H' H'' ∧ H'' M = some (.lst (((r.take i).map fun c => ((posN b.sites.length c : Nat) : Int)).map V.int))) ⟨(Kx.refl _ _).laid hM, upd_same⟩ (fun i H'' _ hP => SqL.of (hP.1.lst0 eD)) (fun i x H'' hx hP => ?_) (fun H'' hP => ?_)
        · obtain ⟨kx2, eM⟩ := hP
          obtain ⟨c, hc', cAt⟩ := pgetL pD hx
          have hm := List.mem_of_getElem? hc'
          have hE7 := hE6.kx kx2
          have cdp := (kx2.cell cAt).dp (K := K)
          have edp := cellsL_dp (K := K) hE7
          have cg := cellsTo_get b.sites.length b.months c (cin.s c hm) (cin.m c hm)
          obtain ⟨exs, eE, _⟩ := id hE7
          refine ⟨rfl, ?_⟩
          refine ⟨_, rfl, .inl ⟨rfl, _, SqL.of eE⟩, _, rfl, Ev, x, cellD c, (cellsOf b).map cellD, posN b.sites.length c, cellD c, rfl, rfl, edp, cdp, shaped_cells _, shaped_cell _, ?_, ?_, ?_, ?_⟩
          · rw [List.getElem?_map]
            show Option.map cellD ((cellsTo b.sites.length b.months)[_]?) = _
            rw [cg]
            rfl
          · rw [cellD_eqv]
            exact decide_eq_true rfl
          · intro m z' hm' hz'
            rw [List.getElem?_map] at hz'
            obtain ⟨c', hc2, rfl⟩ := Option.map_eq_some_iff.mp hz'
            rw [cellD_eqv]
            refine decide_eq_false fun e => ?_
            subst e
            have := (cellsTo_inv _ _ _ _ hc2).1
            omega
          · refine ⟨_, eM, ?_, kx2.new hM, ?_⟩
            · rw [List.length_map, List.length_map, List.length_take]
              exact small1000 (by omega)
            · rw [upd_same, List.take_add_one, hc', List.map_append, List.map_append]
              rfl
        · rw [pD.length, List.take_length] at hP
          obtain ⟨kx2, eM⟩ := hP
          have k7 := k6.trans kx2
          refine ⟨_, rfl, M, _, rfl, .inl (SqL.of eM), _, _, rfl, rfl, M, _, rfl, ?_, SqL.of eM, ?_, k7.tabG hT2, fun H8 k8 => ?_⟩
          · rw [List.length_map]
          · rw [List.length_map]
            omega
          · rw [rising_of rok.ord]
            refine ⟨rfl, ?_⟩
            have k9 := (Kx.refl [] H'').tab (k7.tabG hT2) k8
            have k79 := k7.trans k9
            have eD9 := k9.lst0 (kx2.lst0 eD)
            exact ⟨_, rfl, D, xs, rfl, .inl ⟨SqL.of eD9, fun T hT => q _ _ (k79.laid hT) ⟨T, xs, rfl, upd_same, pD.mono fun _ _ z => (((kx2.trans k9).laid hT).cell z)⟩⟩⟩
end
end K15
set_option Elab.async false
set_option linter.all false
set_option maxRecDepth 100000
set_option maxHeartbeats 4000000
/-! read_lines, parse_plan, parse_certificate -/
namespace K15
open PySem PySem.Spec PyProof.Rows L2
/-- over a list with places -/
theorem for_enumL {K : PySem.W.Frag} {a : Addr} {xs : List V} {g : TG} {tb : TS} {D : Ends} {σ : L2.St} {H : Hp} (Pv : Nat → L2.St → Hp → Prop) (h0 : Pv 0 σ H) (hl : ∀ i σ H, Pv i σ H → SqL K H a xs)
    (hs : ∀ (i : Nat) (x : V) (T : Addr) (σ : L2.St) (H : Hp), xs[i]? = some x → Pv i σ H → H T = none → g (.ref T) σ (upd H T (.tup [.int (i : Nat), x])) fun σ2 H2 => tb { D with nx := Pv (i + 1), ct := Pv (i + 1), bk := D.nx } σ2 H2) (hd : ∀ σ H, Pv xs.length σ H → D.nx σ H) :
    ∃ W : Nat → Nat → L2.St → Hp → Prop, (∃ m, W 0 m σ H) ∧ ∀ i m σ H, W i m σ H →
      ((Ite K a).stop i H ∧ D.nx σ H) ∨ ((Ite K a).go i H ∧ ∃ N : L2.St → Hp → Prop, (∀ σ' H', N σ' H' → ∃ m', m' < m ∧ W (i + 1) m' σ' H') ∧ ∀ x H', (Ite K a).yld i H x H' → g x σ H' fun σ2 H2 => tb { D with nx := N, ct := N, bk := D.nx } σ2 H2) := by
  refine ⟨fun i m σ H => m = xs.length - i ∧ i ≤ xs.length ∧ Pv i σ H, ⟨xs.length, by simp, Nat.zero_le _, h0⟩, ?_⟩
  rintro i m σ H ⟨rfl, hi, p⟩
  have q := hl i σ H p
  by_cases hlt : i < xs.length
  · refine .inr ⟨⟨xs, xs[i], q, by simp [hlt]⟩, Pv (i + 1), fun σ' H' p' => ⟨xs.length - (i + 1), by omega, rfl, hlt, p'⟩, fun v H' y => ?_⟩
    obtain ⟨T, x, rfl, hT, rfl, y⟩ := y
    exact hs i x T σ H (y xs q) p hT
  · have e : i = xs.length := by omega
    subst e
    exact .inl ⟨⟨xs, q, Nat.le_refl _⟩, hd σ H p⟩
theorem ListR.other {α : Type} {R : Hp → V → α → Prop} {H : Hp} {p q : Addr} {ys : List V} {l : List α} (h : ListR R H p l) (n : p ≠ q) (up : ∀ v y, R H v y → R (upd H q (.lst ys)) v y) : ListR R (upd H q (.lst ys)) p l := by
  obtain ⟨xs, e, pr⟩ := h
  exact ⟨xs, by rw [upd_ne n]; exact e, pr.mono up⟩
section
variable {P : Program} {w : World} {K : PySem.W.Frag} {mg : Str → Option Value} {base : Heap} {f : Addr} {fd : FuncData}
/-! ### read_lines -/
def spReadLines (T1 T2 : Addr) : Sp := fun vs H Q _ => ∃ (bv rv : V) (lA : Addr) (b : Basin) (rs : List Rt) (p : Plan) (gs : List (List Cell)), vs = [bv, rv, .ref lA] ∧ BasinAt H bv b ∧ RightsAt H rv rs ∧ BasinOk b ∧ RightsOk rs ∧ PlanOk b rs p ∧ (∀ r ∈ gs, RegOk b r) ∧ gs.length ≤ 4 ∧
  StrsL H lA (planLines b rs p ++ gs.map (regS b)) ∧ GxR.TabG H T1 ∧ GxR.TabG H T2 ∧ ∀ H' o rA gA, Kx [] H H' → H' o = some (.tup [.ref rA, .ref gA]) → ListR RowAt H' rA (rowsOfP p) → ListR RegAt H' gA gs → Q (.ref o) H'
theorem ok_readLines {T1 T2 f1 f2 f3 : Addr} {fd1 fd2 fd3 : FuncData} (D : Df K mg "read_lines" sReadLines f fd) (D1 : Df K mg "heads" sHeads f1 fd1) (G1 : FnOk P w K mg base CX0 1 f1 fd1 ["basin", "rights"] spHeads)
    (D2 : Df K mg "read_row" sReadRow f2 fd2) (G2 : FnOk P w K mg base CX0 3 f2 fd2 ["basin", "head", "line"] (spReadRow T1)) (D3 : Df K mg "read_region" sReadRegion f3 fd3) (G3 : FnOk P w K mg base CX0 4 f3 fd3 ["basin", "line"] (spReadRegion T1 T2))
    (mL : mg "len" = none) (mE : mg "enumerate" = none) : FnOk P w K mg base CX0 5 f fd ["basin", "rights", "lines"] (spReadLines T1 T2) := by
  refine okD D.F scReadLines (fun vs H Q E h => ?_) (fun cdv A outer s H vs Q E hr h => ?_)
  · obtain ⟨bv, rv, lA, b, rs, p, gs, rfl, _⟩ := h
    rfl
  · obtain ⟨bv, rv, lA, b, rs, p, gs, rfl, hb, hrt, bok, rok, pok, gok, g4, hl, hT1, hT2, q⟩ := h
    refine ⟨_, pss_cons (ps_set (i := 3) scReadLines.nd rfl (.inl rfl) (pe_call G1 (hr.mono (by decide)) (by rfl) D1.g D1.F.kp (bdHeads D1.F) .nil pass0 (pa_cons (pv 0) (pa_cons (pv 1) pa_nil))))
      (pss_cons (ps_set (i := 4) scReadLines.nd rfl (.inl rfl) (pe_lst pa_nil))
      (pss_cons (ps_set (i := 5) scReadLines.nd rfl (.inl rfl) (pe_lst pa_nil))
      (pss_cons (ps_for PassesOwn.never rfl (pi_enum (by rfl) mE (pa_cons (pv 2) pa_nil)) (pg_tup rfl (pgs_cons (pg_name (i := 6) scReadLines.nd rfl (.inl rfl)) (pgs_cons (pg_name (i := 7) scReadLines.nd rfl (.inl rfl)) pgs_nil)))
        (pss_one (ps_try_thru0 (pss_one (ps_if (pt_cmpR op_lt (pv 6) (pe_callB call_len_seq (by rfl) mL PySem.boot_len (pa_cons (pv 3) pa_nil)) (nomark _))
          (pss_one (ps_expr (pe_bm PySem.F.plainAttrs_list PySem.F.slot_list_append PySem.F.type_list_append mt_append (pv 4) (pa_cons (pe_call G2 (hr.mono (by decide)) (by rfl) D2.g D2.F.kp (bdReadRow D2.F) .nil pass0 (pa_cons (pv 0) (pa_cons (pe_ix ix_list (pv 3) (pv 6) (fun _ _ => rfl)) (pa_cons (pv 7) pa_nil)))) pa_nil))))
          (pss_one (ps_expr (pe_bm PySem.F.plainAttrs_list PySem.F.slot_list_append PySem.F.type_list_append mt_append (pv 5) (pa_cons (pe_call G3 hr (by rfl) D3.g D3.F.kp (bdReadRegion D3.F) .nil pass0 (pa_cons (pv 0) (pa_cons (pv 7) pa_nil))) pa_nil)))))))))
      (pss_cons (ps_if (pt_cmpR op_lt (pe_callB call_len_seq (by rfl) mL PySem.boot_len (pa_cons (pv 2) pa_nil)) (pe_callB call_len_seq (by rfl) mL PySem.boot_len (pa_cons (pv 3) pa_nil)) (nomark _)) (pss_one ps_never) pss_nil)
      (pss_one (ps_ret (pe_tup (pa_cons (pv 4) (pa_cons (pv 5) pa_nil))))))))), ?_⟩
    refine ⟨_, rfl, _, rfl, bv, rv, b, rs, rfl, hb, hrt, bok.n4, rok.n4, fun H1 Ex k1 nEx lEx => ?_⟩
    refine ⟨Nat.zero_le _, fun R hR => ?_⟩
    have k2 := k1.laid (o := .lst []) hR
    refine ⟨Nat.zero_le _, fun G hG => ?_⟩
    have k3 := k2.laid (o := .lst []) hG
    have nRG : R ≠ G := fun z => by rw [← z, upd_same] at hG; cases hG
    obtain ⟨hxs, eEx, pEx⟩ := lEx
    have nExR : Ex ≠ R := fun z => by rw [← z, eEx] at hR; cases hR
    have nhR : H R = none := k1.th _ hR
    have nhG : H G = none := k2.th _ hG
    have lnh := headsOf_len b rs
    have n4 := bok.n4
    have r4 := rok.n4
    have plen := planLines_len pok
    generalize hH3 : upd (upd H1 R (.lst [])) G (.lst []) = H3 at *
    have e3R : H3 R = some (.lst []) := by rw [← hH3, upd_ne nRG, upd_same]
    have e3G : H3 G = some (.lst []) := by rw [← hH3, upd_same]
    have k13 : Kx [] H1 H3 := by rw [← hH3]; exact ((Kx.refl [] H1).laid hR).laid hG
    have eEx3 := k13.lst0 eEx
    have pEx3 := pEx.mono fun _ _ z => stb_head.st k13 z
    have nExG : Ex ≠ G := fun z => by
      have := hG
      rw [upd_ne nRG.symm, ← z, eEx] at this
      cases this
    refine ⟨_, rfl, lA, _, rfl, SqL.of (k3.lst0 hl), ?_⟩
    refine for_enumL (xs := (planLines b rs p ++ gs.map (regS b)).map V.str) (fun i σ H' => Kx [R, G] H3 H' ∧ Kx [] H H' ∧ ListR RowAt H' R ((rowsOfP p).take i) ∧ ListR RegAt H' G (gs.take (i - (headsOf b rs).length)) ∧ ∃ y6 y7, σ = [some bv, some rv, some (.ref lA), some (.ref Ex), some (.ref R), some (.ref G), y6, y7])
      ⟨Kx.refl _ _, k3, ⟨[], e3R, .nil⟩, ⟨[], e3G, by rw [Nat.zero_sub]; exact .nil⟩, none, none, rfl⟩ (fun i σ H' hP => SqL.of (hP.2.1.lst0 hl)) (fun i x T σ H' hx hP hT => ?_) (fun σ H' hP => ?_)
    · obtain ⟨kRG, kx, lR, lG, y6, y7, rfl⟩ := hP
      rw [List.getElem?_map] at hx
      obtain ⟨ln, hln, rfl⟩ := Option.map_eq_some_iff.mp hx
      have kT : Kx [] H' (upd H' T (.tup [.int (i : Nat), .str ln])) := (Kx.refl _ _).laid hT
      have kxT := kx.trans kT
      refine ⟨T, _, rfl, SqT.of upd_same, rfl, _, _, rfl, _, _, rfl, rfl, ?_⟩
      have eExT := kT.lst0 (kRG.lst (by simp [nExR, nExG]) eEx3)
      refine ⟨_, rfl, _, rfl, Ex, hxs, rfl, .inl (SqL.of eExT), _, _, rfl, rfl, _, rfl, ite2 (fun e => ?_) (fun e => ?_)⟩
      · have hi : i < hxs.length := by
          have := of_decide_eq_true e
          omega
        have elx := pEx.length
        have hi1 : i < (headsOf b rs).length := by omega
        have hi2 : i < (rowsOfP p).length := by rw [pok.len]; exact hi1
        obtain ⟨hv, hhv, hAt⟩ := pget pEx3 (List.getElem?_eq_getElem hi1)
        obtain ⟨qa, rfl, hqa⟩ := hAt
        have nqR : qa ≠ R := fun z => by
          rw [z, e3R] at hqa
          cases hqa
        have nqG : qa ≠ G := fun z => by
          rw [z, e3G] at hqa
          cases hqa
        have hok := heads_ok bok rok _ (List.getElem_mem hi1)
        have rk := pok.rows _ (List.getElem_mem hi2)
        have eln : ln = lineS (headsOf b rs)[i].1 (headsOf b rs)[i].2 (rowsOfP p)[i] := by
          rw [List.getElem?_append_left (by rw [plen]; omega)] at hln
          unfold planLines at hln
          rw [List.getElem?_zipWith, List.getElem?_eq_getElem hi1, List.getElem?_eq_getElem hi2] at hln
          exact (Option.some.inj hln).symm
        subst eln
        have eR := kT.lst0 lR.choose_spec.1
        refine ⟨.ref R, rfl, .inl ⟨rfl, _, SqL.of eR⟩, _, rfl, _, rfl, _, rfl, Ex, hxs, _, _, rfl, rfl, SqL.of eExT, atI_nat hhv, _, rfl, bv, .ref qa, b, (headsOf b rs)[i], (rowsOfP p)[i], rfl, kxT.basin hb, ⟨qa, rfl, kT.lst0 (kRG.lst (by simp [nqR, nqG]) hqa)⟩, hok.1, hok.2, rk, bok.m4, kxT.tabG hT1, fun H5 v k5 hv => ?_⟩
        obtain ⟨xs, e1, e2, e3⟩ := lR.snoc stb_row (kT.trans k5) hv
        refine ⟨R, xs, _, rfl, rfl, e1, ?_, ((kRG.trans (kT.trans k5).any).mut (by simp) e1), (kxT.trans k5).new nhR, ?_, ?_, _, _, rfl⟩
        · rw [e2, List.length_take]
          exact small1000 (by omega)
        · rw [List.take_add_one, List.getElem?_eq_getElem hi2]
          exact e3
        · have z1 : i + 1 - (headsOf b rs).length = i - (headsOf b rs).length := by omega
          rw [z1]
          exact (lG.kx stb_reg (kT.trans k5)).other nRG.symm (fun _ _ z => (kup e1).reg z)
      · have hi : ¬ i < hxs.length := fun z => e (decide_eq_true (by omega))
        have elx := pEx.length
        have hi1 : (headsOf b rs).length ≤ i := by omega
        have eln : ∃ r, gs[i - (headsOf b rs).length]? = some r ∧ ln = regS b r := by
          rw [List.getElem?_append_right (by rw [plen]; omega), plen, List.getElem?_map] at hln
          rw [lnh]
          obtain ⟨r, hr1, hr2⟩ := Option.map_eq_some_iff.mp hln
          exact ⟨r, hr1, hr2.symm⟩
        obtain ⟨r, hrg, rfl⟩ := eln
        have eG := kT.lst0 lG.choose_spec.1
        refine ⟨.ref G, rfl, .inl ⟨rfl, _, SqL.of eG⟩, _, rfl, _, rfl, bv, b, r, rfl, kxT.basin hb, bok, gok r (List.mem_of_getElem? hrg), kxT.tabG hT1, kxT.tabG hT2, fun H5 v k5 hv => ?_⟩
        obtain ⟨xs, e1, e2, e3⟩ := lG.snoc stb_reg (kT.trans k5) hv
        refine ⟨G, xs, _, rfl, rfl, e1, ?_, ((kRG.trans (kT.trans k5).any).mut (by simp) e1), (kxT.trans k5).new nhG, ?_, ?_, _, _, rfl⟩
        · rw [e2, List.length_take]
          exact small1000 (by omega)
        · have z1 : (rowsOfP p).take (i + 1) = (rowsOfP p).take i := by
            have := pok.len
            rw [List.take_of_length_le (by omega), List.take_of_length_le (by omega)]
          rw [z1]
          exact (lR.kx stb_row (kT.trans k5)).other nRG (fun _ _ z => (kup e1).row z)
        · have z1 : i + 1 - (headsOf b rs).length = i - (headsOf b rs).length + 1 := by omega
          rw [z1, List.take_add_one, hrg]
          exact e3
    · obtain ⟨kRG, kx, lR, lG, y6, y7, rfl⟩ := hP
      have elx := pEx.length
      have pl := pok.len
      rw [List.length_map, List.length_append, List.length_map, plen] at lR lG
      rw [List.take_of_length_le (by omega)] at lR
      rw [List.take_of_length_le (by omega)] at lG
      have eExF := kRG.lst (by simp [nExR, nExG]) eEx3
      refine ⟨_, rfl, lA, _, rfl, .inl (SqL.of (kx.lst0 hl)), _, rfl, Ex, hxs, rfl, .inl (SqL.of eExF), _, _, rfl, rfl, _, rfl, iteDn ?_ ?_⟩
      · rw [List.length_map, List.length_append, plen, List.length_map]
        omega
      · refine ⟨_, rfl, _, rfl, by show 2 ≤ sizeLine; decide, fun T hT => q _ _ R G (kx.laid hT) upd_same ?_ ?_⟩
        · exact lR.kx stb_row ((Kx.refl [] H').laid hT)
        · exact lG.kx stb_reg ((Kx.refl [] H').laid hT)

/-! ### parse_plan, parse_certificate -/
theorem lines_free {b : Basin} {rs : List Rt} {p : Plan} (hb : BasinOk b) (hr : RightsOk rs) (hp : PlanOk b rs p) : ∀ l ∈ planLines b rs p, 10 ∉ TL.tl l := by
  intro l hl
  unfold planLines at hl
  obtain ⟨i, hi, e⟩ := List.mem_iff_getElem.mp hl
  rw [List.getElem_zipWith] at e
  have h1 : i < (headsOf b rs).length := by rw [List.length_zipWith] at hi; omega
  have h2 : i < (rowsOfP p).length := by rw [List.length_zipWith] at hi; omega
  have hok := heads_ok hb hr _ (List.getElem_mem h1)
  rw [← e]
  exact line_free hok.1 hok.2 (hp.rows _ (List.getElem_mem h2))
theorem reg_free {b : Basin} (hb : BasinOk b) {r : List Cell} (hr : CellsIn b r) : 10 ∉ TL.tl (regS b r) := by
  refine free_join (by rw [tl_sp]; decide) fun p hp => ?_
  rcases List.mem_cons.mp hp with rfl | hp
  · exact region_ok.free (by decide)
  · obtain ⟨c, hc, rfl⟩ := List.mem_map.mp hp
    have h1 := hr.s c hc
    have h2 := hr.m c hc
    unfold cellS
    rw [TL.tl_append, TL.tl_append, tl_sl]
    simp only [List.mem_append, not_or]
    exact ⟨⟨(nameAt_ok hb h1).free (by decide), by decide⟩, numS_free (by omega) (.inl (by decide))⟩
theorem cert_split {b : Basin} {rs : List Rt} {p : Plan} {gs : List (List Cell)} (hb : BasinOk b) (hr : RightsOk rs) (hp : PlanOk b rs p) (hg : ∀ r ∈ gs, CellsIn b r) : Txt.split (certText b rs p gs) sNl = planLines b rs p ++ gs.map (regS b) := by
  refine split_nl (fun z => ?_) fun l hl => ?_
  · have e := congrArg List.length z
    rw [List.length_append, planLines_len hp] at e
    have := hb.n1
    simp only [List.length_nil] at e
    omega
  · rcases List.mem_append.mp hl with hl | hl
    · exact lines_free hb hr hp l hl
    · obtain ⟨r, hr2, rfl⟩ := List.mem_map.mp hl
      exact reg_free hb (hg r hr2)
theorem plan_cert (b : Basin) (rs : List Rt) (p : Plan) : planText b rs p = certText b rs p [] := by
  unfold planText certText
  rw [List.map_nil, List.append_nil]
theorem cert_short {b : Basin} {rs : List Rt} {p : Plan} {gs : List (List Cell)} (hb : BasinOk b) (hr : RightsOk rs) (hp : PlanOk b rs p) (hg : ∀ r ∈ gs, CellsIn b r) (g4 : gs.length ≤ 4) : (certText b rs p gs).length ≤ 10000 := by
  have shrt : ∀ l ∈ planLines b rs p ++ gs.map (regS b), l.length ≤ 300 := by
    intro l hl
    rcases List.mem_append.mp hl with hl | hl
    · have := lines_short hb hr hp l hl
      omega
    · obtain ⟨r, hr3, rfl⟩ := List.mem_map.mp hl
      exact reg_short hb (hg r hr3)
  have h := join_short (y := sNl) shrt
  have e4 : (planLines b rs p ++ gs.map (regS b)).length ≤ 20 := by
    have := hb.n4
    have := hr.n4
    rw [List.length_append, List.length_map, planLines_len hp]
    omega
  rw [len_nl] at h
  unfold certText
  omega
def spParsePlan (T1 T2 : Addr) : Sp := fun vs H Q _ => ∃ (bv rv : V) (b : Basin) (rs : List Rt) (p : Plan), vs = [bv, rv, .str (planText b rs p)] ∧ BasinAt H bv b ∧ RightsAt H rv rs ∧ BasinOk b ∧ RightsOk rs ∧ PlanOk b rs p ∧ GxR.TabG H T1 ∧ GxR.TabG H T2 ∧
  ∀ H' v, Kx [] H H' → PlanAt H' v p → Q v H'
theorem ok_parsePlan {T1 T2 f1 f2 f3 : Addr} {fd1 fd2 fd3 : FuncData} (D : Df K mg "parse_plan" sParsePlan f fd) (D1 : Df K mg "heads" sHeads f1 fd1) (G1 : FnOk P w K mg base CX0 1 f1 fd1 ["basin", "rights"] spHeads)
    (D2 : Df K mg "read_lines" sReadLines f2 fd2) (G2 : FnOk P w K mg base CX0 5 f2 fd2 ["basin", "rights", "lines"] (spReadLines T1 T2)) (D3 : Df K mg "plan_of" sPlanOf f3 fd3) (G3 : FnOk P w K mg base CX0 1 f3 fd3 ["basin", "rights", "rows"] spPlanOf)
    (mL : mg "len" = none) : FnOk P w K mg base CX0 6 f fd ["basin", "rights", "text"] (spParsePlan T1 T2) := by
  refine okD D.F scParsePlan (fun vs H Q E h => ?_) (fun cdv A outer s H vs Q E hr h => ?_)
  · obtain ⟨bv, rv, b, rs, p, rfl, _⟩ := h
    rfl
  · obtain ⟨bv, rv, b, rs, p, rfl, hb, hrt, bok, rok, pok, hT1, hT2, q⟩ := h
    refine ⟨_, pss_cons (ps_set (i := 3) scParsePlan.nd rfl (.inl rfl) (pe_split (pv 2) pe_str))
      (pss_cons (ps_set (i := 4) scParsePlan.nd rfl (.inl rfl) (pe_callB call_len_seq (by rfl) mL PySem.boot_len (pa_cons (pe_call G1 (hr.mono (by decide)) (by rfl) D1.g D1.F.kp (bdHeads D1.F) .nil pass0 (pa_cons (pv 0) (pa_cons (pv 1) pa_nil))) pa_nil)))
      (pss_cons (ps_asg (pe_call G2 hr (by rfl) D2.g D2.F.kp (bdReadLines D2.F) .nil pass0 (pa_cons (pv 0) (pa_cons (pv 1) (pa_cons (pe_slice sl_list (pv 3) po_none (po_some (pv 4))) pa_nil)))) (pg_tup rfl (pgs_cons (pg_name (i := 5) scParsePlan.nd rfl (.inl rfl)) (pgs_cons (pg_name (i := 6) scParsePlan.nd rfl (.inl rfl)) pgs_nil))))
      (pss_cons (ps_if (pt_cmpR op_gt (pe_callB call_len_seq (by rfl) mL PySem.boot_len (pa_cons (pv 3) pa_nil)) (pv 4) (nomark _)) (pss_one ps_never) pss_nil)
      (pss_one (ps_ret (pe_call G3 (hr.mono (by decide)) (by rfl) D3.g D3.F.kp (bdPlanOf D3.F) .nil pass0 (pa_cons (pv 0) (pa_cons (pv 1) (pa_cons (pv 5) pa_nil))))))))), ?_⟩
    have lz : (100000 : Nat) ≤ sizeLine := by decide
    have no : ∀ r ∈ ([] : List (List Cell)), CellsIn b r := fun r h => absurd h (by simp)
    have ll := cert_short bok rok pok no (by decide)
    rw [← plan_cert] at ll
    have es : Txt.split (planText b rs p) ("\n" : Str) = planLines b rs p := by
      have e := cert_split bok rok pok no
      rw [← plan_cert, List.map_nil, List.append_nil] at e
      exact e
    have pl := planLines_len pok
    have hln := headsOf_len b rs
    refine ⟨_, rfl, ⟨_, rfl⟩, _, _, rfl, rfl, by decide +kernel, by omega, fun L hL => ?_⟩
    rw [es]
    have k1 : Kx [] H (upd H L (.lst ((planLines b rs p).map V.str))) := (Kx.refl _ _).laid hL
    refine ⟨_, rfl, _, rfl, bv, rv, b, rs, rfl, k1.basin hb, k1.rights hrt, bok.n4, rok.n4, fun H2 Ex k12 _ hEx => ?_⟩
    obtain ⟨exs, eEx, pEx⟩ := hEx
    have k2 := k1.trans k12
    have eL2 := k12.lst0 (p := L) upd_same
    refine ⟨Ex, exs, rfl, .inl (SqL.of eEx), ?_⟩
    have em : exs.length = (planLines b rs p).length := by rw [pEx.length, pl, hln]
    rw [em]
    refine ⟨_, rfl, _, rfl, _, rfl, _, rfl, _, rfl, L, _, rfl, SqL.of eL2, fun C hC => ?_⟩
    rw [cut_to, List.take_of_length_le (by rw [List.length_map]; exact Nat.le_refl _)]
    have k3 := k2.laid (o := .lst ((planLines b rs p).map V.str)) hC
    have k23 := (Kx.refl [] H2).laid (o := .lst ((planLines b rs p).map V.str)) hC
    refine ⟨bv, rv, C, b, rs, p, [], rfl, k3.basin hb, k3.rights hrt, bok, rok, pok, fun r h => absurd h (by simp), by decide, by rw [List.map_nil, List.append_nil]; exact upd_same, k3.tabG hT1, k3.tabG hT2, fun H4 o rA gA k34 ho hrA _ => ?_⟩
    have k4 := k3.trans k34
    refine ⟨o, _, rfl, SqT.of ho, rfl, _, _, rfl, _, _, rfl, rfl, ?_⟩
    refine ⟨_, rfl, L, _, rfl, .inl (SqL.of (k34.lst0 (k23.lst0 eL2))), _, rfl, _, _, rfl, rfl, _, rfl, iteDn ?_ ?_⟩
    · rw [List.length_map]
      omega
    · exact ⟨_, rfl, _, rfl, _, rfl, bv, rv, rA, rs, p, rfl, k4.rights hrt, hrA, rok.n4, pok.nd, by rw [pok.nr]; exact bok.n1, by rw [pok.nr, pok.ns], fun H5 v k5 hv => q H5 v (k4.trans k5) hv⟩
def spParseCert (T1 T2 : Addr) : Sp := fun vs H Q _ => ∃ (bv rv : V) (b : Basin) (rs : List Rt) (p : Plan) (gs : List (List Cell)), vs = [bv, rv, .str (certText b rs p gs)] ∧ BasinAt H bv b ∧ RightsAt H rv rs ∧ BasinOk b ∧ RightsOk rs ∧ PlanOk b rs p ∧ (∀ r ∈ gs, RegOk b r) ∧ gs.length ≤ 4 ∧ GxR.TabG H T1 ∧ GxR.TabG H T2 ∧
  ∀ H' a x y, Kx [] H H' → H' a = some (.tup [x, y]) → PlanAt H' x p → RegsAt H' y gs → Q (.ref a) H'
theorem ok_parseCert {T1 T2 f2 f3 : Addr} {fd2 fd3 : FuncData} (D : Df K mg "parse_certificate" sParseCert f fd)
    (D2 : Df K mg "read_lines" sReadLines f2 fd2) (G2 : FnOk P w K mg base CX0 5 f2 fd2 ["basin", "rights", "lines"] (spReadLines T1 T2)) (D3 : Df K mg "plan_of" sPlanOf f3 fd3) (G3 : FnOk P w K mg base CX0 1 f3 fd3 ["basin", "rights", "rows"] spPlanOf)
    (mT : mg "tuple" = none) : FnOk P w K mg base CX0 6 f fd ["basin", "rights", "text"] (spParseCert T1 T2) := by
  refine okD D.F scParseCert (fun vs H Q E h => ?_) (fun cdv A outer s H vs Q E hr h => ?_)
  · obtain ⟨bv, rv, b, rs, p, gs, rfl, _⟩ := h
    rfl
  · obtain ⟨bv, rv, b, rs, p, gs, rfl, hb, hrt, bok, rok, pok, gok, g4, hT1, hT2, q⟩ := h
    refine ⟨_, pss_cons (ps_asg (pe_call G2 hr (by rfl) D2.g D2.F.kp (bdReadLines D2.F) .nil pass0 (pa_cons (pv 0) (pa_cons (pv 1) (pa_cons (pe_split (pv 2) pe_str) pa_nil)))) (pg_tup rfl (pgs_cons (pg_name (i := 3) scParseCert.nd rfl (.inl rfl)) (pgs_cons (pg_name (i := 4) scParseCert.nd rfl (.inl rfl)) pgs_nil))))
      (pss_one (ps_ret (pe_tup (pa_cons (pe_call G3 (hr.mono (by decide)) (by rfl) D3.g D3.F.kp (bdPlanOf D3.F) .nil pass0 (pa_cons (pv 0) (pa_cons (pv 1) (pa_cons (pv 3) pa_nil))))
        (pa_cons (pe_callTy call_tuple_of (by rfl) mT (by decide +kernel) (pa_cons (pv 4) pa_nil)) pa_nil))))), ?_⟩
    have lz : (100000 : Nat) ≤ sizeLine := by decide
    have gin : ∀ r ∈ gs, CellsIn b r := fun r h => (gok r h).cin
    have ll := cert_short bok rok pok gin g4
    have es : Txt.split (certText b rs p gs) ("\n" : Str) = planLines b rs p ++ gs.map (regS b) := cert_split bok rok pok gin
    refine ⟨_, rfl, _, rfl, _, rfl, ⟨_, rfl⟩, _, _, rfl, rfl, by decide +kernel, by omega, fun L hL => ?_⟩
    rw [es]
    have k1 : Kx [] H (upd H L (.lst ((planLines b rs p ++ gs.map (regS b)).map V.str))) := (Kx.refl _ _).laid hL
    refine ⟨bv, rv, L, b, rs, p, gs, rfl, k1.basin hb, k1.rights hrt, bok, rok, pok, gok, g4, upd_same, k1.tabG hT1, k1.tabG hT2, fun H4 o rA gA k34 ho hrA hgA => ?_⟩
    have k4 := k1.trans k34
    refine ⟨o, _, rfl, SqT.of ho, rfl, _, _, rfl, _, _, rfl, rfl, ?_⟩
    refine ⟨_, rfl, _, rfl, _, rfl, bv, rv, rA, rs, p, rfl, k4.rights hrt, hrA, rok.n4, pok.nd, by rw [pok.nr]; exact bok.n1, by rw [pok.nr, pok.ns], fun H5 v k5 hv => ?_⟩
    obtain ⟨gxs, egA, pgA⟩ := hgA.kx stb_reg k5
    refine ⟨_, rfl, gA, gxs, rfl, .inl ⟨SqL.of egA, fun T hT => ?_⟩⟩
    have k6 := (Kx.refl [] H5).laid (o := .tup gxs) hT
    refine ⟨by show 2 ≤ sizeLine; decide, fun U hU => ?_⟩
    have k7 := k6.laid (o := .tup [v, .ref T]) hU
    exact q _ U v (.ref T) ((k4.trans k5).trans k7) upd_same (k7.plan hv) ⟨T, gxs, rfl, ((Kx.refl [] _).laid hU).tu _ _ upd_same, pgA.mono fun _ _ z => k7.reg z⟩
end
end K15
set_option Elab.async false
set_option linter.all false
set_option maxRecDepth 100000
set_option maxHeartbeats 4000000
/-! the law's own: _law_cell, _law_digits, _law_draw, _law_pick, _law_amount, _law_same -/
namespace K15
open PySem PySem.Spec PyProof.Rows L2
section
variable {P : Program} {w : World} {K : PySem.W.Frag} {mg : Str → Option Value} {base : Heap} {f : Addr} {fd : FuncData}
/-! ### _law_cell -/
def spLCell (K : PySem.W.Frag) : Sp := fun vs H Q _ => ∃ (a : Addr) (ns : List Int) (k : Nat), vs = [.ref a, .int (k : Nat)] ∧ SqL K H a (ns.map V.int) ∧ k ≤ 1000 ∧ ∀ v : Int, Q (.int v) H
theorem ok_lcell (D : Df K mg "_law_cell" sLCell f fd) (mL : mg "len" = none) : FnOk P w K mg base CX0 1 f fd ["_law_script", "_law_k"] (spLCell K) := by
  refine okD D.F scLCell (fun vs H Q E h => ?_) (fun cdv A outer s H vs Q E hr h => ?_)
  · obtain ⟨a, ns, k, rfl, _⟩ := h
    rfl
  · obtain ⟨a, ns, k, rfl, hS, hk, q⟩ := h
    refine ⟨_, pss_cons (ps_if (pt_cmpR op_lt (pv 1) (pe_callB call_len_seq (by rfl) mL PySem.boot_len (pa_cons (pv 0) pa_nil)) (nomark _)) (pss_one (ps_ret (pe_ix ix_list (pv 0) (pv 1) (fun _ _ => rfl)))) pss_nil)
      (pss_one (ps_ret pe_int)), ?_⟩
    refine ⟨_, rfl, _, rfl, a, _, rfl, .inl hS, _, _, rfl, rfl, _, rfl, ite2 (fun e => ?_) (fun e => ?_)⟩
    · have e1 : k < ns.length := by
        have := of_decide_eq_true e
        rw [List.length_map] at this
        omega
      exact ⟨_, rfl, _, rfl, a, _, _, .int ns[k], rfl, rfl, hS, atI_nat (by rw [List.getElem?_map, List.getElem?_eq_getElem e1]; rfl), q _⟩
    · exact q 0

/-! ### _law_draw and what draws -/
/-- the box: a list of digits, a place -/
def BoxAt (dg : Addr) (H : Hp) (b : Addr) : Prop := ∃ (ds : List Int) (n : Nat), H b = some (.lst [.ref dg, .int (n : Nat)]) ∧ H dg = some (.lst (ds.map V.int))
theorem BoxAt.kx {S : List Addr} {H H' : Hp} {b dg : Addr} (h : BoxAt dg H b) (k : Kx S H H') (hb : b ∉ S) (hd : dg ∉ S) : BoxAt dg H' b := by
  obtain ⟨ds, n, h1, h2⟩ := h
  exact ⟨ds, n, k.lst hb h1, k.lst hd h2⟩
theorem BoxAt.kx0 {H H' : Hp} {b dg : Addr} (h : BoxAt dg H b) (k : Kx [] H H') : BoxAt dg H' b := h.kx k (by simp) (by simp)
theorem BoxAt.some {H : Hp} {b dg : Addr} (h : BoxAt dg H b) : H b ≠ none := by
  obtain ⟨ds, n, h1, h2⟩ := h
  rw [h1]
  simp
theorem BoxAt.someD {H : Hp} {b dg : Addr} (h : BoxAt dg H b) : H dg ≠ none := by
  obtain ⟨ds, n, h1, h2⟩ := h
  rw [h2]
  simp
def spDraw : Sp := fun vs H Q _ => ∃ (b dg : Addr) (m : Int), vs = [.ref b, .int m] ∧ BoxAt dg H b ∧ 0 < m ∧ ∀ H' r, Kx [b] H H' → BoxAt dg H' b → 0 ≤ r → r < m → Q (.int r) H'
theorem ok_draw (D : Df K mg "_law_draw" sLDraw f fd) (mL : mg "len" = none) (mI : mg "int" = none) : FnOk P w K mg base CX0 1 f fd ["_law_box", "_law_many"] spDraw := by
  refine okD D.F scLDraw (fun vs H Q E h => ?_) (fun cdv A outer s H vs Q E hr h => ?_)
  · obtain ⟨b, dg, m, rfl, _⟩ := h
    rfl
  · obtain ⟨b, dg, m, rfl, ⟨ds, n, hB, hD⟩, hm, q⟩ := h
    refine ⟨_, pss_cons (ps_set (i := 2) scLDraw.nd rfl (.inl rfl) (pe_ix ix_list (pv 0) pe_int (fun _ _ => rfl)))
      (pss_cons (ps_asg (pe_op op_add (pv 2) pe_int) (pg_sub (pv 0) pe_int set_list))
      (pss_cons (ps_if (pt_cmpR op_lt (pv 2) (pe_callB call_len_seq (by rfl) mL PySem.boot_len (pa_cons (pe_ix ix_list (pv 0) pe_int (fun _ _ => rfl)) pa_nil)) (nomark _))
        (pss_one (ps_ret (pe_op op_mod (pe_callTy call_int1 (by rfl) mI (by decide +kernel) (pa_cons (pe_ix ix_list (pe_ix ix_list (pv 0) pe_int (fun _ _ => rfl)) (pv 2) (fun _ _ => rfl)) pa_nil)) (pv 1)))) pss_nil)
      (pss_one (ps_ret (pe_op op_mod (pe_callTy call_int1 (by rfl) mI (by decide +kernel) (pa_cons (pe_op op_add (pe_op op_mul (pv 2) pe_int) pe_int) pa_nil)) (pv 1)))))), ?_⟩
    have nDB : dg ≠ b := fun z => by
      rw [z, hB] at hD
      cases ds <;> cases hD
    refine ⟨_, rfl, b, _, 1, _, rfl, rfl, SqL.of hB, atI_nat (j := 1) rfl, ?_⟩
    refine ⟨_, rfl, _, _, rfl, rfl, _, rfl, b, _, 1, 1, rfl, rfl, hB, by rfl, ?_⟩
    have hB2 : upd H b (.lst ([V.ref dg, .int (n : Nat)].set 1 (.int ((n : Nat) + 1)))) b = some (.lst [V.ref dg, .int ((n + 1 : Nat) : Int)]) := by
      rw [upd_same]
      rfl
    have hD2 : upd H b (.lst ([V.ref dg, .int (n : Nat)].set 1 (.int ((n : Nat) + 1)))) dg = some (.lst (ds.map V.int)) := by
      rw [upd_ne nDB]
      exact hD
    have kk : Kx [b] H (upd H b (.lst ([V.ref dg, .int (n : Nat)].set 1 (.int ((n : Nat) + 1))))) := kup hB
    have bx : BoxAt dg (upd H b (.lst ([V.ref dg, .int (n : Nat)].set 1 (.int ((n : Nat) + 1))))) b := ⟨ds, n + 1, hB2, hD2⟩
    refine ⟨_, rfl, _, rfl, b, _, 0, _, rfl, rfl, SqL.of hB2, atI_nat (j := 0) rfl, dg, _, rfl, .inl (SqL.of hD2), _, _, rfl, rfl, _, rfl, ite2 (fun e => ?_) (fun e => ?_)⟩
    · have e1 : n < ds.length := by
        have := of_decide_eq_true e
        rw [List.length_map] at this
        omega
      refine ⟨_, rfl, b, _, 0, _, rfl, rfl, SqL.of hB2, atI_nat (j := 0) rfl, _, rfl, dg, _, _, .int ds[n], rfl, rfl, SqL.of hD2, atI_nat (by rw [List.getElem?_map, List.getElem?_eq_getElem e1]; rfl), .inl ⟨_, rfl, _, rfl, _, _, rfl, rfl, hm, ?_⟩⟩
      exact q _ _ kk bx (Int.emod_nonneg _ (by omega)) (Int.emod_lt_of_pos _ hm)
    · refine ⟨_, rfl, _, _, rfl, rfl, .inr (by decide), _, _, rfl, rfl, .inl ⟨_, rfl, _, rfl, _, _, rfl, rfl, hm, ?_⟩⟩
      exact q _ _ kk bx (Int.emod_nonneg _ (by omega)) (Int.emod_lt_of_pos _ hm)
def spAmount : Sp := fun vs H Q _ => ∃ (b dg : Addr), vs = [.ref b] ∧ BoxAt dg H b ∧ ∀ H' r, Kx [b] H H' → BoxAt dg H' b → 0 ≤ r → r ≤ 99 → Q (.int r) H'
theorem ok_amount {f1 : Addr} {fd1 : FuncData} (D : Df K mg "_law_amount" sLAmount f fd) (D1 : Df K mg "_law_draw" sLDraw f1 fd1) (G1 : FnOk P w K mg base CX0 1 f1 fd1 ["_law_box", "_law_many"] spDraw) : FnOk P w K mg base CX0 2 f fd ["_law_box"] spAmount := by
  refine okD D.F scLAmount (fun vs H Q E h => ?_) (fun cdv A outer s H vs Q E hr h => ?_)
  · obtain ⟨b, dg, rfl, _⟩ := h
    rfl
  · obtain ⟨b, dg, rfl, hB, q⟩ := h
    refine ⟨_, pss_one (ps_ret (pe_ix ix_list (pe_lst (pa_cons pe_int (pa_cons pe_int (pa_cons pe_int (pa_cons pe_int (pa_cons pe_int (pa_cons pe_int (pa_cons pe_int (pa_cons
      (pe_call G1 hr (by rfl) D1.g D1.F.kp (bdLDraw D1.F) .nil pass0 (pa_cons (pv 0) (pa_cons pe_int pa_nil))) pa_nil)))))))))
      (pe_call G1 hr (by rfl) D1.g D1.F.kp (bdLDraw D1.F) .nil pass0 (pa_cons (pv 0) (pa_cons pe_int pa_nil))) (fun _ _ => rfl))), ?_⟩
    refine ⟨_, rfl, b, dg, 20, rfl, hB, by decide, fun H1 r1 k1 b1 h1 h1' => ?_⟩
    refine ⟨by show 8 ≤ sizeLine; decide, fun L hL => ?_⟩
    have kL := (Kx.refl [] H1).laid (o := .lst [.int 0, .int 1, .int 2, .int 3, .int 5, .int 9, .int 99, .int r1]) hL
    refine ⟨_, rfl, b, dg, 8, rfl, b1.kx0 kL, by decide, fun H2 r2 k2 b2 h2 h2' => ?_⟩
    have nLb : L ≠ b := fun z => by
      exact b1.some (by rw [← z]; exact hL)
    have eL := k2.lst (p := L) (by simpa using nLb) upd_same
    have kk : Kx [b] H H2 := k1.trans (kL.any.trans k2)
    obtain ⟨j, rfl⟩ : ∃ j : Nat, r2 = (j : Int) := ⟨r2.toNat, by omega⟩
    have hj : j < 8 := by omega
    have gv : ∃ v : Int, ([.int 0, .int 1, .int 2, .int 3, .int 5, .int 9, .int 99, .int r1] : List V)[j]? = some (.int v) ∧ 0 ≤ v ∧ v ≤ 99 := by
      match j, hj with
      | 0, _ => exact ⟨0, rfl, by decide, by decide⟩
      | 1, _ => exact ⟨1, rfl, by decide, by decide⟩
      | 2, _ => exact ⟨2, rfl, by decide, by decide⟩
      | 3, _ => exact ⟨3, rfl, by decide, by decide⟩
      | 4, _ => exact ⟨5, rfl, by decide, by decide⟩
      | 5, _ => exact ⟨9, rfl, by decide, by decide⟩
      | 6, _ => exact ⟨99, rfl, by decide, by decide⟩
      | 7, _ => exact ⟨r1, rfl, by omega, by omega⟩
    obtain ⟨v, ev, v0, v1⟩ := gv
    exact ⟨L, _, _, _, rfl, rfl, SqL.of eL, atI_nat ev, q H2 v kk b2 v0 v1⟩

/-! ### _law_pick -/
def spPick : Sp := fun vs H Q _ => ∃ (b dg c : Addr) (xs : List V), vs = [.ref b, .ref c] ∧ BoxAt dg H b ∧ H c = some (.tup xs) ∧ 0 < xs.length ∧ ∀ H' (j : Nat) x, Kx [b] H H' → BoxAt dg H' b → xs[j]? = some x → Q x H'
theorem ok_pick {f1 : Addr} {fd1 : FuncData} (D : Df K mg "_law_pick" sLPick f fd) (D1 : Df K mg "_law_draw" sLDraw f1 fd1) (G1 : FnOk P w K mg base CX0 1 f1 fd1 ["_law_box", "_law_many"] spDraw) (mL : mg "len" = none) (mI : mg "int" = none) :
    FnOk P w K mg base CX0 2 f fd ["_law_box", "_law_rows"] spPick := by
  refine okD D.F scLPick (fun vs H Q E h => ?_) (fun cdv A outer s H vs Q E hr h => ?_)
  · obtain ⟨b, dg, c, xs, rfl, _⟩ := h
    rfl
  · obtain ⟨b, dg, c, xs, rfl, hB, hC, hl, q⟩ := h
    refine ⟨_, pss_one (ps_ret (pe_ix ix_tup (pv 1) (pe_op op_mod (pe_callTy call_int1 (by rfl) mI (by decide +kernel) (pa_cons (pe_call G1 hr (by rfl) D1.g D1.F.kp (bdLDraw D1.F) .nil pass0 (pa_cons (pv 0) (pa_cons pe_int pa_nil))) pa_nil))
      (pe_callB call_len_seq (by rfl) mL PySem.boot_len (pa_cons (pv 1) pa_nil))) (fun _ _ => rfl))), ?_⟩
    refine ⟨_, rfl, _, rfl, b, dg, 90, rfl, hB, by decide, fun H1 r1 k1 b1 h1 h1' => .inl ⟨_, rfl, ?_⟩⟩
    have hC1 := k1.tu _ _ hC
    have e0 : 0 ≤ r1 % (xs.length : Nat) := Int.emod_nonneg _ (by omega)
    have e1 : r1 % (xs.length : Nat) < (xs.length : Nat) := Int.emod_lt_of_pos _ (by omega)
    obtain ⟨j, hj⟩ : ∃ j : Nat, r1 % ((xs.length : Nat) : Int) = (j : Int) := ⟨(r1 % ((xs.length : Nat) : Int)).toNat, by omega⟩
    have hjl : j < xs.length := by omega
    refine ⟨_, rfl, c, xs, rfl, .inr (SqT.of hC1), _, _, rfl, rfl, by omega, c, xs, _, xs[j], rfl, rfl, SqT.of hC1, ?_, q H1 j _ k1 b1 (List.getElem?_eq_getElem hjl)⟩
    rw [hj]
    exact atI_nat (List.getElem?_eq_getElem hjl)

/-! ### _law_same -/
def spSame (K : PySem.W.Frag) : Sp := fun vs H Q _ => ∃ (a c : Addr) (d : PyData), vs = [.ref a, .ref c] ∧ Dp K H (.ref a) d ∧ Dp K H (.ref c) d ∧ d.showable = true ∧ d.hasDict = false ∧ d.shown.length ≤ sizeLine ∧ d.depth ≤ 60 ∧ Q (.bl true) H
theorem ok_same (D : Df K mg "_law_same" sLSame f fd) (mR : mg "repr" = none) : FnG P w K mg base 1 f fd ["_law_actual", "_law_due"] (spSame K) := by
  refine okG D.F scLSame (fun vs H Q E h => ?_) (fun cdv A outer s H vs Q hg hr h => ?_)
  · obtain ⟨a, c, d, rfl, _⟩ := h
    rfl
  · obtain ⟨a, c, d, rfl, h1, h2, h3, h4, h5, h6, q⟩ := h
    refine ⟨_, pss_one (ps_ret (pe_cmpR op_eq (pe_callB (call_reprD hg hr.units) (by rfl) mR (by decide +kernel) (pa_cons (pv 0) pa_nil)) (pe_callB (call_reprD hg hr.units) (by rfl) mR (by decide +kernel) (pa_cons (pv 1) pa_nil)) (nomark _))), ?_⟩
    refine ⟨_, rfl, a, d, rfl, h1, h3, h4, h5, h6, _, rfl, c, d, rfl, h2, h3, h4, h5, h6, rfl, ?_⟩
    rw [decide_eq_true rfl]
    exact q

/-! ### _law_digits -/
def spDigits (K : PySem.W.Frag) : Sp := fun vs H Q _ => ∃ (a : Addr) (ns : List Int), vs = [.ref a, .int 0, .int 63] ∧ SqL K H a (ns.map V.int) ∧ ∀ H' p (ds : List Int), Kx [] H H' → H p = none → H' p = some (.lst (ds.map V.int)) → Q (.ref p) H'
theorem ok_digits {f1 : Addr} {fd1 : FuncData} (D : Df K mg "_law_digits" sLDigits f fd) (D1 : Df K mg "_law_cell" sLCell f1 fd1) (G1 : FnOk P w K mg base CX0 1 f1 fd1 ["_law_script", "_law_k"] (spLCell K)) (mR : mg "range" = none) (mI : mg "int" = none) :
    FnOk P w K mg base CX0 2 f fd ["_law_script", "_law_first", "_law_last"] (spDigits K) := by
  refine okD D.F scLDigits (fun vs H Q E h => ?_) (fun cdv A outer s H vs Q E hr h => ?_)
  · obtain ⟨a, ns, rfl, _⟩ := h
    rfl
  · obtain ⟨a, ns, rfl, hS, q⟩ := h
    refine ⟨_, pss_cons (ps_set (i := 3) scLDigits.nd rfl (.inl rfl) (pe_lst pa_nil))
      (pss_cons (ps_for PassesOwn.never rfl (pi_range2 (by rfl) mR (pa_cons (pv 1) (pa_cons (pv 2) pa_nil))) (pg_name (i := 4) scLDigits.nd rfl (.inl rfl))
        (pss_cons (ps_set (i := 5) scLDigits.nd rfl (.inl rfl) (pe_call G1 hr (by rfl) D1.g D1.F.kp (bdLCell D1.F) .nil pass0 (pa_cons (pv 0) (pa_cons (pv 4) pa_nil))))
        (pss_cons (ps_if (pt_cmpR op_lt (pv 5) pe_int (nomark _)) (pss_one (ps_set (i := 5) scLDigits.nd rfl (.inl rfl) (pe_op op_sub pe_int (pe_op op_mul pe_int (pv 5))))) pss_nil)
        (pss_one (ps_if (pt_cmpR op_ge (pv 5) (pe_op op_pow pe_int pe_int) (nomark _))
          (pss_one (ps_for PassesOwn.never rfl (pi_range1 (by rfl) mR (pa_cons pe_int pa_nil)) (pg_name (i := 6) scLDigits.nd rfl (.inl rfl))
            (pss_one (ps_if (pt_cmpR op_gt (pv 5) pe_int (nomark _))
              (pss_cons (ps_expr (pe_bm PySem.F.plainAttrs_list PySem.F.slot_list_append PySem.F.type_list_append mt_append (pv 3) (pa_cons (pe_op op_mod (pe_callTy call_int1 (by rfl) mI (by decide +kernel) (pa_cons (pv 5) pa_nil)) pe_int) pa_nil)))
              (pss_one (ps_set (i := 5) scLDigits.nd rfl (.inl rfl) (pe_op op_fdiv (pv 5) pe_int)))) pss_nil))))
          (pss_cons (ps_set (i := 7) scLDigits.nd rfl (.inl rfl) (pe_op op_mod (pe_callTy call_int1 (by rfl) mI (by decide +kernel) (pa_cons (pe_op op_add (pe_op op_add (pe_op op_mul (pv 5) pe_int) (pe_op op_mul (pv 4) pe_int)) pe_int) pa_nil)) pe_int))
          (pss_one (ps_for PassesOwn.never rfl (pi_range1 (by rfl) mR (pa_cons pe_int pa_nil)) (pg_name (i := 6) scLDigits.nd rfl (.inl rfl))
            (pss_cons (ps_set (i := 7) scLDigits.nd rfl (.inl rfl) (pe_op op_mod (pe_callTy call_int1 (by rfl) mI (by decide +kernel) (pa_cons (pe_op op_add (pe_op op_add (pe_op op_mul (pv 7) pe_int) (pe_op op_mul pe_int (pv 6))) pe_int) pa_nil)) pe_int))
            (pss_one (ps_expr (pe_bm PySem.F.plainAttrs_list PySem.F.slot_list_append PySem.F.type_list_append mt_append (pv 3) (pa_cons (pe_op op_mod (pe_callTy call_int1 (by rfl) mI (by decide +kernel) (pa_cons (pe_op op_fdiv (pv 7) pe_int) pa_nil)) pe_int) pa_nil)))))))))))))
      (pss_one (ps_ret (pv 3)))), ?_⟩
    refine ⟨Nat.zero_le _, fun L hL => ?_⟩
    have k1 : Kx [] H (upd H L (.lst [])) := (Kx.refl _ _).laid hL
    have lz : (10000 : Nat) ≤ sizeLine := by decide
    refine ⟨_, rfl, _, rfl, 0, 63, rfl, by decide, for_range (lo := 0) (n := 63) (fun i σ H' => Kx [] H H' ∧ ∃ (ds : List Int) (y4 y5 y6 y7 : Option V), H' L = some (.lst (ds.map V.int)) ∧ ds.length ≤ 60 * i ∧ σ = [some (.ref a), some (.int 0), some (.int 63), some (.ref L), y4, y5, y6, y7])
      ⟨k1, [], none, none, none, none, upd_same, by simp, rfl⟩ (fun i σ H' hi hP => ?_) (fun σ H' hP => ?_)⟩
    · obtain ⟨kx, ds, y4, y5, y6, y7, eL, dl, rfl⟩ := hP
      refine ⟨_, rfl, _, rfl, a, ns, i, by rw [Int.zero_add]; rfl, kx.sqL hS, by omega, fun c => ?_⟩
      -- the cell, made not negative
      refine ⟨_, rfl, _, _, rfl, rfl, _, rfl, ite2 (fun e => ⟨_, rfl, _, _, rfl, rfl, .inl (by decide), _, _, rfl, rfl, ?_⟩) (fun e => ?_)⟩
      all_goals
        refine ⟨_, rfl, _, _, rfl, rfl, ⟨by decide, by decide, by decide⟩, _, _, rfl, rfl, _, rfl, ite2 (fun e1 => ?_) (fun e1 => ?_)⟩
        · refine ⟨60, rfl, by decide, by decide, for_range (lo := 0) (n := 60) (fun j σ H'' => Kx [] H H'' ∧ ∃ (es : List Int) (c' : Int) (z6 z7 : Option V), H'' L = some (.lst (es.map V.int)) ∧ es.length ≤ 60 * i + j ∧ σ = [some (.ref a), some (.int 0), some (.int 63), some (.ref L), some (.int (0 + (i : Nat))), some (.int c'), z6, z7])
            ⟨kx, ds, _, _, _, eL, by omega, rfl⟩ (fun j σ H'' hj hP => ?_) (fun σ H'' hP => ?_)⟩
          · obtain ⟨kx2, es, c', z6, z7, eL2, el, rfl⟩ := hP
            refine ⟨_, rfl, _, _, rfl, rfl, _, rfl, ite2 (fun e2 => ?_) (fun e2 => ?_)⟩
            · refine ⟨_, rfl, .inl ⟨rfl, _, SqL.of eL2⟩, _, rfl, .inl ⟨_, rfl, _, _, rfl, rfl, (by show (0 : Int) < 1000; decide), L, _, _, rfl, rfl, eL2, by rw [List.length_map]; omega, _, rfl, _, _, rfl, rfl, ⟨by decide, by decide⟩, kx2.new hL, es ++ [_], _, _, _, by rw [upd_same, List.map_append]; rfl, by rw [List.length_append]; simp only [List.length_cons, List.length_nil]; omega, rfl⟩⟩
            · exact ⟨kx2, es, _, _, _, eL2, by omega, rfl⟩
          · obtain ⟨kx2, es, c', z6, z7, eL2, el, rfl⟩ := hP
            exact ⟨kx2, es, _, _, _, _, eL2, by omega, rfl⟩
        · refine ⟨_, rfl, _, _, rfl, rfl, .inr (by decide), _, rfl, _, _, rfl, rfl, .inr (by decide), _, _, rfl, rfl, _, _, rfl, rfl, .inl ⟨_, rfl, _, _, rfl, rfl, (by show (0 : Int) < 2147483647; decide), ?_⟩⟩
          refine ⟨12, rfl, by decide, by decide, for_range (lo := 0) (n := 12) (fun j σ H'' => Kx [] H H'' ∧ ∃ (es : List Int) (c' sd : Int) (z6 : Option V), H'' L = some (.lst (es.map V.int)) ∧ es.length ≤ 60 * i + j ∧ σ = [some (.ref a), some (.int 0), some (.int 63), some (.ref L), some (.int (0 + (i : Nat))), some (.int c'), z6, some (.int sd)])
            ⟨kx, ds, _, _, _, eL, by omega, rfl⟩ (fun j σ H'' hj hP => ?_) (fun σ H'' hP => ?_)⟩
          · obtain ⟨kx2, es, c', sd, z6, eL2, el, rfl⟩ := hP
            refine ⟨_, rfl, _, _, rfl, rfl, .inr (by decide), _, rfl, _, _, rfl, rfl, .inl (by decide), _, _, rfl, rfl, _, _, rfl, rfl, .inl ⟨_, rfl, _, _, rfl, rfl, (by show (0 : Int) < 2147483647; decide), ?_⟩⟩
            refine ⟨_, rfl, .inl ⟨rfl, _, SqL.of eL2⟩, _, rfl, _, _, rfl, rfl, ⟨by decide, by decide⟩, .inl ⟨_, rfl, _, _, rfl, rfl, (by show (0 : Int) < 1000; decide), L, _, _, rfl, rfl, eL2, by rw [List.length_map]; omega, kx2.new hL, es ++ [_], _, _, _, by rw [upd_same, List.map_append]; rfl, by rw [List.length_append]; simp only [List.length_cons, List.length_nil]; omega, rfl⟩⟩
          · obtain ⟨kx2, es, c', sd, z6, eL2, el, rfl⟩ := hP
            exact ⟨kx2, es, _, _, _, _, eL2, by omega, rfl⟩
    · obtain ⟨kx, ds, y4, y5, y6, y7, eL, _, rfl⟩ := hP
      exact ⟨_, rfl, q H' L ds kx hL eL⟩
end
end K15
set_option Elab.async false
set_option linter.all false
set_option maxRecDepth 100000
set_option maxHeartbeats 4000000
/-! the law's own: _law_words, _law_tuples, _law_cells, _law_lines -/
namespace K15
open PySem PySem.Spec PyProof.Rows L2
section
variable {P : Program} {w : World} {K : PySem.W.Frag} {mg : Str → Option Value} {base : Heap} {f : Addr} {fd : FuncData}
/-! ### _law_words -/
def spWords : Sp := fun vs H Q _ => ∃ (v : V) (ns : List Int), vs = [v] ∧ RowAt H v ns ∧ ns.length ≤ 4 ∧ (∀ x ∈ ns, 0 ≤ x ∧ x ≤ 9999) ∧ ∀ H', Kx [] H H' → Q (.str (Txt.join sSp (ns.map numS))) H'
theorem ok_words (D : Df K mg "_law_words" sLWords f fd) (mS : mg "str" = none) : FnOk P w K mg base CX0 1 f fd ["_law_row"] spWords := by
  refine okD D.F scLWords (fun vs H Q E h => ?_) (fun cdv A outer s H vs Q E hr h => ?_)
  · obtain ⟨v, ns, rfl, _⟩ := h
    rfl
  · obtain ⟨v, ns, rfl, ⟨a, rfl, hA⟩, hl, hb, q⟩ := h
    refine ⟨_, pss_one (ps_ret (pe_join pe_str (pe_lc (own := [("_law_one", 1)]) (g := gName 1) (tt := tYes) rfl scLWords.nd (pi_tup (pv 0)) (blkOk_by (N := nLWords) (sc := defScope sLWords) (by decide +kernel))
            (fun _ _ _ _ _ => pg_name (i := 1) scLWords.nd rfl (.inl rfl)) (fun _ _ _ _ _ => pts_nil) (fun _ _ _ _ _ => pe_callTy call_str_int (by rfl) mS (by decide +kernel) (pa_cons (pv 1) pa_nil))))), ?_⟩
    refine ⟨⟨_, rfl⟩, _, rfl, a, rfl, ⟨_, SqT.of hA⟩, fun D hD => ?_⟩
    refine lc_tup (xs := ns.map V.int) (fun j H'' => Kx [] H H'' ∧ StrsL H'' D ((ns.take j).map numS)) ⟨(Kx.refl _ _).laid hD, upd_same⟩ (fun j H'' _ hP => SqT.of (hP.1.tu _ _ hA)) (fun j x H'' hx hP => ?_) (fun H'' hP => ?_)
    · obtain ⟨kx2, eD⟩ := hP
      rw [List.getElem?_map] at hx
      obtain ⟨n, hn, rfl⟩ := Option.map_eq_some_iff.mp hx
      have nb := hb n (List.mem_of_getElem? hn)
      refine ⟨rfl, ?_⟩
      refine ⟨_, rfl, n, rfl, log_small nb.1 nb.2, _, eD, ?_, kx2.new hD, ?_⟩
      · rw [List.length_map, List.length_map, List.length_take]
        exact small1000 (by omega)
      · rw [List.take_add_one, hn, StrsL, upd_same, List.map_append, List.map_append]
        rfl
    · rw [List.length_map, List.take_length] at hP
      obtain ⟨kx2, eD⟩ := hP
      have shrt := sum_short (B := 4) (l := ns.map numS) (fun p hp => by
        obtain ⟨x, hx, rfl⟩ := List.mem_map.mp hp
        exact (numS_len (hb x hx).1 (hb x hx).2).2)
      rw [List.length_map] at shrt
      refine ⟨_, D, ns.map numS, rfl, rfl, .inl (SqL.of eD), ?_, ?_⟩
      · have e3 : ((" " : Str)).length = 1 := by decide +kernel
        rw [List.length_map, e3]
        have lz : (1000 : Nat) ≤ sizeLine := by decide
        omega
      · exact q _ kx2

/-! ### _law_tuples -/
abbrev rTupOf (K : PySem.W.Frag) : List V → Hp → VK → Prop := fun xs H Q => ∃ p ys, xs = [.ref p] ∧ ((SqL K H p ys ∧ ∀ l, H l = none → Q (.ref l) (upd H l (.tup ys))) ∨ (SqT K H p ys ∧ Q (.ref p) H))
def RowL (H : Hp) (v : V) (ns : List Int) : Prop := ∃ a, v = .ref a ∧ H a = some (.lst (ns.map V.int))
abbrev MatL (H : Hp) (p : Addr) (m : List (List Int)) : Prop := ListR RowL H p m
theorem RowL.kx {S : List Addr} {H H' : Hp} {v : V} {ns : List Int} (h : RowL H v ns) (k : Kx [] H H') : RowL H' v ns := by
  obtain ⟨a, e, h⟩ := h
  exact ⟨a, e, k.lst0 h⟩
theorem MatL.kx {H H' : Hp} {p : Addr} {m : List (List Int)} (h : MatL H p m) (k : Kx [] H H') : MatL H' p m := by
  obtain ⟨xs, e, pr⟩ := h
  exact ⟨xs, k.lst0 e, pr.mono fun _ _ z => z.kx (S := []) k⟩
def scPart : Scope := { kind := ScopeKind.function, names := [(".0", NameKind.local), ("_law_part", NameKind.local), ("tuple", NameKind.globalImplicit)], isGenerator := false, isCoroutine := false }
def scRow : Scope := { kind := ScopeKind.function, names := [(".0", NameKind.local), ("_law_row", NameKind.local), ("tuple", NameKind.globalImplicit)], isGenerator := false, isCoroutine := false }
theorem okPart : BlkOk nLTuples (relS scPart (defScope sLTuples)) scRow [("_law_row", 2)] := blkOk_by (by decide +kernel)
def spTuples : Sp := fun vs H Q _ => ∃ (o : Addr) (a1 a2 a3 : Addr) (p : Plan), vs = [.ref o] ∧ H o = some (.lst [.ref a1, .ref a2, .ref a3]) ∧ MatL H a1 p.1 ∧ MatL H a2 p.2.1 ∧ MatL H a3 p.2.2 ∧ p.1.length ≤ 4 ∧ p.2.1.length ≤ 4 ∧ p.2.2.length ≤ 4 ∧ ∀ H' v, Kx [] H H' → PlanAt H' v p → Q v H'
theorem ok_tuples (D : Df K mg "_law_tuples" sLTuples f fd) (mT : mg "tuple" = none) : FnOk P w K mg base CX0 1 f fd ["_law_rows"] spTuples := by
  refine okD D.F scLTuples (fun vs H Q E h => ?_) (fun cdv A outer s H vs Q E hr h => ?_)
  · obtain ⟨o, a1, a2, a3, p, rfl, _⟩ := h
    rfl
  · obtain ⟨o, a1, a2, a3, p, rfl, hO, h1, h2, h3, l1, l2, l3, q⟩ := h
    refine ⟨_, pss_one (ps_ret (pe_callTy call_tuple_of (by rfl) mT (by decide +kernel) (pa_cons
      (pe_lc (own := [("_law_part", 1)]) (g := gName 1) (tt := tYes) rfl scLTuples.nd (pi_list (pv 0)) (blkOk_by (N := nLTuples) (sc := defScope sLTuples) (by decide +kernel))
        (fun _ _ _ _ _ => pg_name (i := 1) scLTuples.nd rfl (.inl rfl)) (fun _ _ _ _ _ => pts_nil)
        (fun _ _ _ _ _ => pe_callTy (r := rTupOf K) call_tuple_of (by rfl) mT (by decide +kernel) (pa_cons
          (pe_lc (own := [("_law_row", 2)]) (wi := iList K (tVar 1)) (g := gName 2) (tt := tYes) (te := tCB (rTupOf K) (tCons (tVar 2) tNil)) rfl scLTuples.nd (pi_list (pv 1)) okPart
            (fun _ _ _ _ _ => pg_name (i := 2) scLTuples.nd rfl (.inl rfl)) (fun _ _ _ _ _ => pts_nil)
            (fun _ _ _ _ _ => pe_callTy (r := rTupOf K) call_tuple_of (by rfl) mT (by decide +kernel) (pa_cons (pv 2) pa_nil))) pa_nil))) pa_nil))), ?_⟩
    -- a part of the plan
    have part : ∀ {H1 : Hp} {a : Addr} {m : List (List Int)} {Qp : VK}, Kx [] H H1 → MatL H a m → m.length ≤ 4 → (∀ H' v, Kx [] H1 H' → RowsAt H' v m → Qp v H') → tCB (rTupOf K) (tCons (tLc (iList K (tVar 1)) (gName 2) tYes (tCB (rTupOf K) (tCons (tVar 2) tNil)) [2]) tNil) [some (.ref o), some (.ref a), none] H1 Qp := by
      intro H1 a m Qp k1 hm lm qp
      obtain ⟨xs, ex, px⟩ := hm
      have lx := px.length
      refine ⟨_, rfl, a, rfl, ⟨_, SqL.of (k1.lst0 ex)⟩, fun D hD => ?_⟩
      refine lc_list (xs := xs) (fun j H2 => Kx [] H1 H2 ∧ ListR RowAt H2 D (m.take j)) ⟨(Kx.refl _ _).laid hD, .new⟩ (fun j H2 _ hP => SqL.of ((k1.trans hP.1).lst0 ex)) (fun j x H2 hx hP => ?_) (fun H2 hP => ?_)
      · obtain ⟨k2, hl⟩ := hP
        obtain ⟨ns, hns, r, rfl, hr⟩ := pgetL px hx
        refine ⟨rfl, ?_⟩
        refine ⟨_, rfl, r, _, rfl, .inl ⟨SqL.of ((k1.trans k2).lst0 hr), fun T hT => ?_⟩⟩
        have kT : Kx [] H2 (upd H2 T (.tup (ns.map V.int))) := (Kx.refl _ _).laid hT
        obtain ⟨ys, e1, e2, e3⟩ := hl.snoc stb_row (v := .ref T) (y := ns) kT ⟨T, rfl, upd_same⟩
        refine ⟨ys, e1, ?_, (k2.trans kT).new hD, ?_⟩
        · rw [e2, List.length_take]
          exact small1000 (by omega)
        · rw [List.take_add_one, hns]
          exact e3
      · rw [lx, List.take_length] at hP
        obtain ⟨k2, ys, ey, py⟩ := hP
        refine ⟨D, ys, rfl, .inl ⟨SqL.of ey, fun T hT => ?_⟩⟩
        exact qp _ _ (k2.laid hT) (tupR_of (p := D) hT py)
    refine ⟨_, rfl, o, rfl, ⟨_, SqL.of hO⟩, fun D hD => ?_⟩
    refine lc_list (xs := [.ref a1, .ref a2, .ref a3]) (fun j H2 => Kx [] H H2 ∧ ListR (fun H => RowsAt H) H2 D (([p.1, p.2.1, p.2.2] : List (List (List Int))).take j)) ⟨(Kx.refl _ _).laid hD, .new⟩ (fun j H2 _ hP => SqL.of (hP.1.lst0 hO)) (fun j x H2 hx hP => ?_) (fun H2 hP => ?_)
    · obtain ⟨k2, hl⟩ := hP
      refine ⟨rfl, ?_⟩
      have fin : ∀ {H3 : Hp} {v : V} {m : List (List Int)}, Kx [] H2 H3 → RowsAt H3 v m → ([p.1, p.2.1, p.2.2] : List (List (List Int)))[j]? = some m → ∃ acc, H3 D = some (.lst acc) ∧ acc.length < sizeLine ∧ Kx [] H (upd H3 D (.lst (acc ++ [v]))) ∧ ListR (fun H => RowsAt H) (upd H3 D (.lst (acc ++ [v]))) D (([p.1, p.2.1, p.2.2] : List (List (List Int))).take (j + 1)) := by
        intro H3 v m k3 hv hm
        obtain ⟨ys, e1, e2, e3⟩ := hl.snoc stb_rows k3 hv
        refine ⟨ys, e1, ?_, (k2.trans k3).new hD, ?_⟩
        · rw [e2, List.length_take]
          exact small1000 (by simp only [List.length_cons, List.length_nil]; omega)
        · rw [List.take_add_one, hm]
          exact e3
      match j, hx with
      | 0, hx =>
        cases hx
        exact part k2 h1 l1 fun H3 v k3 hv => fin k3 hv rfl
      | 1, hx =>
        cases hx
        exact part k2 h2 l2 fun H3 v k3 hv => fin k3 hv rfl
      | 2, hx =>
        cases hx
        exact part k2 h3 l3 fun H3 v k3 hv => fin k3 hv rfl
    · obtain ⟨k2, ys, ey, py⟩ := hP
      refine ⟨D, ys, rfl, .inl ⟨SqL.of ey, fun T hT => ?_⟩⟩
      have kT : Kx [] H2 (upd H2 T (.tup ys)) := (Kx.refl _ _).laid hT
      have py : Paired (fun v m => RowsAt H2 v m) ys [p.1, p.2.1, p.2.2] := py
      cases py with
      | cons r1 py =>
        cases py with
        | cons r2 py =>
          cases py with
          | cons r3 py =>
            cases py
            exact q _ _ (k2.trans kT) ⟨T, _, _, _, rfl, upd_same, kT.rows r1, kT.rows r2, kT.rows r3⟩
end
end K15
set_option Elab.async false
set_option linter.all false
set_option maxRecDepth 100000
set_option maxHeartbeats 4000000
/-! the law's own: _law_cells, _law_lines -/
namespace K15
open PySem PySem.Spec PyProof.Rows L2
section
variable {P : Program} {w : World} {K : PySem.W.Frag} {mg : Str → Option Value} {base : Heap} {f : Addr} {fd : FuncData}
/-! ### _law_cells -/
theorem ok_lcells (D : Df K mg "_law_cells" sLCells f fd) (mR : mg "range" = none) (mL : mg "len" = none) (mI : mg "int" = none) : FnOk P w K mg base CX0 1 f fd ["_law_basin_here"] spCells := by
  refine okD D.F scLCells (fun vs H Q E h => ?_) (fun cdv A outer s H vs Q E hr h => ?_)
  · obtain ⟨bv, b, rfl, _⟩ := h
    rfl
  · obtain ⟨bv, b, rfl, hb, hm4, hn4, q⟩ := h
    refine ⟨_, pss_cons (ps_set (i := 1) scLCells.nd rfl (.inl rfl) (pe_lst pa_nil))
      (pss_cons (ps_for PassesOwn.never rfl (pi_range1 (by rfl) mR (pa_cons (pe_ix ix_tup (pv 0) pe_int (fun _ _ => rfl)) pa_nil)) (pg_name (i := 2) scLCells.nd rfl (.inr rfl))
        (pss_one (ps_set (i := 1) scLCells.nd rfl (.inl rfl) (pe_op op_cat (pv 1) (pe_lc (own := [("_law_s", 3)]) (g := gName 3) (tt := tYes) rfl scLCells.nd
          (pi_range1 (by rfl) mR (pa_cons (pe_callB (r := rLenS K) call_len_seq (by rfl) mL PySem.boot_len (pa_cons (pe_ix ix_tup (pv 0) pe_int (fun _ _ => rfl)) pa_nil)) pa_nil))
          (blkOk_by (N := nLCells) (sc := defScope sLCells) (by decide +kernel)) (fun _ _ _ _ _ => pg_name (i := 3) scLCells.nd rfl (.inl rfl)) (fun _ _ _ _ _ => pts_nil)
          (fun _ _ _ _ _ => pe_tup (pa_cons (pe_callTy call_int1 (by rfl) mI (by decide +kernel) (pa_cons (pv 3) pa_nil)) (pa_cons (pe_callTy call_int1 (by rfl) mI (by decide +kernel) (pa_cons (pv 2) pa_nil)) pa_nil))))))))
      (pss_one (ps_ret (pv 1)))), ?_⟩
    obtain ⟨a, x, rfl, ha, c, ys, rfl, hc, hp⟩ := hb
    have hl := hp.length
    refine ⟨Nat.zero_le _, fun L hL => ?_⟩
    have k1 : Kx [] H (upd H L (.lst [])) := (Kx.refl _ _).laid hL
    refine ⟨_, rfl, a, _, 0, _, rfl, rfl, SqT.of (k1.tu _ _ ha), atI_nat (j := 0) rfl, _, rfl, by omega, by omega, ?_⟩
    rw [Int.toNat_natCast]
    refine for_range (lo := 0) (n := b.months) (fun i σ H' => Kx [] H H' ∧ ∃ (p : Addr) (y2 : Option V), H p = none ∧ ListR CellAt H' p (cellsTo b.sites.length i) ∧ σ = [some (.ref a), some (.ref p), y2, none])
      ⟨k1, L, none, hL, .new, rfl⟩ (fun i σ H' hi hP => ?_) (fun σ H' hP => ?_)
    · obtain ⟨kx, p, y2, np, hcl, rfl⟩ := hP
      refine ⟨_, rfl, _, rfl, a, _, 1, _, rfl, rfl, SqT.of (kx.tu _ _ ha), atI_nat (j := 1) rfl, c, ys, rfl, .inr (SqT.of (kx.tu _ _ hc)), _, rfl, by omega, by omega, fun D hD => ?_⟩
      rw [Int.toNat_natCast, hl]
      refine rg_walk (fun j H'' => Kx [] H' H'' ∧ ListR CellAt H'' D ((List.range j).map fun s => (s, i))) ⟨(Kx.refl _ _).new hD, .new⟩ (fun j H'' hj hP2 => ?_) (fun H'' hP2 => ?_)
      · obtain ⟨kx2, hcl2⟩ := hP2
        refine ⟨rfl, ?_⟩
        refine ⟨_, rfl, .inl ⟨_, rfl, _, rfl, .inl ⟨_, rfl, by show 2 ≤ sizeLine; decide, fun T hT => ?_⟩⟩⟩
        have kT : Kx [] H'' (upd H'' T (.tup [.int (0 + (j : Nat)), .int (0 + (i : Nat))])) := (Kx.refl _ _).laid hT
        obtain ⟨xs, e1, e2, e3⟩ := hcl2.snoc stb_cell (v := .ref T) (y := (j, i)) kT ⟨T, rfl, by rw [upd_same, Int.zero_add, Int.zero_add]⟩
        refine ⟨xs, e1, ?_, (kx2.trans kT).new hD, ?_⟩
        · rw [e2, List.length_map, List.length_range]
          exact small1000 (by omega)
        · rw [List.range_succ, List.map_append]
          exact e3
      · obtain ⟨kx2, xs2, e2, p2⟩ := hP2
        obtain ⟨xs1, e1, p1⟩ := hcl.kx stb_cell kx2
        have l1 := p1.length
        have l2 := p2.length
        rw [cellsTo_len] at l1
        rw [List.length_map, List.length_range] at l2
        have : i * b.sites.length ≤ 4 * 4 := Nat.mul_le_mul (by omega) hn4
        refine ⟨p, D, xs1, xs2, rfl, rfl, e1, e2, ?_, fun C hC => ?_⟩
        · exact Nat.le_of_lt (small1000 (by omega))
        · have kC := (Kx.refl [] H'').laid (o := .lst (xs1 ++ xs2)) hC
          have kk := kx.trans (kx2.trans kC)
          refine ⟨kk, C, _, (kx.trans kx2).th _ hC, ⟨_, upd_same, ?_⟩, rfl⟩
          rw [cellsTo_succ]
          exact papp (p1.mono fun _ _ z => kC.cell z) (p2.mono fun _ _ z => kC.cell z)
    · obtain ⟨kx, p, y2, np, hcl, rfl⟩ := hP
      exact ⟨_, rfl, q H' p kx np hcl⟩

/-! ### _law_lines -/
theorem weave_get {α : Type} : ∀ {xs ys : List α} {i : Nat} {x y : α}, xs[i]? = some x → ys[i]? = some y → (weave xs ys)[2 * i]? = some x ∧ (weave xs ys)[2 * i + 1]? = some y
  | [], _, _, _, _, h, _ => by simp at h
  | _ :: _, [], _, _, _, _, h => by simp at h
  | a :: xs, b :: ys, 0, x, y, h, h2 => by
    simp at h h2
    subst h h2
    exact ⟨rfl, rfl⟩
  | a :: xs, b :: ys, i + 1, x, y, h, h2 => by
    have ih := weave_get (xs := xs) (ys := ys) (i := i) (x := x) (y := y) (by simpa using h) (by simpa using h2)
    have e : 2 * (i + 1) = 2 * i + 1 + 1 := by omega
    rw [e]
    exact ih
theorem flat_get {α β : Type} {f g : α → β} : ∀ {l : List α} {i : Nat} {x : α}, l[i]? = some x → (l.flatMap fun s => [f s, g s])[2 * i]? = some (f x) ∧ (l.flatMap fun s => [f s, g s])[2 * i + 1]? = some (g x)
  | [], _, _, h => by simp at h
  | a :: l, 0, x, h => by
    simp at h
    subst h
    exact ⟨rfl, rfl⟩
  | a :: l, i + 1, x, h => by
    have ih := flat_get (f := f) (g := g) (l := l) (i := i) (x := x) (by simpa using h)
    have e : 2 * (i + 1) = 2 * i + 1 + 1 := by omega
    rw [e]
    exact ih
theorem line_give {b : Basin} {rs : List Rt} {p : Plan} (h : PlanOk b rs p) {i : Nat} {r : Rt} {row : List Int} (hr : rs[i]? = some r) (hp : p.1[i]? = some row) : (planLines b rs p)[i]? = some (lineS wGive r.name row) := by
  have i1 := (List.getElem?_eq_some_iff.mp hr).1
  have i2 := (List.getElem?_eq_some_iff.mp hp).1
  have e1 : (headsOf b rs)[i]? = some (wGive, r.name) := by
    unfold headsOf
    rw [List.getElem?_append_left (by rw [List.length_map]; exact i1), List.getElem?_map, hr]
    rfl
  have e2 : (rowsOfP p)[i]? = some row := by
    unfold rowsOfP
    rw [List.getElem?_append_left i2, hp]
  unfold planLines
  rw [List.getElem?_zipWith, e1, e2]
theorem line_site {b : Basin} {rs : List Rt} {p : Plan} (h : PlanOk b rs p) {i : Nat} {s : Site} {x y : List Int} (hs : b.sites[i]? = some s) (hx : p.2.1[i]? = some x) (hy : p.2.2[i]? = some y) :
    (planLines b rs p)[rs.length + 2 * i]? = some (lineS wLet s.name x) ∧ (planLines b rs p)[rs.length + 2 * i + 1]? = some (lineS wStore s.name y) := by
  have e1 := flat_get (f := fun s : Site => (wLet, s.name)) (g := fun s : Site => (wStore, s.name)) hs
  have e2 := weave_get hx hy
  have h1 : ∀ k, (headsOf b rs)[rs.length + k]? = (b.sites.flatMap fun s => [(wLet, s.name), (wStore, s.name)])[k]? := by
    intro k
    unfold headsOf
    rw [List.getElem?_append_right (by rw [List.length_map]; omega), List.length_map, Nat.add_sub_cancel_left]
  have h2 : ∀ k, (rowsOfP p)[rs.length + k]? = (weave p.2.1 p.2.2)[k]? := by
    intro k
    unfold rowsOfP
    rw [← h.nd, List.getElem?_append_right (by omega), Nat.add_sub_cancel_left]
  unfold planLines
  constructor
  · rw [List.getElem?_zipWith, h1, h2, e1.1, e2.1]
  · rw [Nat.add_assoc, List.getElem?_zipWith, h1, h2, e1.2, e2.2]
theorem give_sp : ("give " : Str) = wGive ++ sSp := by decide +kernel
theorem let_sp : ("let " : Str) = wLet ++ sSp := by decide +kernel
theorem store_sp : ("store " : Str) = wStore ++ sSp := by decide +kernel
theorem words_len {ns : List Int} {m : Nat} (h : RowOk m ns) (hm : m ≤ 4) : (Txt.join sSp (ns.map numS)).length ≤ 20 := by
  have e := join_short (B := 4) (y := sSp) (l := ns.map numS) fun p hp => by
    obtain ⟨x, hx, rfl⟩ := List.mem_map.mp hp
    exact (numS_len (h.2 x hx).1 (h.2 x hx).2).2
  rw [List.length_map, len_sp, h.1] at e
  omega
abbrev spAddS : R2 := fun x y H Q => ∃ i j, x = .str i ∧ y = .str j ∧ i.length + j.length ≤ sizeLine ∧ Q (.str (i ++ j)) H
theorem ok_llines {f1 : Addr} {fd1 : FuncData} (D : Df K mg "_law_lines" sLLines f fd) (D1 : Df K mg "_law_words" sLWords f1 fd1) (mR : mg "range" = none) (mL : mg "len" = none) (mS : mg "str" = none) :
    FnOk P w K mg base CX0 2 f fd ["_law_basin_here", "_law_rights_here", "_law_plan"] spLines := by
  have G1 : FnOk P w K mg base CX0 1 f1 fd1 _ spWords := ok_words D1 mS
  refine okD D.F scLLines (fun vs H Q E h => ?_) (fun cdv A outer s H vs Q E hr h => ?_)
  · obtain ⟨bv, rv, pvl, b, rs, p, rfl, _⟩ := h
    rfl
  · obtain ⟨bv, rv, pvl, b, rs, p, rfl, hb, hrt, hpl, bok, rok, pok, q⟩ := h
    refine ⟨_, pss_cons (ps_set (i := 3) scLLines.nd rfl (.inl rfl) (pe_lst pa_nil))
      (pss_cons (ps_for PassesOwn.never rfl (pi_range1 (by rfl) mR (pa_cons (pe_callB call_len_seq (by rfl) mL PySem.boot_len (pa_cons (pv 1) pa_nil)) pa_nil)) (pg_name (i := 4) scLLines.nd rfl (.inl rfl))
        (pss_one (ps_expr (pe_bm PySem.F.plainAttrs_list PySem.F.slot_list_append PySem.F.type_list_append mt_append (pv 3) (pa_cons
          (pe_op op_add_str (pe_op op_add_str (pe_op op_add_str pe_str (pe_ix ix_tup (pe_ix ix_tup (pv 1) (pv 4) (fun _ _ => rfl)) pe_int (fun _ _ => rfl))) pe_str)
            (pe_call G1 hr (by rfl) D1.g D1.F.kp (bdLWords D1.F) .nil pass0 (pa_cons (pe_ix ix_tup (pe_ix ix_tup (pv 2) pe_int (fun _ _ => rfl)) (pv 4) (fun _ _ => rfl)) pa_nil))) pa_nil)))))
      (pss_cons (ps_for PassesOwn.never rfl (pi_range1 (by rfl) mR (pa_cons (pe_callB call_len_seq (by rfl) mL PySem.boot_len (pa_cons (pe_ix ix_tup (pv 0) pe_int (fun _ _ => rfl)) pa_nil)) pa_nil)) (pg_name (i := 5) scLLines.nd rfl (.inl rfl))
        (pss_cons (ps_expr (pe_bm PySem.F.plainAttrs_list PySem.F.slot_list_append PySem.F.type_list_append mt_append (pv 3) (pa_cons
          (pe_op op_add_str (pe_op op_add_str (pe_op op_add_str pe_str (pe_ix ix_tup (pe_ix ix_tup (pe_ix ix_tup (pv 0) pe_int (fun _ _ => rfl)) (pv 5) (fun _ _ => rfl)) pe_int (fun _ _ => rfl))) pe_str)
            (pe_call G1 hr (by rfl) D1.g D1.F.kp (bdLWords D1.F) .nil pass0 (pa_cons (pe_ix ix_tup (pe_ix ix_tup (pv 2) pe_int (fun _ _ => rfl)) (pv 5) (fun _ _ => rfl)) pa_nil))) pa_nil)))
        (pss_one (ps_expr (pe_bm PySem.F.plainAttrs_list PySem.F.slot_list_append PySem.F.type_list_append mt_append (pv 3) (pa_cons
          (pe_op op_add_str (pe_op op_add_str (pe_op op_add_str pe_str (pe_ix ix_tup (pe_ix ix_tup (pe_ix ix_tup (pv 0) pe_int (fun _ _ => rfl)) (pv 5) (fun _ _ => rfl)) pe_int (fun _ _ => rfl))) pe_str)
            (pe_call G1 hr (by rfl) D1.g D1.F.kp (bdLWords D1.F) .nil pass0 (pa_cons (pe_ix ix_tup (pe_ix ix_tup (pv 2) pe_int (fun _ _ => rfl)) (pv 5) (fun _ _ => rfl)) pa_nil))) pa_nil))))))
      (pss_one (ps_ret (pv 3))))), ?_⟩
    obtain ⟨a, x, rfl, ha, c, ys, rfl, hc, hp⟩ := hb
    obtain ⟨ra, rxs, rfl, hra, hrp⟩ := hrt
    obtain ⟨pa, v1, v2, v3, rfl, hpa, ⟨a1, x1, rfl, h1, p1⟩, ⟨a2, x2, rfl, h2, p2⟩, ⟨a3, x3, rfl, h3, p3⟩⟩ := hpl
    have el1 := hrp.length
    have el2 := hp.length
    have hm1 := bok.m1
    have hm4 := bok.m4
    have hn4 := bok.n4
    have hr4 := rok.n4
    have lz : (1000 : Nat) ≤ sizeLine := by decide
    have s1 : (" " : Str).length = 1 := by decide +kernel
    have g1 : ("give " : Str).length = 5 := by decide +kernel
    have g2 : ("let " : Str).length = 4 := by decide +kernel
    have g3 : ("store " : Str).length = 6 := by decide +kernel
    refine ⟨Nat.zero_le _, fun L hL => ?_⟩
    have k1 : Kx [] H (upd H L (.lst [])) := (Kx.refl _ _).laid hL
    refine ⟨_, rfl, ra, rxs, rfl, .inr (SqT.of (k1.tu _ _ hra)), _, rfl, by omega, by omega, ?_⟩
    rw [Int.toNat_natCast, el1]
    refine for_range (lo := 0) (n := rs.length) (fun i σ H' => Kx [] H H' ∧ StrsL H' L ((planLines b rs p).take i) ∧ ∃ y4, σ = [some (.ref a), some (.ref ra), some (.ref pa), some (.ref L), y4, none])
      ⟨k1, upd_same, none, rfl⟩ (fun i σ H' hi hP => ?_) (fun σ H' hP => ?_)
    · obtain ⟨kx, eL, y4, rfl⟩ := hP
      have hi1 : i < p.1.length := by rw [pok.nd]; exact hi
      obtain ⟨rvv, hrv, a4, f4, rfl, h4, _⟩ := pget hrp (List.getElem?_eq_getElem hi)
      obtain ⟨y, hy, ry⟩ := pget p1 (List.getElem?_eq_getElem hi1)
      have rok1 : RowOk b.months p.1[i] := pok.rd _ (List.getElem_mem hi1)
      have nok := rok.nm _ (List.getElem_mem hi)
      have nhi := nok.hi
      refine ⟨.ref L, rfl, .inl ⟨rfl, _, SqL.of eL⟩, _, rfl, _, rfl, ra, rxs, _, _, rfl, rfl, SqT.of (kx.tu _ _ hra), by rw [Int.zero_add]; exact atI_nat hrv, a4, _, 0, _, rfl, rfl, SqT.of (kx.tu _ _ h4), atI_nat (j := 0) rfl, _, _, rfl, rfl, by rw [g1]; omega, _, _, rfl, rfl, by rw [len_app, g1, s1]; omega, ?_⟩
      refine ⟨_, rfl, pa, _, 0, _, rfl, rfl, SqT.of (kx.tu _ _ hpa), atI_nat (j := 0) rfl, _, rfl, a1, x1, _, y, rfl, rfl, SqT.of (kx.tu _ _ h1), by rw [Int.zero_add]; exact atI_nat hy, y, p.1[i], rfl, kx.row ry, by rw [rok1.1]; exact hm4, rok1.2, fun H2 k2 => ?_⟩
      have wl := words_len rok1 hm4
      have eL2 := k2.lst0 eL
      refine ⟨_, _, rfl, rfl, by rw [len_app, len_app, g1, s1]; omega, L, _, _, rfl, rfl, eL2, ?_, (kx.trans k2).new hL, ?_, _, rfl⟩
      · rw [List.length_map, List.length_take]
        exact small1000 (by omega)
      · have e9 := line_give pok (List.getElem?_eq_getElem hi) (List.getElem?_eq_getElem hi1)
        rw [List.take_add_one, e9, StrsL, upd_same, List.map_append, give_sp]
        have ne : p.1[i] ≠ [] := fun z => by
          have := rok1.1
          rw [z] at this
          simp at this
          omega
        rw [← line_law _ _ ne]
        rfl
    · obtain ⟨kx, eL, y4, rfl⟩ := hP
      refine ⟨_, rfl, a, _, 1, _, rfl, rfl, SqT.of (kx.tu _ _ ha), atI_nat (j := 1) rfl, c, ys, rfl, .inr (SqT.of (kx.tu _ _ hc)), _, rfl, by omega, by omega, ?_⟩
      rw [Int.toNat_natCast, el2]
      refine for_range (lo := 0) (n := b.sites.length) (fun i σ H' => Kx [] H H' ∧ StrsL H' L ((planLines b rs p).take (rs.length + 2 * i)) ∧ ∃ y4 y5, σ = [some (.ref a), some (.ref ra), some (.ref pa), some (.ref L), y4, y5])
        ⟨kx, eL, _, _, rfl⟩ (fun i σ H' hi hP => ?_) (fun σ H' hP => ?_)
      · obtain ⟨kx, eL, y4, y5, rfl⟩ := hP
        have hi1 : i < p.2.1.length := by rw [pok.nr]; exact hi
        have hi2 : i < p.2.2.length := by rw [pok.ns]; exact hi
        obtain ⟨svv, hsv, a4, f4, rfl, h4, _⟩ := pget hp (List.getElem?_eq_getElem hi)
        obtain ⟨y, hy, ry⟩ := pget p2 (List.getElem?_eq_getElem hi1)
        obtain ⟨z, hz, rz⟩ := pget p3 (List.getElem?_eq_getElem hi2)
        have rok1 : RowOk b.months p.2.1[i] := pok.rr _ (List.getElem_mem hi1)
        have rok2 : RowOk b.months p.2.2[i] := pok.rs _ (List.getElem_mem hi2)
        have nok := bok.nm _ (List.getElem_mem hi)
        have nhi := nok.hi
        have wl1 := words_len rok1 hm4
        have wl2 := words_len rok2 hm4
        have e9 := line_site pok (List.getElem?_eq_getElem hi) (List.getElem?_eq_getElem hi1) (List.getElem?_eq_getElem hi2)
        have nne : ∀ {row : List Int}, RowOk b.months row → row ≠ [] := fun h z => by
          have := h.1
          rw [z] at this
          simp at this
          omega
        refine ⟨.ref L, rfl, .inl ⟨rfl, _, SqL.of eL⟩, _, rfl, a, _, 1, _, rfl, rfl, SqT.of (kx.tu _ _ ha), atI_nat (j := 1) rfl, _, rfl, c, ys, _, _, rfl, rfl, SqT.of (kx.tu _ _ hc), by rw [Int.zero_add]; exact atI_nat hsv, a4, _, 0, _, rfl, rfl, SqT.of (kx.tu _ _ h4), atI_nat (j := 0) rfl, _, _, rfl, rfl, by rw [g2]; omega, _, _, rfl, rfl, by rw [len_app, g2, s1]; omega, ?_⟩
        refine ⟨_, rfl, pa, _, 1, _, rfl, rfl, SqT.of (kx.tu _ _ hpa), atI_nat (j := 1) rfl, _, rfl, a2, x2, _, y, rfl, rfl, SqT.of (kx.tu _ _ h2), by rw [Int.zero_add]; exact atI_nat hy, y, p.2.1[i], rfl, kx.row ry, by rw [rok1.1]; exact hm4, rok1.2, fun H2 k2 => ?_⟩
        have eL2 := k2.lst0 eL
        refine ⟨_, _, rfl, rfl, by rw [len_app, len_app, g2, s1]; omega, L, _, _, rfl, rfl, eL2, ?_, ?_⟩
        · rw [List.length_map, List.length_take]
          exact small1000 (by omega)
        have kx3 := (kx.trans k2).new (o := .lst (((planLines b rs p).take (rs.length + 2 * i + 1)).map V.str)) hL
        have eq3 : List.map V.str (List.take (rs.length + 2 * i) (planLines b rs p)) ++ [V.str ("let " ++ b.sites[i].name ++ " " ++ Txt.join sSp (List.map numS p.2.1[i]))] = ((planLines b rs p).take (rs.length + 2 * i + 1)).map V.str := by
          rw [List.take_add_one, e9.1, List.map_append, let_sp]
          rw [← line_law _ _ (nne rok1)]
          rfl
        rw [eq3]
        have eL3 : upd H2 L (.lst (((planLines b rs p).take (rs.length + 2 * i + 1)).map V.str)) L = some (.lst (((planLines b rs p).take (rs.length + 2 * i + 1)).map V.str)) := upd_same
        refine ⟨.ref L, rfl, .inl ⟨rfl, _, SqL.of eL3⟩, _, rfl, a, _, 1, _, rfl, rfl, SqT.of (kx3.tu _ _ ha), atI_nat (j := 1) rfl, _, rfl, c, ys, _, _, rfl, rfl, SqT.of (kx3.tu _ _ hc), by rw [Int.zero_add]; exact atI_nat hsv, a4, _, 0, _, rfl, rfl, SqT.of (kx3.tu _ _ h4), atI_nat (j := 0) rfl, _, _, rfl, rfl, by rw [g3]; omega, _, _, rfl, rfl, by rw [len_app, g3, s1]; omega, ?_⟩
        refine ⟨_, rfl, pa, _, 2, _, rfl, rfl, SqT.of (kx3.tu _ _ hpa), atI_nat (j := 2) rfl, _, rfl, a3, x3, _, z, rfl, rfl, SqT.of (kx3.tu _ _ h3), by rw [Int.zero_add]; exact atI_nat hz, z, p.2.2[i], rfl, kx3.row rz, by rw [rok2.1]; exact hm4, rok2.2, fun H4 k4 => ?_⟩
        have eL4 := k4.lst0 eL3
        refine ⟨_, _, rfl, rfl, by rw [len_app, len_app, g3, s1]; omega, L, _, _, rfl, rfl, eL4, ?_, (kx3.trans k4).new hL, ?_, _, _, rfl⟩
        · rw [List.length_map, List.length_take]
          exact small1000 (by omega)
        · have e8 : rs.length + 2 * (i + 1) = rs.length + 2 * i + 1 + 1 := by omega
          rw [e8, List.take_add_one (i := rs.length + 2 * i + 1), e9.2, StrsL, upd_same, List.map_append, store_sp]
          rw [← line_law _ _ (nne rok2)]
          rfl
      · obtain ⟨kx, eL, y4, y5, rfl⟩ := hP
        rw [← planLines_len pok, List.take_length] at eL
        exact ⟨_, rfl, q H' L kx hL eL⟩
end
end K15
set_option Elab.async false
set_option linter.all false
set_option maxRecDepth 100000
set_option maxHeartbeats 4000000
/-! the law's own: _law_received -/
namespace K15
open PySem PySem.Spec PyProof.Rows L2
section
variable {P : Program} {w : World} {K : PySem.W.Frag} {mg : Str → Option Value} {base : Heap} {f : Addr} {fd : FuncData}
structure SiteL (m : Nat) (s : Site) : Prop where
  tr : 0 ≤ s.travel
  r0 : 0 ≤ s.room
  r1 : s.room ≤ 99
  h0 : 0 ≤ s.held
  h1 : s.held ≤ 99
  il : s.infl.length = m
  ib : ∀ x ∈ s.infl, 0 ≤ x ∧ x ≤ 99
  rc : ∀ r, s.reach = some r → 0 ≤ r
structure BasinL (b : Basin) : Prop where
  ok : BasinOk b
  st : ∀ s ∈ b.sites, SiteL b.months s
  dn : ∀ (k : Nat) (s : Site) (x : Str), b.sites[k]? = some s → s.nxt = some x → ∃ (j : Nat) (t : Site), k < j ∧ b.sites[j]? = some t ∧ t.name = x
def capOf (k : Nat) : Int := 198 * 2 ^ k
theorem cap_succ (k : Nat) : capOf (k + 1) = capOf k + capOf k := by
  unfold capOf
  rw [Int.pow_succ]
  omega
theorem cap_pos (k : Nat) : 0 ≤ capOf k := by
  induction k with
  | zero => decide
  | succ k ih => rw [cap_succ]; omega
theorem cap_le {k : Nat} (h : k < 4) : capOf k ≤ 9999 := by
  match k, h with
  | 0, _ => decide
  | 1, _ => decide
  | 2, _ => decide
  | 3, _ => decide
theorem cap_mono {i j : Nat} (h : i ≤ j) : capOf i ≤ capOf j := by
  induction h with
  | refl => exact Int.le_refl _
  | @step j _ ih => rw [cap_succ]; have := cap_pos j; omega
structure RelOk (n m : Nat) (R : List (List Int)) : Prop where
  l : R.length = n
  r : ∀ (k : Nat) row, R[k]? = some row → row.length = m ∧ ∀ x ∈ row, 0 ≤ x ∧ x ≤ capOf k
structure MatOk (n m : Nat) (R : List (List Int)) : Prop where
  l : R.length = n
  r : ∀ (k : Nat) row, R[k]? = some row → row.length = m ∧ ∀ x ∈ row, 0 ≤ x ∧ x ≤ 99
def spReceived : Sp := fun vs H Q _ => ∃ (bv : V) (pl a1 a2 a3 : Addr) (b : Basin) (R S : List (List Int)) (s m : Nat), vs = [bv, .ref pl, .int (s : Nat), .int (m : Nat)] ∧ BasinAt H bv b ∧ BasinL b ∧ H pl = some (.tup [.ref a1, .ref a2, .ref a3]) ∧
  MatL H a2 R ∧ MatL H a3 S ∧ RelOk b.sites.length b.months R ∧ MatOk b.sites.length b.months S ∧ s < b.sites.length ∧ m < b.months ∧ ∀ t : Int, 0 ≤ t → t ≤ capOf s → Q (.int t) H
theorem ok_received (D : Df K mg "_law_received" sLReceived f fd) (mR : mg "range" = none) (mL : mg "len" = none) :
    FnOk P w K mg base CX0 1 f fd ["_law_basin_here", "_law_plan", "_law_s", "_law_m"] spReceived := by
  refine okD D.F scLReceived (fun vs H Q E h => ?_) (fun cdv A outer s H vs Q E hr h => ?_)
  · obtain ⟨bv, pl, a1, a2, a3, b, R, S, s, m, rfl, _⟩ := h
    rfl
  · obtain ⟨bv, pl, a1, a2, a3, b, R, S, s, m, rfl, hb, bl, hpl, hR, hS, rOk, sOk, hs, hm, q⟩ := h
    refine ⟨_, pss_cons (ps_asg (pv 1) (pg_tup rfl (pgs_cons (pg_name (i := 4) scLReceived.nd rfl (.inl rfl)) (pgs_cons (pg_name (i := 5) scLReceived.nd rfl (.inl rfl)) (pgs_cons (pg_name (i := 6) scLReceived.nd rfl (.inl rfl)) pgs_nil)))))
      (pss_cons (ps_set (i := 7) scLReceived.nd rfl (.inl rfl) (pe_ix ix_tup (pe_ix ix_tup (pv 0) pe_int (fun _ _ => rfl)) (pv 2) (fun _ _ => rfl)))
      (pss_cons (ps_set (i := 8) scLReceived.nd rfl (.inl rfl) (pe_ix ix_tup (pe_ix ix_tup (pv 7) pe_int (fun _ _ => rfl)) (pv 3) (fun _ _ => rfl)))
      (pss_cons (ps_if (pt_cmpR op_eq (pv 3) pe_int (nomark _))
        (pss_one (ps_set (i := 8) scLReceived.nd rfl (.inl rfl) (pe_op op_add (pv 8) (pe_ix ix_tup (pv 7) pe_int (fun _ _ => rfl)))))
        (pss_one (ps_set (i := 8) scLReceived.nd rfl (.inl rfl) (pe_op op_add (pv 8) (pe_ix ix_list (pe_ix ix_list (pv 6) (pv 2) (fun _ _ => rfl)) (pe_op op_sub (pv 3) pe_int) (fun _ _ => rfl))))))
      (pss_cons (ps_for PassesOwn.never rfl (pi_range1 (by rfl) mR (pa_cons (pe_callB call_len_seq (by rfl) mL PySem.boot_len (pa_cons (pe_ix ix_tup (pv 0) pe_int (fun _ _ => rfl)) pa_nil)) pa_nil)) (pg_name (i := 9) scLReceived.nd rfl (.inl rfl))
        (pss_cons (ps_set (i := 10) scLReceived.nd rfl (.inl rfl) (pe_ix ix_tup (pe_ix ix_tup (pv 0) pe_int (fun _ _ => rfl)) (pv 9) (fun _ _ => rfl)))
        (pss_one (ps_if (pw_and (pt_cmpR op_eq (pe_ix ix_tup (pv 10) pe_int (fun _ _ => rfl)) (pe_ix ix_tup (pv 7) pe_int (fun _ _ => rfl)) (nomark _)) (pw_and1 (pt_cmpR op_ge (pv 3) (pe_ix ix_tup (pv 10) pe_int (fun _ _ => rfl)) (nomark _)))).pt
          (pss_one (ps_set (i := 8) scLReceived.nd rfl (.inl rfl) (pe_op op_add (pv 8) (pe_ix ix_list (pe_ix ix_list (pv 5) (pv 9) (fun _ _ => rfl)) (pe_op op_sub (pv 3) (pe_ix ix_tup (pv 10) pe_int (fun _ _ => rfl))) (fun _ _ => rfl))))) pss_nil))))
      (pss_one (ps_ret (pv 8))))))), ?_⟩
    obtain ⟨a, x, rfl, ha, c, ys, rfl, hc, hp⟩ := hb
    obtain ⟨rx, hrx, prx⟩ := hR
    obtain ⟨sx, hsx, psx⟩ := hS
    have el2 := hp.length
    have hn4 := bl.ok.n4
    have hm4 := bl.ok.m4
    obtain ⟨sv, hsv, sa, sf, rfl, hsa, fa, rfl, hfa⟩ := pget hp (List.getElem?_eq_getElem hs)
    have sl := bl.st _ (List.getElem_mem hs)
    have hil := sl.il
    have him : m < (b.sites[s]).infl.length := by rw [hil]; exact hm
    have ib := sl.ib _ (List.getElem_mem him)
    have hsS : s < S.length := by rw [sOk.l]; exact hs
    have sOkR := sOk.r s _ (List.getElem?_eq_getElem hsS)
    obtain ⟨srv, hsrv, sra, rfl, hsra⟩ := pget psx (List.getElem?_eq_getElem hsS)
    refine ⟨_, rfl, pl, _, rfl, SqT.of hpl, rfl, _, _, rfl, _, _, rfl, _, _, rfl, rfl, ?_⟩
    refine ⟨_, rfl, a, _, 1, _, rfl, rfl, SqT.of ha, atI_nat (j := 1) rfl, _, rfl, c, ys, _, _, rfl, rfl, SqT.of hc, atI_nat hsv, ?_⟩
    refine ⟨_, rfl, sa, _, 6, _, rfl, rfl, SqT.of hsa, atI_nat (j := 6) rfl, _, rfl, fa, _, _, .int (b.sites[s]).infl[m], rfl, rfl, SqT.of hfa, atI_nat (by rw [List.getElem?_map, List.getElem?_eq_getElem him]; rfl), ?_⟩
    have c0 : capOf 0 = 198 := by decide
    refine ⟨_, rfl, rfl, _, rfl, ite2 (fun e => ?b1) (fun e => ?b2)⟩
    case' b1 =>
      refine ⟨_, rfl, _, rfl, sa, _, 5, _, rfl, rfl, SqT.of hsa, atI_nat (j := 5) rfl, _, _, rfl, rfl, ?_⟩
      have hT : 0 ≤ (b.sites[s]).infl[m] + (b.sites[s]).held ∧ (b.sites[s]).infl[m] + (b.sites[s]).held ≤ capOf 0 := ⟨by have := sl.h0; omega, by rw [c0]; have := sl.h1; omega⟩
    case' b2 =>
      have e1 : m ≠ 0 := fun z => e (decide_eq_true (by rw [z]; rfl))
      have e2 : ((m : Nat) : Int) - 1 = ((m - 1 : Nat) : Int) := by omega
      have e3 : m - 1 < S[s].length := by rw [sOkR.1]; omega
      have e4 := sOkR.2 _ (List.getElem_mem e3)
      refine ⟨_, rfl, _, rfl, _, rfl, a3, sx, _, _, rfl, rfl, SqL.of hsx, atI_nat hsrv, _, rfl, _, _, rfl, rfl, sra, _, _, .int (S[s])[m - 1], rfl, rfl, SqL.of hsra, by rw [e2]; exact atI_nat (by rw [List.getElem?_map, List.getElem?_eq_getElem e3]; rfl), _, _, rfl, rfl, ?_⟩
      have hT : 0 ≤ (b.sites[s]).infl[m] + (S[s])[m - 1] ∧ (b.sites[s]).infl[m] + (S[s])[m - 1] ≤ capOf 0 := ⟨by omega, by rw [c0]; omega⟩
    all_goals
      refine ⟨_, rfl, a, _, 1, _, rfl, rfl, SqT.of ha, atI_nat (j := 1) rfl, c, ys, rfl, .inr (SqT.of hc), _, rfl, by omega, by omega, ?_⟩
      rw [Int.toNat_natCast, el2]
      refine for_range (lo := 0) (n := b.sites.length) (fun i σ H' => H' = H ∧ ∃ (t : Int) (y9 y10 : Option V), 0 ≤ t ∧ t ≤ capOf (min i s) ∧ σ = [some (.ref a), some (.ref pl), some (.int (s : Nat)), some (.int (m : Nat)), some (.ref a1), some (.ref a2), some (.ref a3), some (.ref sa), some (.int t), y9, y10])
        ⟨rfl, _, none, none, hT.1, by rw [Nat.zero_min]; exact hT.2, rfl⟩ (fun i σ H' hi hP => ?_) (fun σ H' hP => ?_)
      · obtain ⟨rfl, t, y9, y10, t0, t1, rfl⟩ := hP
        obtain ⟨o, ho⟩ : ∃ o, b.sites[i]? = some o := ⟨_, List.getElem?_eq_getElem hi⟩
        obtain ⟨ov, hov, oa, of, rfl, hoa, _⟩ := pget hp ho
        have ol := bl.st o (List.mem_of_getElem? ho)
        have skip : t ≤ capOf (min (i + 1) s) := Int.le_trans t1 (cap_mono (by omega))
        refine ⟨_, rfl, a, _, 1, _, rfl, rfl, SqT.of ha, atI_nat (j := 1) rfl, _, rfl, c, ys, _, _, rfl, rfl, SqT.of hc, by rw [Int.zero_add]; exact atI_nat hov, ?_⟩
        refine ⟨_, rfl, oa, _, 1, _, rfl, rfl, SqT.of hoa, atI_nat (j := 1) rfl, _, rfl, sa, _, 0, _, rfl, rfl, SqT.of hsa, atI_nat (j := 0) rfl, by cases o.nxt <;> rfl, _, rfl, ite2 (fun e5 => ?_) (fun e5 => ?_)⟩
        · refine ⟨_, rfl, _, rfl, oa, _, 2, _, rfl, rfl, SqT.of hoa, atI_nat (j := 2) rfl, _, _, rfl, rfl, _, rfl, ite2 (fun e6 => ?_) (fun e6 => ?_)⟩
          · obtain ⟨tr, htr⟩ : ∃ tr : Nat, o.travel = (tr : Nat) := ⟨o.travel.toNat, by have := ol.tr; omega⟩
            have htm : tr ≤ m := by
              have := of_decide_eq_true e6
              rw [htr] at this
              omega
            have e7 : ((m : Nat) : Int) - o.travel = ((m - tr : Nat) : Int) := by omega
            have his : i < s := by
              have e8 := of_decide_eq_true e5
              cases hx : o.nxt with
              | none => rw [hx] at e8; cases e8
              | some x =>
                rw [hx] at e8
                have e9 : x = (b.sites[s]).name := V.str.inj e8
                obtain ⟨j, u, hij, hu, hun⟩ := bl.dn i o x ho hx
                have := bl.ok.nd j s u _ hu (List.getElem?_eq_getElem hs) (hun.trans e9)
                omega
            obtain ⟨rrow, hrr⟩ : ∃ rrow, R[i]? = some rrow := ⟨_, List.getElem?_eq_getElem (by rw [rOk.l]; exact hi)⟩
            obtain ⟨rv, hrv, ra, rfl, hra⟩ := pget prx hrr
            have rOkR := rOk.r i _ hrr
            have e3 : m - tr < rrow.length := by rw [rOkR.1]; omega
            have e4 := rOkR.2 _ (List.getElem_mem e3)
            refine ⟨_, rfl, _, rfl, _, rfl, a2, rx, _, _, rfl, rfl, SqL.of hrx, by rw [Int.zero_add]; exact atI_nat hrv, _, rfl, _, rfl, oa, _, 2, _, rfl, rfl, SqT.of hoa, atI_nat (j := 2) rfl, _, _, rfl, rfl, ra, _, _, .int rrow[m - tr], rfl, rfl, SqL.of hra, by rw [e7]; exact atI_nat (by rw [List.getElem?_map, List.getElem?_eq_getElem e3]; rfl), _, _, rfl, rfl, ?_⟩
            have m1 : min i s = i := by omega
            have m2 : min (i + 1) s = i + 1 := by omega
            rw [m1] at t1
            exact ⟨rfl, _, _, _, by omega, by rw [m2, cap_succ]; omega, rfl⟩
          · exact ⟨rfl, t, _, _, t0, skip, rfl⟩
        · exact iteF ⟨rfl, t, _, _, t0, skip, rfl⟩
      · obtain ⟨rfl, t, y9, y10, t0, t1, rfl⟩ := hP
        have m1 : min b.sites.length s = s := by omega
        rw [m1] at t1
        exact ⟨_, rfl, q t t0 t1⟩
end
end K15
set_option Elab.async false
set_option linter.all false
set_option maxRecDepth 100000
set_option maxHeartbeats 4000000
/-! the state of _law_led: three tables of rows -/
namespace K15
open PySem PySem.Spec PyProof.Rows L2
section
variable {K : PySem.W.Frag}
structure RightsL (m : Nat) (rs : List Rt) : Prop where
  ok : RightsOk rs
  dm : ∀ r ∈ rs, r.dem.length = m ∧ ∀ x ∈ r.dem, 0 ≤ x ∧ x ≤ 99
abbrev Rws (H : Hp) (A : List Addr) (D : List (List Int)) : Prop := Paired (fun (a : Addr) (ns : List Int) => H a = some (.lst (ns.map V.int))) A D
theorem Rws.off {H : Hp} {a : Addr} {o : HO} : ∀ {A : List Addr} {D : List (List Int)}, a ∉ A → Rws H A D → Rws (upd H a o) A D
  | _, _, _, .nil => .nil
  | b :: _, _, h, .cons r t => .cons (by rw [upd_ne (fun z => h (by rw [← z]; exact List.mem_cons_self))]; exact r) (Rws.off (fun z => h (List.mem_cons_of_mem _ z)) t)
theorem Rws.set {H : Hp} {a : Addr} {row : List Int} : ∀ {A : List Addr} {D : List (List Int)} {i : Nat}, Rws H A D → A.Nodup → A[i]? = some a → Rws (upd H a (.lst (row.map V.int))) A (D.set i row)
  | _, _, _, .nil, _, e => by simp at e
  | b :: _, _, 0, .cons r t, nd, e => by
    simp at e
    subst e
    exact .cons upd_same (Rws.off (List.nodup_cons.mp nd).1 t)
  | b :: A, _ :: D, i + 1, .cons r t, nd, e => by
    have e1 : A[i]? = some a := by simpa using e
    have n1 := List.nodup_cons.mp nd
    refine .cons ?_ (Rws.set t n1.2 e1)
    rw [upd_ne (fun z => n1.1 (by rw [z]; exact List.mem_of_getElem? e1))]
    exact r
theorem Rws.mat {H : Hp} {p : Addr} : ∀ {A : List Addr} {D : List (List Int)}, Rws H A D → Paired (RowL H) (A.map V.ref) D
  | _, _, .nil => .nil
  | _, _, .cons r t => .cons ⟨_, rfl, r⟩ (Rws.mat (p := p) t)
structure Led (H0 H : Hp) (box dg p1 p2 p3 : Addr) (A1 A2 A3 : List Addr) (nr n m : Nat) (D R S : List (List Int)) : Prop where
  hb : H0 box ≠ none
  hd : H0 dg ≠ none
  kx : Kx [box] H0 H
  bx : BoxAt dg H box
  f : ∀ a ∈ p1 :: p2 :: p3 :: (A1 ++ (A2 ++ A3)), H0 a = none
  nd : (A1 ++ (A2 ++ A3)).Nodup
  np : ∀ a ∈ A1 ++ (A2 ++ A3), a ≠ p1 ∧ a ≠ p2 ∧ a ≠ p3
  h1 : H p1 = some (.lst (A1.map V.ref))
  h2 : H p2 = some (.lst (A2.map V.ref))
  h3 : H p3 = some (.lst (A3.map V.ref))
  q1 : Rws H A1 D
  q2 : Rws H A2 R
  q3 : Rws H A3 S
  dO : MatOk nr m D
  rO : RelOk n m R
  sO : MatOk n m S
section
variable {H0 H H' : Hp} {box dg p1 p2 p3 : Addr} {A1 A2 A3 : List Addr} {nr n m : Nat} {D R S : List (List Int)}
theorem Rws.kx {A : List Addr} {D : List (List Int)} (k : Kx [box] H H') : (∀ a ∈ A, a ≠ box) → Rws H A D → Rws H' A D
  | _, .nil => .nil
  | h, .cons r t => .cons (k.lst (by have := h _ List.mem_cons_self; simpa using this) r) (Rws.kx k (fun a ha => h a (List.mem_cons_of_mem _ ha)) t)
theorem Led.ne (h : Led H0 H box dg p1 p2 p3 A1 A2 A3 nr n m D R S) {a : Addr} (ha : a ∈ p1 :: p2 :: p3 :: (A1 ++ (A2 ++ A3))) : a ≠ box ∧ a ≠ dg := ⟨fun z => h.hb (by rw [← z]; exact h.f a ha), fun z => h.hd (by rw [← z]; exact h.f a ha)⟩
theorem Led.keep (h : Led H0 H box dg p1 p2 p3 A1 A2 A3 nr n m D R S) (k : Kx [box] H H') (b : BoxAt dg H' box) : Led H0 H' box dg p1 p2 p3 A1 A2 A3 nr n m D R S := by
  have w : ∀ {a : Addr} {xs : List V}, a ∈ p1 :: p2 :: p3 :: (A1 ++ (A2 ++ A3)) → H a = some (.lst xs) → H' a = some (.lst xs) := fun ha e => k.lst (by have := (h.ne ha).1; simpa using this) e
  refine ⟨h.hb, h.hd, h.kx.trans k, b, h.f, h.nd, h.np, w (by simp) h.h1, w (by simp) h.h2, w (by simp) h.h3, h.q1.kx k fun a ha => (h.ne ?_).1, h.q2.kx k fun a ha => (h.ne ?_).1, h.q3.kx k fun a ha => (h.ne ?_).1, h.dO, h.rO, h.sO⟩
  · simp [ha]
  · simp [ha]
  · simp [ha]
theorem Led.keep0 (h : Led H0 H box dg p1 p2 p3 A1 A2 A3 nr n m D R S) (k : Kx [] H H') : Led H0 H' box dg p1 p2 p3 A1 A2 A3 nr n m D R S := h.keep k.any (h.bx.kx0 k)
theorem set_map {row : List Int} {j : Nat} {x : Int} : (row.map V.int).set j (.int x) = (row.set j x).map V.int := by rw [List.map_set]
theorem MatOk.set (h : MatOk n m D) {i j : Nat} {row : List Int} {x : Int} (hr : D[i]? = some row) (h0 : 0 ≤ x) (h1 : x ≤ 99) : MatOk n m (D.set i (row.set j x)) := by
  refine ⟨by rw [List.length_set]; exact h.l, fun k r hk => ?_⟩
  rw [List.getElem?_set] at hk
  split at hk
  · split at hk
    · cases hk
      have e := h.r i row hr
      refine ⟨by rw [List.length_set]; exact e.1, fun y hy => ?_⟩
      rcases List.mem_or_eq_of_mem_set hy with hy | rfl
      · exact e.2 y hy
      · exact ⟨h0, h1⟩
    · cases hk
  · exact h.r k r hk
theorem RelOk.set (h : RelOk n m R) {i j : Nat} {row : List Int} {x : Int} (hr : R[i]? = some row) (h0 : 0 ≤ x) (h1 : x ≤ capOf i) : RelOk n m (R.set i (row.set j x)) := by
  refine ⟨by rw [List.length_set]; exact h.l, fun k r hk => ?_⟩
  rw [List.getElem?_set] at hk
  split at hk
  · rename_i hik
    split at hk
    · cases hk
      have e := h.r i row hr
      refine ⟨by rw [List.length_set]; exact e.1, fun y hy => ?_⟩
      rcases List.mem_or_eq_of_mem_set hy with hy | rfl
      · rw [← hik]
        exact e.2 y hy
      · rw [← hik]
        exact ⟨h0, h1⟩
    · cases hk
  · exact h.r k r hk
theorem Led.set1 (h : Led H0 H box dg p1 p2 p3 A1 A2 A3 nr n m D R S) {i j : Nat} {a : Addr} {row : List Int} {x : Int} (ha : A1[i]? = some a) (hr : D[i]? = some row) (h0 : 0 ≤ x) (h1 : x ≤ 99) :
    Led H0 (upd H a (.lst ((row.set j x).map V.int))) box dg p1 p2 p3 A1 A2 A3 nr n m (D.set i (row.set j x)) R S := by
  have m1 := List.mem_of_getElem? ha
  have mm : a ∈ A1 ++ (A2 ++ A3) := by simp [m1]
  have mp : a ∈ p1 :: p2 :: p3 :: (A1 ++ (A2 ++ A3)) := by simp [m1]
  obtain ⟨n1, n2, n3⟩ := List.nodup_append.mp h.nd
  have np := h.np a mm
  have nb := h.ne mp
  obtain ⟨ds, k, b1, b2⟩ := h.bx
  refine ⟨h.hb, h.hd, h.kx.new (h.f a mp), ⟨ds, k, ?_, ?_⟩, h.f, h.nd, h.np, ?_, ?_, ?_, h.q1.set n1 ha, h.q2.off fun z => n3 a m1 a (by simp [z]) rfl, h.q3.off fun z => n3 a m1 a (by simp [z]) rfl, h.dO.set hr h0 h1, h.rO, h.sO⟩
  · rw [upd_ne nb.1.symm]; exact b1
  · rw [upd_ne nb.2.symm]; exact b2
  · rw [upd_ne np.1.symm]; exact h.h1
  · rw [upd_ne np.2.1.symm]; exact h.h2
  · rw [upd_ne np.2.2.symm]; exact h.h3
theorem Led.set2 (h : Led H0 H box dg p1 p2 p3 A1 A2 A3 nr n m D R S) {i j : Nat} {a : Addr} {row : List Int} {x : Int} (ha : A2[i]? = some a) (hr : R[i]? = some row) (h0 : 0 ≤ x) (h1 : x ≤ capOf i) :
    Led H0 (upd H a (.lst ((row.set j x).map V.int))) box dg p1 p2 p3 A1 A2 A3 nr n m D (R.set i (row.set j x)) S := by
  have m1 := List.mem_of_getElem? ha
  have mm : a ∈ A1 ++ (A2 ++ A3) := by simp [m1]
  have mp : a ∈ p1 :: p2 :: p3 :: (A1 ++ (A2 ++ A3)) := by simp [m1]
  obtain ⟨n1, n2, n3⟩ := List.nodup_append.mp h.nd
  obtain ⟨n4, n5, n6⟩ := List.nodup_append.mp n2
  have np := h.np a mm
  have nb := h.ne mp
  obtain ⟨ds, k, b1, b2⟩ := h.bx
  refine ⟨h.hb, h.hd, h.kx.new (h.f a mp), ⟨ds, k, ?_, ?_⟩, h.f, h.nd, h.np, ?_, ?_, ?_, h.q1.off fun z => n3 a z a (by simp [m1]) rfl, h.q2.set n4 ha, h.q3.off fun z => n6 a m1 a z rfl, h.dO, h.rO.set hr h0 h1, h.sO⟩
  · rw [upd_ne nb.1.symm]; exact b1
  · rw [upd_ne nb.2.symm]; exact b2
  · rw [upd_ne np.1.symm]; exact h.h1
  · rw [upd_ne np.2.1.symm]; exact h.h2
  · rw [upd_ne np.2.2.symm]; exact h.h3
theorem Led.set3 (h : Led H0 H box dg p1 p2 p3 A1 A2 A3 nr n m D R S) {i j : Nat} {a : Addr} {row : List Int} {x : Int} (ha : A3[i]? = some a) (hr : S[i]? = some row) (h0 : 0 ≤ x) (h1 : x ≤ 99) :
    Led H0 (upd H a (.lst ((row.set j x).map V.int))) box dg p1 p2 p3 A1 A2 A3 nr n m D R (S.set i (row.set j x)) := by
  have m1 := List.mem_of_getElem? ha
  have mm : a ∈ A1 ++ (A2 ++ A3) := by simp [m1]
  have mp : a ∈ p1 :: p2 :: p3 :: (A1 ++ (A2 ++ A3)) := by simp [m1]
  obtain ⟨n1, n2, n3⟩ := List.nodup_append.mp h.nd
  obtain ⟨n4, n5, n6⟩ := List.nodup_append.mp n2
  have np := h.np a mm
  have nb := h.ne mp
  obtain ⟨ds, k, b1, b2⟩ := h.bx
  refine ⟨h.hb, h.hd, h.kx.new (h.f a mp), ⟨ds, k, ?_, ?_⟩, h.f, h.nd, h.np, ?_, ?_, ?_, h.q1.off fun z => n3 a z a (by simp [m1]) rfl, h.q2.off fun z => n6 a z a m1 rfl, h.q3.set n5 ha, h.dO, h.rO, h.sO.set hr h0 h1⟩
  · rw [upd_ne nb.1.symm]; exact b1
  · rw [upd_ne nb.2.symm]; exact b2
  · rw [upd_ne np.1.symm]; exact h.h1
  · rw [upd_ne np.2.1.symm]; exact h.h2
  · rw [upd_ne np.2.2.symm]; exact h.h3
theorem Led.plan {b : Basin} {rs : List Rt} (h : Led H0 H box dg p1 p2 p3 A1 A2 A3 rs.length b.sites.length b.months D R S) (hn : b.sites.length ≤ 4) : PlanOk b rs (D, R, S) := by
  refine ⟨h.dO.l, h.rO.l, h.sO.l, fun r hr => ?_, fun r hr => ?_, fun r hr => ?_⟩
  · obtain ⟨k, hk⟩ := List.getElem?_of_mem hr
    have e := h.dO.r k r hk
    exact ⟨e.1, fun x hx => ⟨(e.2 x hx).1, by have := (e.2 x hx).2; omega⟩⟩
  · obtain ⟨k, hk⟩ := List.getElem?_of_mem hr
    have e := h.rO.r k r hk
    have hk4 : k < 4 := by
      have e1 : k < R.length := (List.getElem?_eq_some_iff.mp hk).1
      have := h.rO.l
      omega
    exact ⟨e.1, fun x hx => ⟨(e.2 x hx).1, Int.le_trans (e.2 x hx).2 (cap_le hk4)⟩⟩
  · obtain ⟨k, hk⟩ := List.getElem?_of_mem hr
    have e := h.sO.r k r hk
    exact ⟨e.1, fun x hx => ⟨(e.2 x hx).1, by have := (e.2 x hx).2; omega⟩⟩
end

/-! ### the tables of zeros -/
def zRow (m : Nat) : List Int := List.replicate m 0
def tZero (K : PySem.W.Frag) : TE := tOp rRep (tLst (tCons (tC (.int 0)) tNil)) (tOp (rIxT K) (tVar 1) (tC (.int 0)))
theorem rep_flat (m : Nat) : (List.replicate m [V.int 0]).flatten = (zRow m).map V.int := by
  unfold zRow
  induction m with
  | zero => rfl
  | succ m ih => rw [List.replicate_succ, List.flatten_cons, ih]; rfl
theorem zero_step {σ : L2.St} {H : Hp} {a : Addr} {c : V} {m : Nat} {Q : VK} (h1 : σ[1]? = some (some (.ref a))) (ha : H a = some (.tup [.int (m : Nat), c])) (hm : m ≤ 4)
    (q : ∀ p H', Kx [] H H' → H p = none → H' p = some (.lst ((zRow m).map V.int)) → Q (.ref p) H') : tZero K σ H Q := by
  refine ⟨by show 1 ≤ sizeLine; decide, fun L hL => ?_⟩
  have kL := (Kx.refl [] H).laid (o := .lst [.int 0]) hL
  refine ⟨_, h1, a, _, 0, _, rfl, rfl, SqT.of (kL.tu _ _ ha), atI_nat (j := 0) rfl, L, _, _, rfl, rfl, upd_same, by omega, by omega, ?_, fun p hp => ?_⟩
  · have lz : (1000 : Nat) ≤ sizeLine := by decide
    rw [Int.toNat_natCast]
    show 1 * m ≤ sizeLine
    omega
  · rw [Int.toNat_natCast, rep_flat]
    exact q _ _ (kL.laid hp) (kL.th _ hp) upd_same
theorem zeros {i : Nat} {a : Addr} {c : V} {m : Nat} {xs : List V} {p : Addr} {σ : L2.St} {H1 : Hp} {Dd : Addr} {Qd : Hp → Prop} (hi : i ≠ 1) (h1 : σ[1]? = some (some (.ref a))) (ha : H1 a = some (.tup [.int (m : Nat), c])) (hm : m ≤ 4)
    (hp : H1 p = some (.tup xs)) (hD : H1 Dd = none) (hl : xs.length ≤ 4)
    (hq : ∀ H' (as : List Addr), Kx [] H1 H' → H' Dd = some (.lst (as.map V.ref)) → as.length = xs.length → as.Nodup → (∀ b ∈ as, H1 b = none ∧ b ≠ Dd ∧ H' b = some (.lst ((zRow m).map V.int))) → Qd H') :
    ∃ W : Nat → Nat → Hp → Prop, (∃ m, W 0 m (upd H1 Dd (.lst []))) ∧ ∀ j m H, W j m H →
      ((Itt K p).stop j H ∧ Qd H) ∨ ((Itt K p).go j H ∧ ∃ Nx : Hp → Prop, (∀ H', Nx H' → ∃ m', m' < m ∧ W (j + 1) m' H') ∧ ∀ x H', (Itt K p).yld j H x H' → gName i x (wipe σ [i]) H' fun σ2 H2 => wipe σ2 [i] = wipe σ [i] ∧ tYes σ2 H2 fun b H3 =>
        if b = true then tZero K σ2 H3 fun y H4 => ∃ acc, H4 Dd = some (.lst acc) ∧ acc.length < sizeLine ∧ Nx (upd H4 Dd (.lst (acc ++ [y]))) else Nx H3) := by
  refine lc_tup (xs := xs) (fun j H' => Kx [] H1 H' ∧ ∃ as : List Addr, H' Dd = some (.lst (as.map V.ref)) ∧ as.length = j ∧ as.Nodup ∧ ∀ b ∈ as, H1 b = none ∧ b ≠ Dd ∧ H' b = some (.lst ((zRow m).map V.int)))
    ⟨(Kx.refl _ _).laid hD, [], upd_same, rfl, List.nodup_nil, by simp⟩ (fun j H' _ hP => SqT.of (hP.1.tu _ _ hp)) (fun j x H' hx hP => ?_) (fun H' hP => ?_)
  · obtain ⟨kx, as, e, la, nd, hb⟩ := hP
    refine ⟨by show ((σ.set i none).set i (some x)).set i none = σ.set i none; rw [List.set_set, List.set_set], ?_⟩
    show tZero K _ H' _
    refine zero_step (a := a) (c := c) (m := m) ?_ (kx.tu _ _ ha) hm fun q H2 k2 nq eq => ?_
    · rw [List.getElem?_set_ne hi, wipe_out (by simpa using hi.symm)]
      exact h1
    · have qD : q ≠ Dd := fun z => by
        rw [z, e] at nq
        cases nq
      have qa : ∀ b ∈ as, b ≠ q := fun b hm z => by
        have := (hb b hm).2.2
        rw [z, nq] at this
        cases this
      refine ⟨_, k2.lst0 e, ?_, (kx.trans k2).new hD, as ++ [q], by rw [upd_same, List.map_append]; rfl, by rw [List.length_append, la]; rfl, ?_, fun b hbm => ?_⟩
      · rw [List.length_map, la]
        have := (List.getElem?_eq_some_iff.mp hx).1
        exact small1000 (by omega)
      · refine List.nodup_append.mpr ⟨nd, by simp, fun x hx y hy => ?_⟩
        rw [List.mem_singleton.mp hy]
        exact qa x hx
      · rcases List.mem_append.mp hbm with hbm | hbm
        · have := hb b hbm
          exact ⟨this.1, this.2.1, by rw [upd_ne this.2.1]; exact k2.lst0 this.2.2⟩
        · rw [List.mem_singleton.mp hbm]
          exact ⟨kx.th _ nq, qD, by rw [upd_ne qD]; exact eq⟩
  · obtain ⟨kx, as, e, la, nd, hb⟩ := hP
    exact hq H' as kx e la nd hb
theorem zeros_rws {H : Hp} {m : Nat} : ∀ {as : List Addr}, (∀ b ∈ as, H b = some (.lst ((zRow m).map V.int))) → Rws H as (List.replicate as.length (zRow m))
  | [], _ => .nil
  | b :: as, h => .cons (h b List.mem_cons_self) (zeros_rws fun c hc => h c (List.mem_cons_of_mem _ hc))
theorem zrow_ok {n m : Nat} : MatOk n m (List.replicate n (zRow m)) := by
  refine ⟨List.length_replicate .., fun k row hk => ?_⟩
  rw [List.getElem?_replicate] at hk
  split at hk
  · cases hk
    refine ⟨List.length_replicate .., fun x hx => ?_⟩
    have := List.eq_of_mem_replicate hx
    omega
  · cases hk
theorem zrow_rel {n m : Nat} : RelOk n m (List.replicate n (zRow m)) := by
  refine ⟨List.length_replicate .., fun k row hk => ?_⟩
  rw [List.getElem?_replicate] at hk
  split at hk
  · cases hk
    refine ⟨List.length_replicate .., fun x hx => ?_⟩
    have := List.eq_of_mem_replicate hx
    have := cap_pos k
    omega
  · cases hk
end
end K15
set_option Elab.async false
set_option linter.all false
set_option maxRecDepth 100000
set_option maxHeartbeats 4000000
/-! the law's own: _law_led -/
namespace K15
open PySem PySem.Spec PyProof.Rows L2
section
variable {P : Program} {w : World} {K : PySem.W.Frag} {mg : Str → Option Value} {base : Heap} {f : Addr} {fd : FuncData}
def spLed : Sp := fun vs H Q _ => ∃ (box dg : Addr) (bv rv : V) (b : Basin) (rs : List Rt), vs = [.ref box, bv, rv] ∧ BoxAt dg H box ∧ BasinAt H bv b ∧ RightsAt H rv rs ∧ BasinL b ∧ RightsL b.months rs ∧
  ∀ H' v p, Kx [box] H H' → BoxAt dg H' box → PlanAt H' v p → PlanOk b rs p → Q v H'
abbrev rMinS (K : PySem.W.Frag) : List V → Hp → VK → Prop := rMin K
theorem ok_led {f1 f2 f3 : Addr} {fd1 fd2 fd3 : FuncData} (D : Df K mg "_law_led" sLLed f fd) (D1 : Df K mg "_law_draw" sLDraw f1 fd1) (D2 : Df K mg "_law_received" sLReceived f2 fd2) (D3 : Df K mg "_law_tuples" sLTuples f3 fd3)
    (mR : mg "range" = none) (mL : mg "len" = none) (mI : mg "int" = none) (mM : mg "min" = none) (mT : mg "tuple" = none) :
    FnOk P w K mg base CX0 2 f fd ["_law_box", "_law_basin_here", "_law_rights_here"] spLed := by
  have G1 : FnOk P w K mg base CX0 1 f1 fd1 _ spDraw := ok_draw D1 mL mI
  have G2 : FnOk P w K mg base CX0 1 f2 fd2 _ spReceived := ok_received D2 mR mL
  have G3 : FnOk P w K mg base CX0 1 f3 fd3 _ spTuples := ok_tuples D3 mT
  refine okD D.F scLLed (fun vs H Q E h => ?_) (fun cdv A outer s H vs Q E hr h => ?_)
  · obtain ⟨box, dg, bv, rv, b, rs, rfl, _⟩ := h
    rfl
  · obtain ⟨box, dg, bv, rv, b, rs, rfl, hB, hb, hrt, bl, rl, q⟩ := h
    refine ⟨_, pss_cons (ps_setLc (i := 3) (own := [("_law_right", 11)]) (g := gName 11) (tt := tYes) (te := tZero K) rfl scLLed.nd rfl rfl (sw_true rfl rfl rfl (by decide +kernel)) (pi_tup (pv 2))
        (blkOk_by (N := nLLed) (sc := defScope sLLed) (by decide +kernel)) (fun _ _ _ _ _ => pg_name (i := 11) scLLed.nd rfl (.inl rfl)) (fun _ _ _ _ _ => pts_nil)
        (fun _ _ _ _ _ => pe_op op_rep (pe_lst (pa_cons pe_int pa_nil)) (pe_ix (r := rIxT K) ix_tup (pv 1) pe_int (fun _ _ => rfl))))
      (pss_cons (ps_setLc (i := 5) (own := [("_law_site", 4)]) (g := gName 4) (tt := tYes) (te := tZero K) rfl scLLed.nd rfl rfl (sw_true rfl rfl rfl (by decide +kernel)) (pi_tup (pe_ix ix_tup (pv 1) pe_int (fun _ _ => rfl)))
        (blkOk_by (N := nLLed) (sc := defScope sLLed) (by decide +kernel)) (fun _ _ _ _ _ => pg_name (i := 4) scLLed.nd rfl (.inl rfl)) (fun _ _ _ _ _ => pts_nil)
        (fun _ _ _ _ _ => pe_op op_rep (pe_lst (pa_cons pe_int pa_nil)) (pe_ix (r := rIxT K) ix_tup (pv 1) pe_int (fun _ _ => rfl))))
      (pss_cons (ps_setLc (i := 6) (own := [("_law_site", 4)]) (g := gName 4) (tt := tYes) (te := tZero K) rfl scLLed.nd rfl rfl (sw_true rfl rfl rfl (by decide +kernel)) (pi_tup (pe_ix ix_tup (pv 1) pe_int (fun _ _ => rfl)))
        (blkOk_by (N := nLLed) (sc := defScope sLLed) (by decide +kernel)) (fun _ _ _ _ _ => pg_name (i := 4) scLLed.nd rfl (.inl rfl)) (fun _ _ _ _ _ => pts_nil)
        (fun _ _ _ _ _ => pe_op op_rep (pe_lst (pa_cons pe_int pa_nil)) (pe_ix (r := rIxT K) ix_tup (pv 1) pe_int (fun _ _ => rfl))))
      (pss_cons (ps_for PassesOwn.never rfl (pi_range1 (by rfl) mR (pa_cons (pe_ix ix_tup (pv 1) pe_int (fun _ _ => rfl)) pa_nil)) (pg_name (i := 7) scLLed.nd rfl (.inl rfl))
        (pss_one (ps_for PassesOwn.never rfl (pi_range1 (by rfl) mR (pa_cons (pe_callB call_len_seq (by rfl) mL PySem.boot_len (pa_cons (pe_ix ix_tup (pv 1) pe_int (fun _ _ => rfl)) pa_nil)) pa_nil)) (pg_name (i := 8) scLLed.nd rfl (.inl rfl))
          (pss_cons (ps_set (i := 4) scLLed.nd rfl (.inl rfl) (pe_ix ix_tup (pe_ix ix_tup (pv 1) pe_int (fun _ _ => rfl)) (pv 8) (fun _ _ => rfl)))
          (pss_cons (ps_set (i := 9) scLLed.nd rfl (.inl rfl) (pe_call G2 hr (by rfl) D2.g D2.F.kp (bdLReceived D2.F) .nil pass0 (pa_cons (pv 1) (pa_cons (pe_tup (pa_cons (pv 3) (pa_cons (pv 5) (pa_cons (pv 6) pa_nil)))) (pa_cons (pv 8) (pa_cons (pv 7) pa_nil))))))
          (pss_cons (ps_for PassesOwn.never rfl (pi_range1 (by rfl) mR (pa_cons (pe_callB call_len_seq (by rfl) mL PySem.boot_len (pa_cons (pv 2) pa_nil)) pa_nil)) (pg_name (i := 10) scLLed.nd rfl (.inl rfl))
            (pss_one (ps_if (pt_cmpR op_eq (pe_ix ix_tup (pe_ix ix_tup (pv 2) (pv 10) (fun _ _ => rfl)) pe_int (fun _ _ => rfl)) (pe_ix ix_tup (pv 4) pe_int (fun _ _ => rfl)) (nomark _))
              (pss_cons (ps_asg (pe_callB (call_min2 rfl) (by rfl) mM (by decide +kernel) (pa_cons (pe_ix ix_tup (pe_ix ix_tup (pe_ix ix_tup (pv 2) (pv 10) (fun _ _ => rfl)) pe_int (fun _ _ => rfl)) (pv 7) (fun _ _ => rfl))
                  (pa_cons (pe_ix ix_list (pe_lst (pa_cons (pv 9) (pa_cons (pe_call G1 hr (by rfl) D1.g D1.F.kp (bdLDraw D1.F) .nil pass0 (pa_cons (pv 0) (pa_cons (pe_op op_add (pv 9) pe_int) pa_nil))) pa_nil)))
                    (pe_call G1 hr (by rfl) D1.g D1.F.kp (bdLDraw D1.F) .nil pass0 (pa_cons (pv 0) (pa_cons pe_int pa_nil))) (fun _ _ => rfl)) pa_nil)))
                  (pg_sub (pe_ix ix_list (pv 3) (pv 10) (fun _ _ => rfl)) (pv 7) set_list))
              (pss_one (ps_set (i := 9) scLLed.nd rfl (.inl rfl) (pe_op op_sub (pv 9) (pe_ix ix_list (pe_ix ix_list (pv 3) (pv 10) (fun _ _ => rfl)) (pv 7) (fun _ _ => rfl)))))) pss_nil)))
          (pss_cons (ps_asg (pe_callB (call_min2 rfl) (by rfl) mM (by decide +kernel) (pa_cons (pe_ix ix_tup (pv 4) pe_int (fun _ _ => rfl))
                  (pa_cons (pe_ix ix_list (pe_lst (pa_cons (pv 9) (pa_cons (pe_call G1 hr (by rfl) D1.g D1.F.kp (bdLDraw D1.F) .nil pass0 (pa_cons (pv 0) (pa_cons (pe_op op_add (pv 9) pe_int) pa_nil))) pa_nil)))
                    (pe_call G1 hr (by rfl) D1.g D1.F.kp (bdLDraw D1.F) .nil pass0 (pa_cons (pv 0) (pa_cons pe_int pa_nil))) (fun _ _ => rfl)) pa_nil)))
                  (pg_sub (pe_ix ix_list (pv 6) (pv 8) (fun _ _ => rfl)) (pv 7) set_list))
          (pss_cons (ps_set (i := 9) scLLed.nd rfl (.inl rfl) (pe_op op_sub (pv 9) (pe_ix ix_list (pe_ix ix_list (pv 6) (pv 8) (fun _ _ => rfl)) (pv 7) (fun _ _ => rfl))))
          (pss_one (ps_if (pt_cmpR op_notN (pe_ix ix_tup (pv 4) pe_int (fun _ _ => rfl)) pe_non (nomark _))
            (pss_one (ps_asg (pe_callB (cr_min rfl) (by rfl) mM (by decide +kernel) (pa_cons (pe_op op_cat
                (pe_lst (pa_cons (pe_call G1 hr (by rfl) D1.g D1.F.kp (bdLDraw D1.F) .nil pass0 (pa_cons (pv 0) (pa_cons (pe_op op_add (pv 9) pe_int) pa_nil))) pa_nil))
                (pe_lc (own := [("_law_one", 12)]) (g := gName 12) (te := tVar 12) rfl scLLed.nd (pi_list (pe_lst (pa_cons (pe_ix ix_tup (pv 4) pe_int (fun _ _ => rfl)) pa_nil)))
                  (blkOk_by (N := nLLed) (sc := defScope sLLed) (by decide +kernel)) (fun _ _ _ _ _ => pg_name (i := 12) scLLed.nd rfl (.inl rfl)) (fun _ _ _ _ _ => pts_one (pt_cmpR op_notN (pv 12) pe_non (nomark _)))
                  (fun _ _ _ _ _ => pv 12))) pa_nil))
                (pg_sub (pe_ix ix_list (pv 5) (pv 8) (fun _ _ => rfl)) (pv 7) set_list))) pss_nil))))))))))
      (pss_one (ps_ret (pe_call G3 hr (by rfl) D3.g D3.F.kp (bdLTuples D3.F) .nil pass0 (pa_cons (pe_lst (pa_cons (pv 3) (pa_cons (pv 5) (pa_cons (pv 6) pa_nil)))) pa_nil))))))), ?_⟩
    have hb0 := hb
    obtain ⟨a, x, rfl, ha, c, ys, rfl, hc, hp⟩ := hb
    obtain ⟨ra, rxs, rfl, hra, hrp⟩ := hrt
    have el1 := hrp.length
    have el2 := hp.length
    have hm1 := bl.ok.m1
    have hm4 := bl.ok.m4
    have hn4 := bl.ok.n4
    have hr4 := rl.ok.n4
    have hB0 := hB.some
    have hD0 := hB.someD
    -- the three tables
    refine ⟨_, rfl, ra, rfl, ⟨_, SqT.of hra⟩, fun p1 n1 => ?_⟩
    refine zeros (by decide) rfl ha hm4 hra n1 (by omega) fun Ha A1 kA eA lA ndA hA => ?_
    refine ⟨_, rfl, a, _, 1, _, rfl, rfl, SqT.of (kA.tu _ _ ha), atI_nat (j := 1) rfl, c, rfl, ⟨_, SqT.of (kA.tu _ _ hc)⟩, fun p2 n2 => ?_⟩
    refine zeros (by decide) rfl (kA.tu _ _ ha) hm4 (kA.tu _ _ hc) n2 (by omega) fun Hb A2 kB eB lB ndB hBB => ?_
    have kAB := kA.trans kB
    refine ⟨_, rfl, a, _, 1, _, rfl, rfl, SqT.of (kAB.tu _ _ ha), atI_nat (j := 1) rfl, c, rfl, ⟨_, SqT.of (kAB.tu _ _ hc)⟩, fun p3 n3 => ?_⟩
    refine zeros (by decide) rfl (kAB.tu _ _ ha) hm4 (kAB.tu _ _ hc) n3 (by omega) fun Hc A3 kC eC lC ndC hCC => ?_
    have kBC := kB.trans kC
    have kAC := kA.trans kBC
    have nn : ∀ {Hz : Hp} {u v : Addr} {o : HO}, Hz u = some o → Hz v = none → u ≠ v := fun e1 e2 z => by
      rw [z, e2] at e1
      cases e1
    have led0 : Led H Hc box dg p1 p2 p3 A1 A2 A3 rs.length b.sites.length b.months (List.replicate rs.length (zRow b.months)) (List.replicate b.sites.length (zRow b.months)) (List.replicate b.sites.length (zRow b.months)) := by
      refine ⟨hB0, hD0, kAC.any, hB.kx0 kAC, fun u hu => ?_, ?_, fun u hu => ?_, kBC.lst0 eA, kC.lst0 eB, eC, ?_, ?_, ?_, zrow_ok, zrow_rel, zrow_ok⟩
      · simp only [List.mem_cons, List.mem_append] at hu
        rcases hu with rfl | rfl | rfl | hu | hu | hu
        · exact n1
        · exact kA.th _ n2
        · exact kAB.th _ n3
        · exact (hA u hu).1
        · exact kA.th _ (hBB u hu).1
        · exact kAB.th _ (hCC u hu).1
      · refine List.nodup_append.mpr ⟨ndA, List.nodup_append.mpr ⟨ndB, ndC, fun u hu v hv => nn (hBB u hu).2.2 (hCC v hv).1⟩, fun u hu v hv => ?_⟩
        rcases List.mem_append.mp hv with hv | hv
        · exact nn (hA u hu).2.2 (hBB v hv).1
        · exact nn (kB.lst0 (hA u hu).2.2) (hCC v hv).1
      · simp only [List.mem_append] at hu
        rcases hu with hu | hu | hu
        · exact ⟨(hA u hu).2.1, nn (hA u hu).2.2 n2, nn (kB.lst0 (hA u hu).2.2) n3⟩
        · exact ⟨(nn eA (hBB u hu).1).symm, (hBB u hu).2.1, nn (hBB u hu).2.2 n3⟩
        · exact ⟨(nn (kB.lst0 eA) (hCC u hu).1).symm, (nn eB (hCC u hu).1).symm, (hCC u hu).2.1⟩
      · have := zeros_rws (m := b.months) (as := A1) (H := Hc) fun u hu => kBC.lst0 (hA u hu).2.2
        rw [lA, el1] at this
        exact this
      · have := zeros_rws (m := b.months) (as := A2) (H := Hc) fun u hu => kC.lst0 (hBB u hu).2.2
        rw [lB, el2] at this
        exact this
      · have := zeros_rws (m := b.months) (as := A3) (H := Hc) fun u hu => (hCC u hu).2.2
        rw [lC, el2] at this
        exact this
    have pick : ∀ {r1 r2 left : Int}, 0 ≤ left → 0 ≤ r1 → r1 < left + 1 → 0 ≤ r2 → r2 < 2 → ∃ x, atI [V.int left, V.int r1] r2 = some (.int x) ∧ 0 ≤ x ∧ x ≤ left := by
      intro r1 r2 left l0 h1 h2 h3 h4
      have : r2 = 0 ∨ r2 = 1 := by omega
      rcases this with rfl | rfl
      · exact ⟨left, rfl, l0, Int.le_refl _⟩
      · exact ⟨r1, rfl, h1, by omega⟩
    refine ⟨_, rfl, a, _, 0, _, rfl, rfl, SqT.of (kAC.tu _ _ ha), atI_nat (j := 0) rfl, _, rfl, by omega, by omega, ?_⟩
    rw [Int.toNat_natCast]
    refine for_range (lo := 0) (n := b.months) (fun i σ H' => ∃ (Dm Rm Sm : List (List Int)) (y4 y7 y8 y9 y10 : Option V), Led H H' box dg p1 p2 p3 A1 A2 A3 rs.length b.sites.length b.months Dm Rm Sm ∧ σ = [some (.ref box), some (.ref a), some (.ref ra), some (.ref p1), y4, some (.ref p2), some (.ref p3), y7, y8, y9, y10, none, none])
      ⟨_, _, _, none, none, none, none, none, led0, rfl⟩ (fun m σ H' hm hP => ?_) (fun σ H' hP => ?_)
    · obtain ⟨Dm, Rm, Sm, y4, y7, y8, y9, y10, led, rfl⟩ := hP
      refine ⟨_, rfl, a, _, 1, _, rfl, rfl, SqT.of (led.kx.tu _ _ ha), atI_nat (j := 1) rfl, c, ys, rfl, .inr (SqT.of (led.kx.tu _ _ hc)), _, rfl, by omega, by omega, ?_⟩
      rw [Int.toNat_natCast, el2]
      refine for_range (lo := 0) (n := b.sites.length) (fun i σ H' => ∃ (Dm Rm Sm : List (List Int)) (y4 y8 y9 y10 : Option V), Led H H' box dg p1 p2 p3 A1 A2 A3 rs.length b.sites.length b.months Dm Rm Sm ∧ σ = [some (.ref box), some (.ref a), some (.ref ra), some (.ref p1), y4, some (.ref p2), some (.ref p3), some (.int (0 + (m : Nat))), y8, y9, y10, none, none])
        ⟨_, _, _, _, _, _, _, led, rfl⟩ (fun s σ H' hs hP => ?_) (fun σ H' hP => ?_)
      · clear led Dm Rm Sm y4 y7 y8 y9 y10
        obtain ⟨Dm, Rm, Sm, y4, y8, y9, y10, led, rfl⟩ := hP
        obtain ⟨st, hst⟩ : ∃ st, b.sites[s]? = some st := ⟨_, List.getElem?_eq_getElem hs⟩
        obtain ⟨sv, hsv, sa, sf, rfl, hsa, _⟩ := pget hp hst
        have sl := bl.st st (List.mem_of_getElem? hst)
        refine ⟨_, rfl, a, _, 1, _, rfl, rfl, SqT.of (led.kx.tu _ _ ha), atI_nat (j := 1) rfl, _, rfl, c, ys, _, _, rfl, rfl, SqT.of (led.kx.tu _ _ hc), by rw [Int.zero_add]; exact atI_nat hsv, ?_⟩
        refine ⟨_, rfl, _, rfl, _, rfl, _, rfl, by show 3 ≤ sizeLine; decide, fun T hT => ?_⟩
        have led1 := led.keep0 ((Kx.refl [] H').laid (o := .tup [.ref p1, .ref p2, .ref p3]) hT)
        refine ⟨_, rfl, _, rfl, .ref a, T, p1, p2, p3, b, Rm, Sm, s, m, by rw [Int.zero_add, Int.zero_add]; rfl, led1.kx.basin hb0, bl, upd_same, ⟨_, led1.h2, led1.q2.mat (p := p2)⟩, ⟨_, led1.h3, led1.q3.mat (p := p3)⟩, led1.rO, led1.sO, hs, hm, fun left l0 l1 => ?_⟩
        refine ⟨_, rfl, ra, rxs, rfl, .inr (SqT.of (led1.kx.tu _ _ hra)), _, rfl, by omega, by omega, ?_⟩
        rw [Int.toNat_natCast, el1]
        refine for_range (lo := 0) (n := rs.length) (fun i σ H' => ∃ (Dm : List (List Int)) (left : Int) (y10 : Option V), Led H H' box dg p1 p2 p3 A1 A2 A3 rs.length b.sites.length b.months Dm Rm Sm ∧ 0 ≤ left ∧ left ≤ capOf s ∧ σ = [some (.ref box), some (.ref a), some (.ref ra), some (.ref p1), some (.ref sa), some (.ref p2), some (.ref p3), some (.int (0 + (m : Nat))), some (.int (0 + (s : Nat))), some (.int left), y10, none, none])
          ⟨_, _, _, led1, l0, l1, rfl⟩ (fun r σ H' hr2 hP => ?_) (fun σ H' hP => ?_)
        · clear led1 led
          obtain ⟨Dm, left, y10, led, l0, l1, rfl⟩ := hP
          obtain ⟨rt, hrt⟩ : ∃ rt, rs[r]? = some rt := ⟨_, List.getElem?_eq_getElem hr2⟩
          obtain ⟨rvv, hrv, qa, fv, rfl, hqa, fa, rfl, hfa⟩ := pget hrp hrt
          have dm := rl.dm rt (List.mem_of_getElem? hrt)
          have hmd : m < rt.dem.length := by rw [dm.1]; exact hm
          have db := dm.2 _ (List.getElem_mem hmd)
          refine ⟨_, rfl, _, rfl, ra, rxs, _, _, rfl, rfl, SqT.of (led.kx.tu _ _ hra), by rw [Int.zero_add]; exact atI_nat hrv, qa, _, 1, _, rfl, rfl, SqT.of (led.kx.tu _ _ hqa), atI_nat (j := 1) rfl, _, rfl, sa, _, 0, _, rfl, rfl, SqT.of (led.kx.tu _ _ hsa), atI_nat (j := 0) rfl, rfl, _, rfl, ite2 (fun e => ?_) (fun e => ?_)⟩
          · refine ⟨_, rfl, _, rfl, ra, rxs, _, _, rfl, rfl, SqT.of (led.kx.tu _ _ hra), by rw [Int.zero_add]; exact atI_nat hrv, qa, _, 2, _, rfl, rfl, SqT.of (led.kx.tu _ _ hqa), atI_nat (j := 2) rfl, _, rfl, fa, _, _, .int rt.dem[m], rfl, rfl, SqT.of (led.kx.tu _ _ hfa), by rw [Int.zero_add]; exact atI_nat (by rw [List.getElem?_map, List.getElem?_eq_getElem hmd]; rfl), ?_⟩
            refine ⟨_, rfl, _, rfl, _, rfl, _, _, rfl, rfl, box, dg, _, rfl, led.bx, by omega, fun H1 r1 k1 b1 h1 h1' => ?_⟩
            have ledA := led.keep k1 b1
            refine ⟨by show 2 ≤ sizeLine; decide, fun L hL => ?_⟩
            have kL := (Kx.refl [] H1).laid (o := .lst [.int left, .int r1]) hL
            have ledB := ledA.keep0 kL
            have nLb : L ≠ box := fun z => b1.some (by rw [← z]; exact hL)
            refine ⟨_, rfl, box, dg, 2, rfl, ledB.bx, by decide, fun H2 r2 k2 b2 h2 h2' => ?_⟩
            have ledC := ledB.keep k2 b2
            have eL := k2.lst (p := L) (by simpa using nLb) upd_same
            obtain ⟨xv, hxv, x0, x1⟩ := pick l0 h1 h1' h2 h2'
            refine ⟨L, _, _, _, rfl, rfl, SqL.of eL, hxv, _, _, rfl, ?_⟩
            obtain ⟨v, ev, v0, v1, v2⟩ : ∃ v : Int, v = (if xv < rt.dem[m] then xv else rt.dem[m]) ∧ 0 ≤ v ∧ v ≤ 99 ∧ v ≤ left := by
              refine ⟨_, rfl, ?_⟩
              split <;> omega
            rw [← ev]
            obtain ⟨row, hrow⟩ : ∃ row, Dm[r]? = some row := ⟨_, List.getElem?_eq_getElem (by rw [led.dO.l]; exact hr2)⟩
            obtain ⟨pa, hpa, hpr⟩ := pget ledC.q1 hrow
            have rowl := (led.dO.r r row hrow).1
            have hpA : (A1.map V.ref)[r]? = some (.ref pa) := by rw [List.getElem?_map, hpa]; rfl
            refine ⟨_, rfl, _, rfl, p1, _, _, _, rfl, rfl, SqL.of ledC.h1, by rw [Int.zero_add]; exact atI_nat hpA, _, rfl, pa, _, _, m, rfl, rfl, hpr, by rw [Int.zero_add, List.length_map]; exact Evl.ixN_nat (by omega), ?_⟩
            rw [set_map]
            have ledD := ledC.set1 (j := m) hpa hrow v0 v1
            refine ⟨_, rfl, _, rfl, _, rfl, p1, _, _, _, rfl, rfl, SqL.of ledD.h1, by rw [Int.zero_add]; exact atI_nat hpA, _, rfl, pa, _, _, .int v, rfl, rfl, SqL.of upd_same, ?_, _, _, rfl, rfl, ?_⟩
            · rw [Int.zero_add]
              exact atI_nat (by rw [List.getElem?_map, List.getElem?_set_self (by omega)]; rfl)
            · exact ⟨_, _, _, ledD, by omega, by omega, rfl⟩
          · exact ⟨_, _, _, led, l0, l1, rfl⟩
        · clear led1 led l0 l1
          obtain ⟨Dm, left, y10, led, l0, l1, rfl⟩ := hP
          -- what is kept
          refine ⟨_, rfl, sa, _, 4, _, rfl, rfl, SqT.of (led.kx.tu _ _ hsa), atI_nat (j := 4) rfl, ?_⟩
          refine ⟨_, rfl, _, rfl, _, rfl, _, _, rfl, rfl, box, dg, _, rfl, led.bx, by omega, fun H1 r1 k1 b1 h1 h1' => ?_⟩
          have ledA := led.keep k1 b1
          refine ⟨by show 2 ≤ sizeLine; decide, fun L hL => ?_⟩
          have kL := (Kx.refl [] H1).laid (o := .lst [.int left, .int r1]) hL
          have ledB := ledA.keep0 kL
          have nLb : L ≠ box := fun z => b1.some (by rw [← z]; exact hL)
          refine ⟨_, rfl, box, dg, 2, rfl, ledB.bx, by decide, fun H2 r2 k2 b2 h2 h2' => ?_⟩
          have ledC := ledB.keep k2 b2
          have eL := k2.lst (p := L) (by simpa using nLb) upd_same
          obtain ⟨xv, hxv, x0, x1⟩ := pick l0 h1 h1' h2 h2'
          refine ⟨L, _, _, _, rfl, rfl, SqL.of eL, hxv, _, _, rfl, ?_⟩
          have sr0 := sl.r0
          have sr1 := sl.r1
          obtain ⟨v, ev, v0, v1, v2⟩ : ∃ v : Int, v = (if xv < st.room then xv else st.room) ∧ 0 ≤ v ∧ v ≤ 99 ∧ v ≤ left := by
            refine ⟨_, rfl, ?_⟩
            split <;> omega
          rw [← ev]
          obtain ⟨row, hrow⟩ : ∃ row, Sm[s]? = some row := ⟨_, List.getElem?_eq_getElem (by rw [led.sO.l]; exact hs)⟩
          obtain ⟨pa, hpa, hpr⟩ := pget ledC.q3 hrow
          have rowl := (led.sO.r s row hrow).1
          have hpA : (A3.map V.ref)[s]? = some (.ref pa) := by rw [List.getElem?_map, hpa]; rfl
          refine ⟨_, rfl, _, rfl, p3, _, _, _, rfl, rfl, SqL.of ledC.h3, by rw [Int.zero_add]; exact atI_nat hpA, _, rfl, pa, _, _, m, rfl, rfl, hpr, by rw [Int.zero_add, List.length_map]; exact Evl.ixN_nat (by omega), ?_⟩
          rw [set_map]
          have ledD := ledC.set3 (j := m) hpa hrow v0 v1
          refine ⟨_, rfl, _, rfl, _, rfl, p3, _, _, _, rfl, rfl, SqL.of ledD.h3, by rw [Int.zero_add]; exact atI_nat hpA, _, rfl, pa, _, _, .int v, rfl, rfl, SqL.of upd_same, by rw [Int.zero_add]; exact atI_nat (by rw [List.getElem?_map, List.getElem?_set_self (by omega)]; rfl), _, _, rfl, rfl, ?_⟩
          -- what runs on
          refine ⟨_, rfl, sa, _, 1, _, rfl, rfl, SqT.of (ledD.kx.tu _ _ hsa), atI_nat (j := 1) rfl, rfl, _, rfl, ite2 (fun e => ?_) (fun e => ?_)⟩
          · refine ⟨_, rfl, _, rfl, _, _, rfl, rfl, box, dg, _, rfl, ledD.bx, by omega, fun H3 r3 k3 b3 h3 h3' => ?_⟩
            have ledE := ledD.keep k3 b3
            refine ⟨by show 1 ≤ sizeLine; decide, fun L1 hL1 => ?_⟩
            have kL1 := (Kx.refl [] H3).laid (o := .lst [.int r3]) hL1
            have ledF := ledE.keep0 kL1
            refine ⟨_, rfl, sa, _, 3, _, rfl, rfl, SqT.of (ledF.kx.tu _ _ hsa), atI_nat (j := 3) rfl, by show 1 ≤ sizeLine; decide, fun L2 hL2 => ?_⟩
            have kL2 := (Kx.refl [] (upd H3 L1 (.lst [.int r3]))).laid (o := .lst [optI st.reach]) hL2
            refine ⟨L2, rfl, ⟨_, SqL.of upd_same⟩, fun Dd hDd => ?_⟩
            refine lc_list (xs := [optI st.reach]) (fun j H4 => Kx [] (upd (upd H3 L1 (.lst [.int r3])) L2 (.lst [optI st.reach])) H4 ∧ H4 Dd = some (.lst ((if j = 0 then [] else st.reach.toList).map V.int)))
              ⟨(Kx.refl _ _).laid hDd, upd_same⟩ (fun j H4 _ hP => SqL.of (hP.1.lst0 upd_same)) (fun j x H4 hx hP => ?_) (fun H4 hP => ?_)
            · obtain ⟨k4, e4⟩ := hP
              have j0 : j = 0 := by
                have := (List.getElem?_eq_some_iff.mp hx).1
                simpa using this
              subst j0
              cases hx
              refine ⟨rfl, ?_⟩
              refine ⟨_, rfl, rfl, _, rfl, ?_⟩
              cases hre : st.reach with
              | none =>
                rw [hre] at k4
                refine ⟨k4, ?_⟩
                exact e4
              | some z =>
                have hDd' := hDd
                rw [hre] at k4 hDd'
                refine ⟨_, rfl, _, e4, by show 0 < sizeLine; decide, k4.new hDd', ?_⟩
                rw [upd_same]
                rfl
            · obtain ⟨k4, e4⟩ := hP
              have e4 : H4 Dd = some (.lst (st.reach.toList.map V.int)) := e4
              have eL1 := (kL2.trans k4).lst0 (p := L1) upd_same
              refine ⟨L1, Dd, _, _, rfl, rfl, eL1, e4, ?_, fun C hC => ?_⟩
              · rw [List.length_map]
                cases st.reach with
                | none => exact Nat.le_of_lt (small1000 (by show 1 + 0 ≤ 1000; decide))
                | some z => exact Nat.le_of_lt (small1000 (by show 1 + 1 ≤ 1000; decide))
              have kC4 := (Kx.refl [] H4).laid (o := .lst ([.int r3] ++ st.reach.toList.map V.int)) hC
              have ledG := ledF.keep0 ((kL2.trans k4).trans kC4)
              refine ⟨C, r3 :: st.reach.toList, rfl, SqL.of upd_same, by simp, fun mv hm1' hm2' => ?_⟩
              have mv1 : mv ≤ r3 := hm2' r3 List.mem_cons_self
              have mv0 : 0 ≤ mv := by
                rcases List.mem_cons.mp hm1' with rfl | hm1'
                · exact h3
                · have : st.reach = some mv := by
                    cases hre : st.reach with
                    | none => rw [hre] at hm1'; simp at hm1'
                    | some z => rw [hre] at hm1'; simp at hm1'; rw [hm1']
                  exact sl.rc mv this
              obtain ⟨row2, hrow2⟩ : ∃ row, Rm[s]? = some row := ⟨_, List.getElem?_eq_getElem (by rw [led.rO.l]; exact hs)⟩
              obtain ⟨pb, hpb, hpr2⟩ := pget ledG.q2 hrow2
              have rowl2 := (led.rO.r s row2 hrow2).1
              have hpB : (A2.map V.ref)[s]? = some (.ref pb) := by rw [List.getElem?_map, hpb]; rfl
              refine ⟨_, rfl, _, rfl, p2, _, _, _, rfl, rfl, SqL.of ledG.h2, by rw [Int.zero_add]; exact atI_nat hpB, _, rfl, pb, _, _, m, rfl, rfl, hpr2, by rw [Int.zero_add, List.length_map]; exact Evl.ixN_nat (by omega), ?_⟩
              rw [set_map]
              have ledH := ledG.set2 (j := m) hpb hrow2 mv0 (by omega)
              exact ⟨_, _, _, _, _, _, _, ledH, rfl⟩
          · exact ⟨_, _, _, _, _, _, _, ledD, rfl⟩
      · obtain ⟨Dm, Rm, Sm, y4, y8, y9, y10, led, rfl⟩ := hP
        exact ⟨_, _, _, _, _, _, _, _, led, rfl⟩
    · obtain ⟨Dm, Rm, Sm, y4, y7, y8, y9, y10, led, rfl⟩ := hP
      refine ⟨_, rfl, _, rfl, _, rfl, by show 3 ≤ sizeLine; decide, fun O hO => ?_⟩
      have kO := (Kx.refl [] H').laid (o := .lst [.ref p1, .ref p2, .ref p3]) hO
      have led1 := led.keep0 kO
      have e1 := led.dO.l
      have e2 := led.rO.l
      have e3 := led.sO.l
      refine ⟨O, p1, p2, p3, (Dm, Rm, Sm), rfl, upd_same, ⟨_, led1.h1, led1.q1.mat (p := p1)⟩, ⟨_, led1.h2, led1.q2.mat (p := p2)⟩, ⟨_, led1.h3, led1.q3.mat (p := p3)⟩, by show Dm.length ≤ 4; omega, by show Rm.length ≤ 4; omega, by show Sm.length ≤ 4; omega, fun H2 v k2 hv => ?_⟩
      exact q H2 v _ (led1.kx.trans k2.any) (led1.bx.kx0 k2) hv (led.plan hn4)
end
end K15
set_option Elab.async false
set_option linter.all false
set_option maxRecDepth 100000
set_option maxHeartbeats 4000000
/-! the law's own: _law_rights -/
namespace K15
open PySem PySem.Spec PyProof.Rows L2
section
variable {P : Program} {w : World} {K : PySem.W.Frag} {mg : Str → Option Value} {base : Heap} {f : Addr} {fd : FuncData}
def tAmt : TE := tCall spAmount [] E0 (tCons (tVar 0) tNil)
/-- the list of drawn amounts -/
theorem amounts {i : Nat} {box dg : Addr} {m : Nat} {σ : L2.St} {H1 : Hp} {Dd : Addr} {Qd : Hp → Prop} (hi : i ≠ 0) (h1 : σ[0]? = some (some (.ref box))) (hB : BoxAt dg H1 box) (hm : m ≤ 4) (hD : H1 Dd = none)
    (hq : ∀ H' (ns : List Int), Kx [box] H1 H' → BoxAt dg H' box → H' Dd = some (.lst (ns.map V.int)) → ns.length = m → (∀ x ∈ ns, 0 ≤ x ∧ x ≤ 99) → Qd H') :
    ∃ W : Nat → Nat → Hp → Prop, (∃ m, W 0 m (upd H1 Dd (.lst []))) ∧ ∀ j k H, W j k H →
      ((Itr 0 m).stop j H ∧ Qd H) ∨ ((Itr 0 m).go j H ∧ ∃ Nx : Hp → Prop, (∀ H', Nx H' → ∃ m', m' < k ∧ W (j + 1) m' H') ∧ ∀ x H', (Itr 0 m).yld j H x H' → gName i x (wipe σ [i]) H' fun σ2 H2 => wipe σ2 [i] = wipe σ [i] ∧ tYes σ2 H2 fun b H3 =>
        if b = true then tAmt σ2 H3 fun y H4 => ∃ acc, H4 Dd = some (.lst acc) ∧ acc.length < sizeLine ∧ Nx (upd H4 Dd (.lst (acc ++ [y]))) else Nx H3) := by
  have nDb : Dd ≠ box := fun z => hB.some (by rw [← z]; exact hD)
  have nDg : Dd ≠ dg := fun z => hB.someD (by rw [← z]; exact hD)
  refine lc_range (lo := 0) (n := m) (fun j H' => Kx [box] H1 H' ∧ BoxAt dg H' box ∧ ∃ ns : List Int, H' Dd = some (.lst (ns.map V.int)) ∧ ns.length = j ∧ ∀ x ∈ ns, 0 ≤ x ∧ x ≤ 99)
    ⟨(Kx.refl _ _).laid hD, hB.kx0 ((Kx.refl _ _).laid hD), [], upd_same, rfl, by simp⟩ (fun j H' hj hP => ?_) (fun H' hP => ?_)
  · obtain ⟨kx, bx, ns, e, ln, nb⟩ := hP
    refine ⟨by show ((σ.set i none).set i _).set i none = σ.set i none; rw [List.set_set, List.set_set], ?_⟩
    show tAmt _ H' _
    refine ⟨_, ?_, box, dg, rfl, bx, fun H2 r k2 b2 r0 r1 => ?_⟩
    · rw [List.getElem?_set_ne hi, wipe_out (by simpa using hi.symm)]
      exact h1
    · have e2 := k2.lst (p := Dd) (by simpa using nDb) e
      refine ⟨_, e2, ?_, (kx.trans k2).new hD, ?_, ns ++ [r], by rw [upd_same, List.map_append]; rfl, by rw [List.length_append, ln]; rfl, fun x hx => ?_⟩
      · rw [List.length_map, ln]
        exact small1000 (by omega)
      · obtain ⟨ds, n, c1, c2⟩ := b2
        exact ⟨ds, n, by rw [upd_ne nDb.symm]; exact c1, by rw [upd_ne nDg.symm]; exact c2⟩
      · rcases List.mem_append.mp hx with hx | hx
        · exact nb x hx
        · rw [List.mem_singleton.mp hx]
          exact ⟨r0, r1⟩
  · obtain ⟨kx, bx, ns, e, ln, nb⟩ := hP
    exact hq H' ns kx bx e ln nb
theorem ListR.move {α : Type} {R : Hp → V → α → Prop} {S : List Addr} {H H' : Hp} {p : Addr} {l : List α} (h : ListR R H p l) (hp : p ∉ S) (k : Kx S H H') (st : ∀ v y, R H v y → R H' v y) : ListR R H' p l := by
  obtain ⟨xs, e, pr⟩ := h
  exact ⟨xs, k.lst hp e, pr.mono st⟩
def lawNames : List Str := ["a", "mill", "farm", "town"]
theorem lawNames_ok : ∀ n ∈ lawNames, NameOk n := by
  intro n hn
  have h : n = "a" ∨ n = "mill" ∨ n = "farm" ∨ n = "town" := by simpa [lawNames] using hn
  rcases h with rfl | rfl | rfl | rfl <;> exact ⟨by decide +kernel, by decide +kernel, by decide +kernel⟩
def spRights : Sp := fun vs H Q _ => ∃ (box dg : Addr) (bv : V) (b : Basin), vs = [.ref box, bv] ∧ BoxAt dg H box ∧ BasinAt H bv b ∧ BasinL b ∧ ∀ H' v rs, Kx [box] H H' → BoxAt dg H' box → RightsAt H' v rs → RightsL b.months rs → Q v H'
theorem ok_rights {f1 f2 f3 : Addr} {fd1 fd2 fd3 : FuncData} (D : Df K mg "_law_rights" sLRights f fd) (D1 : Df K mg "_law_draw" sLDraw f1 fd1) (D2 : Df K mg "_law_pick" sLPick f2 fd2) (D3 : Df K mg "_law_amount" sLAmount f3 fd3)
    (mR : mg "range" = none) (mL : mg "len" = none) (mI : mg "int" = none) (mT : mg "tuple" = none) :
    FnOk P w K mg base CX0 3 f fd ["_law_box", "_law_basin_here"] spRights := by
  have G1 : FnOk P w K mg base CX0 1 f1 fd1 _ spDraw := ok_draw D1 mL mI
  have G2 : FnOk P w K mg base CX0 2 f2 fd2 _ spPick := ok_pick D2 D1 G1 mL mI
  have G3 : FnOk P w K mg base CX0 2 f3 fd3 _ spAmount := ok_amount D3 D1 G1
  refine okD D.F scLRights (fun vs H Q E h => ?_) (fun cdv A outer s H vs Q E hr h => ?_)
  · obtain ⟨box, dg, bv, b, rfl, _⟩ := h
    rfl
  · obtain ⟨box, dg, bv, b, rfl, hB, hb, bl, q⟩ := h
    refine ⟨_, pss_cons (ps_set (i := 2) scLRights.nd rfl (.inl rfl) (pe_lst pa_nil))
      (pss_cons (ps_for PassesOwn.never rfl (pi_list (pe_slice sl_list (pe_lst (pa_cons pe_str (pa_cons pe_str (pa_cons pe_str (pa_cons pe_str pa_nil))))) po_none
          (po_some (pe_call G1 (hr.mono (by decide)) (by rfl) D1.g D1.F.kp (bdLDraw D1.F) .nil pass0 (pa_cons (pv 0) (pa_cons pe_int pa_nil)))))) (pg_name (i := 3) scLRights.nd rfl (.inl rfl))
        (pss_one (ps_expr (pe_bm PySem.F.plainAttrs_list PySem.F.slot_list_append PySem.F.type_list_append mt_append (pv 2) (pa_cons
          (pe_tup (pa_cons (pv 3) (pa_cons (pe_ix ix_tup (pe_call G2 hr (by rfl) D2.g D2.F.kp (bdLPick D2.F) .nil pass0 (pa_cons (pv 0) (pa_cons (pe_ix ix_tup (pv 1) pe_int (fun _ _ => rfl)) pa_nil))) pe_int (fun _ _ => rfl))
            (pa_cons (pe_callTy call_tuple_of (by rfl) mT (by decide +kernel) (pa_cons (pe_lc (own := [("_law_k", 4)]) (g := gName 4) (tt := tYes) (te := tAmt) rfl scLRights.nd (pi_range1 (by rfl) mR (pa_cons (pe_ix ix_tup (pv 1) pe_int (fun _ _ => rfl)) pa_nil))
              (blkOk_by (N := nLRights) (sc := defScope sLRights) (by decide +kernel)) (fun _ _ _ _ _ => pg_name (i := 4) scLRights.nd rfl (.inl rfl)) (fun _ _ _ _ _ => pts_nil)
              (fun _ _ _ _ _ => pe_call G3 hr (by rfl) D3.g D3.F.kp (bdLAmount D3.F) .nil pass0 (pa_cons (pv 0) pa_nil))) pa_nil)) pa_nil)))) pa_nil)))))
      (pss_one (ps_ret (pe_callTy call_tuple_of (by rfl) mT (by decide +kernel) (pa_cons (pv 2) pa_nil))))), ?_⟩
    have hb0 := hb
    obtain ⟨a, x, rfl, ha, c, ys, rfl, hc, hp⟩ := hb
    have el2 := hp.length
    have hm4 := bl.ok.m4
    have hn1 := bl.ok.n1
    refine ⟨Nat.zero_le _, fun F hF => ?_⟩
    have kF := (Kx.refl [] H).laid (o := .lst []) hF
    have bF := hB.kx0 kF
    have nFb : F ≠ box := fun z => hB.some (by rw [← z]; exact hF)
    refine ⟨by show 4 ≤ sizeLine; decide, fun L hL => ?_⟩
    have kL := (Kx.refl [] (upd H F (.lst []))).laid (o := .lst (lawNames.map V.str)) hL
    have nLb : L ≠ box := fun z => bF.some (by rw [← z]; exact hL)
    have bL := bF.kx0 kL
    refine ⟨_, rfl, box, dg, 5, rfl, bL, by decide, fun H1 r k1 b1 r0 r1 => ?_⟩
    have eL := k1.lst (p := L) (by simpa using nLb) upd_same
    obtain ⟨j, rfl⟩ : ∃ j : Nat, r = (j : Nat) := ⟨r.toNat, by omega⟩
    refine ⟨_, rfl, L, lawNames.map V.str, rfl, SqL.of eL, fun L2 hL2 => ?_⟩
    rw [cut_to, ← List.map_take]
    have nFL : F ≠ L := fun z => by
      rw [← z, upd_same] at hL
      cases hL
    have kL2 := (Kx.refl [] H1).laid (o := .lst ((lawNames.take j).map V.str)) hL2
    have eF1 : H1 F = some (.lst []) := k1.lst (by simpa using nFb) (kL.lst0 upd_same)
    have nFL2 : L2 ≠ F := fun z => by
      rw [z, eF1] at hL2
      cases hL2
    have nL2b : L2 ≠ box := fun z => b1.some (by rw [← z]; exact hL2)
    have b2 := b1.kx0 kL2
    have kH2 : Kx [box] H (upd H1 L2 (.lst ((lawNames.take j).map V.str))) := ((kF.trans kL).any.trans k1).trans kL2.any
    have nl4 : (lawNames.take j).length ≤ 4 := by
      rw [List.length_take]
      exact Nat.min_le_right _ _
    refine ⟨L2, rfl, ⟨_, SqL.of upd_same⟩, ?_⟩
    refine for_list (xs := (lawNames.take j).map V.str) (fun i σ H' => Kx [box] H H' ∧ Kx [box, F] (upd H1 L2 (.lst ((lawNames.take j).map V.str))) H' ∧ BoxAt dg H' box ∧ ∃ (rs : List Rt) (y3 : Option V), ListR RightAt H' F rs ∧ rs.length = i ∧ RightsL b.months rs ∧ σ = [some (.ref box), some (.ref a), some (.ref F), y3, none])
      ⟨kH2, Kx.refl _ _, b2, [], none, ⟨[], kL2.lst0 eF1, .nil⟩, rfl, ⟨⟨by simp, by simp⟩, by simp⟩, rfl⟩ (fun i σ H' _ hP => SqL.of (hP.2.1.lst (by simp [nFL2, nL2b]) upd_same)) (fun i x σ H' hx hP => ?_) (fun σ H' hP => ?_)
    · obtain ⟨kx, kz, bx, rs, y3, hF2, lrs, rok, rfl⟩ := hP
      rw [List.getElem?_map] at hx
      obtain ⟨nm, hnm, rfl⟩ := Option.map_eq_some_iff.mp hx
      have hi4 : i < 4 := by
        have := (List.getElem?_eq_some_iff.mp hnm).1
        omega
      have nok := lawNames_ok nm (List.mem_of_mem_take (List.mem_of_getElem? hnm))
      have eF2 := hF2.choose_spec.1
      refine ⟨.ref F, rfl, .inl ⟨rfl, _, SqL.of eF2⟩, _, rfl, _, rfl, _, rfl, a, _, 1, _, rfl, rfl, SqT.of (kx.tu _ _ ha), atI_nat (j := 1) rfl, box, dg, c, ys, rfl, bx, kx.tu _ _ hc, by omega, fun H3 jj sx k3 b3 hsx => ?_⟩
      obtain ⟨st, hst, sa, sf, rfl, hsa, _⟩ := pgetL hp hsx
      have kx3 := kx.trans k3
      refine ⟨sa, _, 0, _, rfl, rfl, SqT.of (kx3.tu _ _ hsa), atI_nat (j := 0) rfl, ?_⟩
      refine ⟨_, rfl, a, _, 0, _, rfl, rfl, SqT.of (kx3.tu _ _ ha), atI_nat (j := 0) rfl, _, rfl, by omega, by omega, fun Dd hDd => ?_⟩
      rw [Int.toNat_natCast]
      refine amounts (by decide) rfl b3 hm4 hDd fun H4 ns k4 b4 e4 ln nb => ?_
      refine ⟨Dd, _, rfl, .inl ⟨SqL.of e4, fun T hT => ?_⟩⟩
      have kT := (Kx.refl [] H4).laid (o := .tup (ns.map V.int)) hT
      refine ⟨by show 3 ≤ sizeLine; decide, fun U hU => ?_⟩
      have kU := (Kx.refl [] (upd H4 T (.tup (ns.map V.int)))).laid (o := .tup [.str nm, .str st.name, .ref T]) hU
      have k5 : Kx [box] H' (upd (upd H4 T (.tup (ns.map V.int))) U (.tup [.str nm, .str st.name, .ref T])) := (k3.trans k4).trans (kT.trans kU).any
      have hF5 := hF2.move (S := [box]) (by simpa using nFb) k5 fun _ _ z => k5.right z
      obtain ⟨xs, d1, d2, d3⟩ := hF5.snoc stb_right (v := .ref U) (y := ⟨nm, st.name, ns⟩) (Kx.refl [] _) ⟨U, .ref T, rfl, upd_same, T, rfl, kU.tu _ _ upd_same⟩
      have b5 := b4.kx0 (kT.trans kU)
      refine ⟨F, xs, _, rfl, rfl, d1, small1000 (by omega), (kx.trans k5).new hF, (kz.trans (k5.wk (by simp))).mut (by simp) d1, ?_, rs ++ [⟨nm, st.name, ns⟩], _, d3, by rw [List.length_append, lrs]; rfl, ?_, rfl⟩
      · obtain ⟨ds, n, c1, c2⟩ := b5
        have nFg : F ≠ dg := fun z => hB.someD (by rw [← z]; exact hF)
        exact ⟨ds, n, by rw [upd_ne nFb.symm]; exact c1, by rw [upd_ne nFg.symm]; exact c2⟩
      · refine ⟨⟨?_, fun r hr => ?_⟩, fun r hr => ?_⟩
        · rw [List.length_append, lrs]
          exact hi4
        · rcases List.mem_append.mp hr with hr | hr
          · exact rok.ok.nm r hr
          · rw [List.mem_singleton.mp hr]
            exact nok
        · rcases List.mem_append.mp hr with hr | hr
          · exact rok.dm r hr
          · rw [List.mem_singleton.mp hr]
            exact ⟨ln, nb⟩
    · obtain ⟨kx, kz, bx, rs, y3, hF2, lrs, rok, rfl⟩ := hP
      obtain ⟨xs, e1, p1⟩ := hF2
      refine ⟨_, rfl, F, xs, rfl, .inl ⟨SqL.of e1, fun T hT => ?_⟩⟩
      have kT := (Kx.refl [] H').laid (o := .tup xs) hT
      exact q _ _ rs (kx.trans kT.any) (bx.kx0 kT) ⟨T, xs, rfl, upd_same, p1.mono fun _ _ z => kT.right z⟩ rok
end
end K15
set_option Elab.async false
set_option linter.all false
set_option maxRecDepth 100000
set_option maxHeartbeats 4000000
/-! the law's own: _law_basin -/
namespace K15
open PySem PySem.Spec PyProof.Rows L2
section
variable {P : Program} {w : World} {K : PySem.W.Frag} {mg : Str → Option Value} {base : Heap} {f : Addr} {fd : FuncData}
def siteNames : List Str := ["up", "dale", "weir", "mouth"]
theorem siteNames_ok : ∀ n ∈ siteNames, NameOk n := by
  intro n hn
  have h : n = "up" ∨ n = "dale" ∨ n = "weir" ∨ n = "mouth" := by simpa [siteNames] using hn
  rcases h with rfl | rfl | rfl | rfl <;> exact ⟨by decide +kernel, by decide +kernel, by decide +kernel⟩
theorem siteNames_nd : siteNames.Nodup := by decide +kernel
structure BInv (names : List Str) (m : Nat) (ss : List Site) : Prop where
  nm : ∀ (k : Nat) (s : Site), ss[k]? = some s → names[k]? = some s.name
  st : ∀ s ∈ ss, SiteL m s
  dn : ∀ (k : Nat) (s : Site) (x : Str), ss[k]? = some s → s.nxt = some x → ∃ j, k < j ∧ names[j]? = some x
theorem nodup_ix {α : Type} : ∀ {l : List α} {i j : Nat} {x : α}, l.Nodup → l[i]? = some x → l[j]? = some x → i = j
  | [], _, _, _, _, h, _ => by simp at h
  | a :: l, 0, 0, _, _, _, _ => rfl
  | a :: l, 0, j + 1, x, nd, h1, h2 => by
    simp at h1 h2
    subst h1
    exact absurd (List.mem_of_getElem? h2) (List.nodup_cons.mp nd).1
  | a :: l, i + 1, 0, x, nd, h1, h2 => by
    simp at h1 h2
    subst h2
    exact absurd (List.mem_of_getElem? h1) (List.nodup_cons.mp nd).1
  | a :: l, i + 1, j + 1, x, nd, h1, h2 => by
    have := nodup_ix (List.nodup_cons.mp nd).2 (by simpa using h1) (by simpa using h2)
    omega
theorem BInv.fin {names : List Str} {m : Nat} {ss : List Site} (h : BInv names m ss) (hl : ss.length = names.length) (hn1 : 1 ≤ names.length) (hn4 : names.length ≤ 4) (hm1 : 1 ≤ m) (hm4 : m ≤ 4) (hok : ∀ n ∈ names, NameOk n) (hnd : names.Nodup) : BasinL ⟨m, ss⟩ := by
  refine ⟨⟨hm1, hm4, by show 1 ≤ ss.length; omega, by show ss.length ≤ 4; omega, fun s hs => ?_, fun i j s t hi hj e => ?_⟩, h.st, fun k s x hk hx => ?_⟩
  · obtain ⟨k, hk⟩ := List.getElem?_of_mem hs
    exact hok _ (List.mem_of_getElem? (h.nm k s hk))
  · have h1 := h.nm i s hi
    have h2 := h.nm j t hj
    rw [← e] at h2
    exact nodup_ix hnd h1 h2
  · obtain ⟨j, hj, hx⟩ := h.dn k s x hk hx
    have hjl : j < ss.length := by
      have := (List.getElem?_eq_some_iff.mp hx).1
      omega
    refine ⟨j, ss[j], hj, List.getElem?_eq_getElem hjl, ?_⟩
    have := h.nm j _ (List.getElem?_eq_getElem hjl)
    rw [hx] at this
    exact (Option.some.inj this).symm
theorem BInv.snoc {names : List Str} {m : Nat} {ss : List Site} (h : BInv names m ss) {s : Site} (h1 : names[ss.length]? = some s.name) (h2 : SiteL m s) (h3 : ∀ x, s.nxt = some x → ∃ j, ss.length < j ∧ names[j]? = some x) : BInv names m (ss ++ [s]) := by
  have cut : ∀ (k : Nat) (t : Site), (ss ++ [s])[k]? = some t → ss[k]? = some t ∨ (k = ss.length ∧ t = s) := by
    intro k t hk
    by_cases hlt : k < ss.length
    · rw [List.getElem?_append_left hlt] at hk
      exact .inl hk
    · rw [List.getElem?_append_right (by omega)] at hk
      have hb := (List.getElem?_eq_some_iff.mp hk).1
      have hk0 : k = ss.length := by
        simp only [List.length_cons, List.length_nil] at hb
        omega
      subst hk0
      rw [Nat.sub_self] at hk
      exact .inr ⟨rfl, (Option.some.inj hk).symm⟩
  refine ⟨fun k t hk => ?_, fun t ht => ?_, fun k t x hk hx => ?_⟩
  · rcases cut k t hk with hk | ⟨rfl, rfl⟩
    · exact h.nm k t hk
    · exact h1
  · rcases List.mem_append.mp ht with ht | ht
    · exact h.st t ht
    · rw [List.mem_singleton.mp ht]
      exact h2
  · rcases cut k t hk with hk | ⟨rfl, rfl⟩
    · exact h.dn k t x hk hx
    · exact h3 x hx
theorem gName_to {i : Nat} {v : V} {σ σ2 : L2.St} {H : Hp} {Q : L2.St → Hp → Prop} (e : σ.set i (some v) = σ2) (h : Q σ2 H) : gName i v σ H Q := by
  unfold gName
  rw [e]
  exact h
def spBasin : Sp := fun vs H Q _ => ∃ (box dg : Addr), vs = [.ref box] ∧ BoxAt dg H box ∧ ∀ H' v b, Kx [box] H H' → BoxAt dg H' box → BasinAt H' v b → BasinL b → Q v H'
theorem ok_basin {f1 f3 : Addr} {fd1 fd3 : FuncData} (D : Df K mg "_law_basin" sLBasin f fd) (D1 : Df K mg "_law_draw" sLDraw f1 fd1) (D3 : Df K mg "_law_amount" sLAmount f3 fd3)
    (mR : mg "range" = none) (mL : mg "len" = none) (mI : mg "int" = none) (mT : mg "tuple" = none) :
    FnOk P w K mg base CX0 3 f fd ["_law_box"] spBasin := by
  have G1 : FnOk P w K mg base CX0 1 f1 fd1 _ spDraw := ok_draw D1 mL mI
  have G3 : FnOk P w K mg base CX0 2 f3 fd3 _ spAmount := ok_amount D3 D1 G1
  refine okD D.F scLBasin (fun vs H Q E h => ?_) (fun cdv A outer s H vs Q E hr h => ?_)
  · obtain ⟨box, dg, rfl, _⟩ := h
    rfl
  · obtain ⟨box, dg, rfl, hB, q⟩ := h
    refine ⟨_, pss_cons (ps_set (i := 1) scLBasin.nd rfl (.inl rfl) (pe_op op_add pe_int (pe_call G1 (hr.mono (by decide)) (by rfl) D1.g D1.F.kp (bdLDraw D1.F) .nil pass0 (pa_cons (pv 0) (pa_cons pe_int pa_nil)))))
      (pss_cons (ps_set (i := 2) scLBasin.nd rfl (.inl rfl) (pe_op op_add pe_int (pe_call G1 (hr.mono (by decide)) (by rfl) D1.g D1.F.kp (bdLDraw D1.F) .nil pass0 (pa_cons (pv 0) (pa_cons pe_int pa_nil)))))
      (pss_cons (ps_set (i := 3) scLBasin.nd rfl (.inl rfl) (pe_slice sl_list (pe_lst (pa_cons pe_str (pa_cons pe_str (pa_cons pe_str (pa_cons pe_str pa_nil))))) (po_some (pe_op op_sub pe_int (pv 2))) po_none))
      (pss_cons (ps_set (i := 4) scLBasin.nd rfl (.inl rfl) (pe_lst pa_nil))
      (pss_cons (ps_for PassesOwn.never rfl (pi_range1 (by rfl) mR (pa_cons (pv 2) pa_nil)) (pg_name (i := 5) scLBasin.nd rfl (.inl rfl))
        (pss_cons (ps_set (i := 6) scLBasin.nd rfl (.inl rfl) pe_non)
        (pss_cons (ps_set (i := 7) scLBasin.nd rfl (.inl rfl) pe_int)
        (pss_cons (ps_set (i := 8) scLBasin.nd rfl (.inl rfl) pe_non)
        (pss_cons (ps_if (pt_cmpR op_lt (pe_op op_add (pv 5) pe_int) (pv 2) (nomark _))
          (pss_cons (ps_set (i := 6) scLBasin.nd rfl (.inl rfl) (pe_ix ix_list (pv 3) (pe_op op_add (pe_op op_add (pv 5) pe_int) (pe_call G1 (hr.mono (by decide)) (by rfl) D1.g D1.F.kp (bdLDraw D1.F) .nil pass0 (pa_cons (pv 0) (pa_cons (pe_op op_sub (pe_op op_sub (pv 2) (pv 5)) pe_int) pa_nil)))) (fun _ _ => rfl)))
          (pss_cons (ps_set (i := 7) scLBasin.nd rfl (.inl rfl) (pe_ix ix_list (pe_lst (pa_cons pe_int (pa_cons pe_int (pa_cons pe_int (pa_cons pe_int pa_nil))))) (pe_call G1 (hr.mono (by decide)) (by rfl) D1.g D1.F.kp (bdLDraw D1.F) .nil pass0 (pa_cons (pv 0) (pa_cons pe_int pa_nil))) (fun _ _ => rfl)))
          (pss_one (ps_set (i := 8) scLBasin.nd rfl (.inl rfl) (pe_ix ix_list (pe_lst (pa_cons pe_non (pa_cons pe_non (pa_cons (pe_call G3 hr (by rfl) D3.g D3.F.kp (bdLAmount D3.F) .nil pass0 (pa_cons (pv 0) pa_nil)) (pa_cons (pe_call G1 (hr.mono (by decide)) (by rfl) D1.g D1.F.kp (bdLDraw D1.F) .nil pass0 (pa_cons (pv 0) (pa_cons pe_int pa_nil))) pa_nil)))))
            (pe_call G1 (hr.mono (by decide)) (by rfl) D1.g D1.F.kp (bdLDraw D1.F) .nil pass0 (pa_cons (pv 0) (pa_cons pe_int pa_nil))) (fun _ _ => rfl)))))) pss_nil)
        (pss_cons (ps_set (i := 9) scLBasin.nd rfl (.inl rfl) (pe_ix ix_list (pe_lst (pa_cons pe_int (pa_cons (pe_call G3 hr (by rfl) D3.g D3.F.kp (bdLAmount D3.F) .nil pass0 (pa_cons (pv 0) pa_nil)) (pa_cons (pe_call G1 (hr.mono (by decide)) (by rfl) D1.g D1.F.kp (bdLDraw D1.F) .nil pass0 (pa_cons (pv 0) (pa_cons pe_int pa_nil))) pa_nil))))
            (pe_call G1 (hr.mono (by decide)) (by rfl) D1.g D1.F.kp (bdLDraw D1.F) .nil pass0 (pa_cons (pv 0) (pa_cons pe_int pa_nil))) (fun _ _ => rfl)))
        (pss_cons (ps_set (i := 10) scLBasin.nd rfl (.inl rfl) (pe_op op_mul (pe_call G1 (hr.mono (by decide)) (by rfl) D1.g D1.F.kp (bdLDraw D1.F) .nil pass0 (pa_cons (pv 0) (pa_cons (pe_op op_add (pv 9) pe_int) pa_nil)))
            (pe_callTy call_int1 (by rfl) mI (by decide +kernel) (pa_cons (pe_cmpR op_eq (pe_call G1 (hr.mono (by decide)) (by rfl) D1.g D1.F.kp (bdLDraw D1.F) .nil pass0 (pa_cons (pv 0) (pa_cons pe_int pa_nil))) pe_int (nomark _)) pa_nil))))
        (pss_one (ps_expr (pe_bm PySem.F.plainAttrs_list PySem.F.slot_list_append PySem.F.type_list_append mt_append (pv 4) (pa_cons
          (pe_tup (pa_cons (pe_ix ix_list (pv 3) (pv 5) (fun _ _ => rfl)) (pa_cons (pv 6) (pa_cons (pv 7) (pa_cons (pv 8) (pa_cons (pv 9) (pa_cons (pv 10) (pa_cons
            (pe_callTy call_tuple_of (by rfl) mT (by decide +kernel) (pa_cons (pe_lc (own := [("_law_k", 11)]) (g := gName 11) (tt := tYes) (te := tAmt) rfl scLBasin.nd (pi_range1 (by rfl) mR (pa_cons (pv 1) pa_nil))
              (blkOk_by (N := nLBasin) (sc := defScope sLBasin) (by decide +kernel)) (fun _ _ _ _ _ => pg_name (i := 11) scLBasin.nd rfl (.inl rfl)) (fun _ _ _ _ _ => pts_nil)
              (fun _ _ _ _ _ => pe_call G3 hr (by rfl) D3.g D3.F.kp (bdLAmount D3.F) .nil pass0 (pa_cons (pv 0) pa_nil))) pa_nil)) pa_nil)))))))) pa_nil)))))))))))
      (pss_one (ps_ret (pe_tup (pa_cons (pv 1) (pa_cons (pe_callTy call_tuple_of (by rfl) mT (by decide +kernel) (pa_cons (pv 4) pa_nil)) pa_nil))))))))), ?_⟩
    refine ⟨_, rfl, box, dg, 4, rfl, hB, by decide, fun Ha r1 ka ba r10 r11 => ⟨_, _, rfl, rfl, ?_⟩⟩
    refine ⟨_, rfl, box, dg, 4, rfl, ba, by decide, fun Hb r2 kb bb r20 r21 => ⟨_, _, rfl, rfl, ?_⟩⟩
    obtain ⟨m, hm⟩ : ∃ m : Nat, 1 + r1 = (m : Nat) := ⟨(1 + r1).toNat, by omega⟩
    obtain ⟨n, hn⟩ : ∃ n : Nat, 1 + r2 = (n : Nat) := ⟨(1 + r2).toNat, by omega⟩
    have hm1 : 1 ≤ m := by omega
    have hm4 : m ≤ 4 := by omega
    have hn1 : 1 ≤ n := by omega
    have hn4 : n ≤ 4 := by omega
    refine ⟨by show 4 ≤ sizeLine; decide, fun La hLa => ⟨_, rfl, _, _, rfl, rfl, _, rfl, La, siteNames.map V.str, rfl, SqL.of upd_same, fun L3 hL3 => ?_⟩⟩
    have e4 : (4 : Int) - (1 + r2) = ((4 - n : Nat) : Int) := by omega
    rw [e4, cut_from, ← List.map_drop]
    obtain ⟨names, hnames⟩ : ∃ l, l = siteNames.drop (4 - n) := ⟨_, rfl⟩
    have hnl : names.length = n := by
      rw [hnames, List.length_drop]
      show 4 - (4 - n) = n
      omega
    have hnok : ∀ x ∈ names, NameOk x := fun x hx => siteNames_ok x (List.mem_of_mem_drop (by rw [← hnames]; exact hx))
    have hnnd : names.Nodup := by
      rw [hnames]
      exact siteNames_nd.sublist (List.drop_sublist _ _)
    rw [← hnames]
    refine ⟨Nat.zero_le _, fun F hF => ?_⟩
    have kLa := (Kx.refl [] Hb).laid (o := .lst (siteNames.map V.str)) hLa
    have kL3 := (Kx.refl [] (upd Hb La (.lst (siteNames.map V.str)))).laid (o := .lst (names.map V.str)) hL3
    have kF := (Kx.refl [] (upd (upd Hb La (.lst (siteNames.map V.str))) L3 (.lst (names.map V.str)))).laid (o := .lst []) hF
    have kAll := (kLa.trans kL3).trans kF
    have kH0 := (ka.trans kb).trans kAll.any
    have b0 := bb.kx0 kAll
    have nFb : F ≠ box := fun z => (bb.kx0 (kLa.trans kL3)).some (by rw [← z]; exact hF)
    have nFg : F ≠ dg := fun z => (bb.kx0 (kLa.trans kL3)).someD (by rw [← z]; exact hF)
    have nL3b : L3 ≠ box := fun z => (bb.kx0 kLa).some (by rw [← z]; exact hL3)
    have nL3F : L3 ≠ F := fun z => by
      rw [← z, upd_same] at hF
      cases hF
    have hF0 : H F = none := (ka.trans kb).th _ ((kLa.trans kL3).th _ hF)
    have eL30 := kF.lst0 (p := L3) upd_same
    obtain ⟨H0, hH0⟩ : ∃ h, h = upd (upd (upd Hb La (.lst (siteNames.map V.str))) L3 (.lst (names.map V.str))) F (.lst []) := ⟨_, rfl⟩
    rw [← hH0] at kH0 b0 eL30
    have eF0 : H0 F = some (.lst []) := by rw [hH0]; exact upd_same
    refine ⟨_, rfl, 1 + r2, rfl, by omega, by omega, ?_⟩
    rw [show (1 + r2).toNat = n from by omega]
    refine for_range (lo := 0) (n := n) (fun i σ H' => Kx [box] H H' ∧ Kx [box, F] H0 H' ∧ BoxAt dg H' box ∧ ∃ (ss : List Site) (y5 y6 y7 y8 y9 y10 : Option V), ListR SiteAt H' F ss ∧ ss.length = i ∧ BInv names m ss ∧ σ = [some (.ref box), some (.int (m : Nat)), some (.int (n : Nat)), some (.ref L3), some (.ref F), y5, y6, y7, y8, y9, y10, none])
      ⟨by rw [hH0] at kH0; exact kH0, by rw [hH0]; exact Kx.refl _ _, by rw [hH0] at b0; exact b0, [], none, none, none, none, none, none, ⟨[], by rw [hH0] at eF0; exact eF0, .nil⟩, rfl, ⟨by simp, by simp, by simp⟩, by rw [← hm, ← hn]; rfl⟩ (fun s σ H' hs hP => ?_) (fun σ H' hP => ?_)
    · obtain ⟨kx, kz, bx, ss, y5, y6, y7, y8, y9, y10, hF2, lss, binv, rfl⟩ := hP
      have nm : names[s]? = some names[s] := List.getElem?_eq_getElem (by rw [hnl]; exact hs)
      refine ⟨_, rfl, _, _, rfl, rfl, _, rfl, _, _, rfl, rfl, _, rfl, ite2 (fun e => ?b1) (fun e => ?b2)⟩
      case' b2 =>
        obtain ⟨fo, tr, re, hfo, htr, hre, pfo, ptr, pre⟩ : ∃ (fo : Option Str) (tr : Int) (re : Option Int), optS fo = V.non ∧ tr = 0 ∧ optI re = V.non ∧ (∀ x, fo = some x → ∃ j, s < j ∧ names[j]? = some x) ∧ 0 ≤ tr ∧ (∀ r, re = some r → 0 ≤ r) :=
          ⟨none, 0, none, rfl, rfl, rfl, by simp, by decide, by simp⟩
      case' b1 =>
        have e5 : s + 1 < n := by
          have := of_decide_eq_true e
          omega
        have eL3 := kz.lst (p := L3) (by simp [nL3F, nL3b]) eL30
        refine ⟨_, rfl, _, rfl, _, _, rfl, rfl, _, rfl, _, rfl, _, rfl, _, _, rfl, rfl, _, _, rfl, rfl, box, dg, _, rfl, bx, by omega, fun Hc r3 kc bc r30 r31 => ?_⟩
        obtain ⟨j3, hj3⟩ : ∃ j3 : Nat, r3 = (j3 : Nat) := ⟨r3.toNat, by omega⟩
        have e6 : 0 + ((s : Nat) : Int) + 1 + r3 = ((s + 1 + j3 : Nat) : Int) := by omega
        have e7 : s + 1 + j3 < names.length := by omega
        have kc3 := kc.lst (p := L3) (by simpa using nL3b) eL3
        refine ⟨_, _, rfl, rfl, L3, _, _, .str names[s + 1 + j3], rfl, rfl, SqL.of kc3, by rw [e6]; exact atI_nat (by rw [List.getElem?_map, List.getElem?_eq_getElem e7]; rfl), ?_⟩
        refine ⟨by show 4 ≤ sizeLine; decide, fun Lt hLt => ?_⟩
        have kLt := (Kx.refl [] Hc).laid (o := .lst [.int 0, .int 0, .int 1, .int 2]) hLt
        have nLtb : Lt ≠ box := fun z => bc.some (by rw [← z]; exact hLt)
        refine ⟨_, rfl, box, dg, 4, rfl, bc.kx0 kLt, by decide, fun Hd r4 kd bd r40 r41 => ?_⟩
        have eLt := kd.lst (p := Lt) (by simpa using nLtb) upd_same
        obtain ⟨tv, htv, tv0⟩ : ∃ t : Int, atI [V.int 0, V.int 0, V.int 1, V.int 2] r4 = some (.int t) ∧ 0 ≤ t := by
          have : r4 = 0 ∨ r4 = 1 ∨ r4 = 2 ∨ r4 = 3 := by omega
          rcases this with rfl | rfl | rfl | rfl
          · exact ⟨0, rfl, by decide⟩
          · exact ⟨0, rfl, by decide⟩
          · exact ⟨1, rfl, by decide⟩
          · exact ⟨2, rfl, by decide⟩
        refine ⟨Lt, _, _, _, rfl, rfl, SqL.of eLt, htv, ?_⟩
        refine ⟨_, rfl, box, dg, rfl, bd, fun He r5 ke be r50 r51 => ?_⟩
        refine ⟨_, rfl, box, dg, 6, rfl, be, by decide, fun Hf r6 kf bf r60 r61 => ?_⟩
        refine ⟨by show 4 ≤ sizeLine; decide, fun Lr hLr => ?_⟩
        have kLr := (Kx.refl [] Hf).laid (o := .lst [.non, .non, .int r5, .int r6]) hLr
        have nLrb : Lr ≠ box := fun z => bf.some (by rw [← z]; exact hLr)
        refine ⟨_, rfl, box, dg, 4, rfl, bf.kx0 kLr, by decide, fun Hg r7 kg bg r70 r71 => ?_⟩
        have eLr := kg.lst (p := Lr) (by simpa using nLrb) upd_same
        obtain ⟨rv, re, hrv, hre, pre⟩ : ∃ (v : V) (re : Option Int), atI [V.non, V.non, V.int r5, V.int r6] r7 = some v ∧ optI re = v ∧ ∀ r, re = some r → 0 ≤ r := by
          have : r7 = 0 ∨ r7 = 1 ∨ r7 = 2 ∨ r7 = 3 := by omega
          rcases this with rfl | rfl | rfl | rfl
          · exact ⟨.non, none, rfl, rfl, by simp⟩
          · exact ⟨.non, none, rfl, rfl, by simp⟩
          · exact ⟨.int r5, some r5, rfl, rfl, fun r hr => by cases hr; exact r50⟩
          · exact ⟨.int r6, some r6, rfl, rfl, fun r hr => by cases hr; exact r60⟩
        refine ⟨Lr, _, _, _, rfl, rfl, SqL.of eLr, hrv, ?_⟩
        have kk : Kx [box] H' Hg := kc.trans (kLt.any.trans (kd.trans (ke.trans (kf.trans (kLr.any.trans kg)))))
        obtain ⟨fo, hfo, pfo⟩ : ∃ fo : Option Str, optS fo = V.str names[s + 1 + j3] ∧ (∀ x, fo = some x → ∃ j, s < j ∧ names[j]? = some x) := ⟨some names[s + 1 + j3], rfl, fun x hx => ⟨s + 1 + j3, by omega, by rw [← hx]; exact List.getElem?_eq_getElem e7⟩⟩
        obtain ⟨tr, htr, ptr⟩ : ∃ tr : Int, tr = tv ∧ 0 ≤ tr := ⟨tv, rfl, tv0⟩
        replace hF2 := hF2.move (S := [box]) (by simpa using nFb) kk fun _ _ z => kk.site z
        replace kx := kx.trans kk
        replace kz := kz.trans (kk.wk (S' := [box, F]) (by simp))
        replace bx := bg
      all_goals
        refine ⟨_, rfl, box, dg, rfl, bx, fun Hh q1 kh bh q10 q11 => ?_⟩
        refine ⟨_, rfl, box, dg, 9, rfl, bh, by decide, fun Hi q2 ki bi q20 q21 => ?_⟩
        refine ⟨by show 3 ≤ sizeLine; decide, fun Lo hLo => ?_⟩
        have kLo := (Kx.refl [] Hi).laid (o := .lst [.int 0, .int q1, .int q2]) hLo
        have nLob : Lo ≠ box := fun z => bi.some (by rw [← z]; exact hLo)
        refine ⟨_, rfl, box, dg, 3, rfl, bi.kx0 kLo, by decide, fun Hj q3 kj bj q30 q31 => ?_⟩
        have eLo := kj.lst (p := Lo) (by simpa using nLob) upd_same
        obtain ⟨room, hroom, room0, room1⟩ : ∃ t : Int, atI [V.int 0, V.int q1, V.int q2] q3 = some (.int t) ∧ 0 ≤ t ∧ t ≤ 99 := by
          have : q3 = 0 ∨ q3 = 1 ∨ q3 = 2 := by omega
          rcases this with rfl | rfl | rfl
          · exact ⟨0, rfl, by decide, by decide⟩
          · exact ⟨q1, rfl, q10, q11⟩
          · exact ⟨q2, rfl, q20, by omega⟩
        refine ⟨Lo, _, _, _, rfl, rfl, SqL.of eLo, hroom, ?_⟩
        refine ⟨_, rfl, _, rfl, _, _, rfl, rfl, box, dg, _, rfl, bj, by omega, fun Hk q4 kk4 bk q40 q41 => ?_⟩
        refine ⟨_, rfl, box, dg, 3, rfl, bk, by decide, fun Hl q5 kl bl2 q50 q51 => ?_⟩
        refine ⟨rfl, .inr ⟨_, rfl, _, _, rfl, rfl, .inl ⟨by omega, by omega⟩, ?_⟩⟩
        obtain ⟨held, hheld, held0, held1⟩ : ∃ t : Int, t = q4 * (if decide (V.int q5 = V.int 0) = true then 1 else 0) ∧ 0 ≤ t ∧ t ≤ 99 := by
          refine ⟨_, rfl, ?_⟩
          split <;> omega
        refine gName_to (σ2 := [some (.ref box), some (.int (m : Nat)), some (.int (n : Nat)), some (.ref L3), some (.ref F), some (.int (0 + (s : Nat))), some (optS fo), some (.int tr), some (optI re), some (.int room), some (.int held), none]) (by rw [hfo, htr, hre, hheld] <;> rfl) ?_
        have kp : Kx [box] _ Hl := kh.trans (ki.trans (kLo.any.trans (kj.trans (kk4.trans kl))))
        have kx2 := kx.trans kp
        have kz2 := kz.trans (kp.wk (S' := [box, F]) (by simp))
        have hF3 := hF2.move (S := [box]) (by simpa using nFb) kp fun _ _ z => kp.site z
        have eF3 := hF3.choose_spec.1
        have eL33 := kz2.lst (p := L3) (by simp [nL3F, nL3b]) eL30
        refine ⟨.ref F, rfl, .inl ⟨rfl, _, SqL.of eF3⟩, _, rfl, _, rfl, L3, _, _, .str names[s], rfl, rfl, SqL.of eL33, by rw [Int.zero_add]; exact atI_nat (by rw [List.getElem?_map, nm]; rfl), _, rfl, _, rfl, _, rfl, _, rfl, _, rfl, ?_⟩
        refine ⟨_, rfl, _, rfl, by omega, by omega, fun Dd hDd => ?_⟩
        rw [Int.toNat_natCast]
        refine amounts (by decide) rfl bl2 hm4 hDd fun Hm ns km bm em ln nb => ?_
        refine ⟨Dd, _, rfl, .inl ⟨SqL.of em, fun T hT => ?_⟩⟩
        have kT := (Kx.refl [] Hm).laid (o := .tup (ns.map V.int)) hT
        refine ⟨by show 7 ≤ sizeLine; decide, fun U hU => ?_⟩
        have kU := (Kx.refl [] (upd Hm T (.tup (ns.map V.int)))).laid (o := .tup [.str names[s], optS fo, .int tr, optI re, .int room, .int held, .ref T]) hU
        have k5 : Kx [box] Hl (upd (upd Hm T (.tup (ns.map V.int))) U (.tup [.str names[s], optS fo, .int tr, optI re, .int room, .int held, .ref T])) := km.trans (kT.trans kU).any
        have hF5 := hF3.move (S := [box]) (by simpa using nFb) k5 fun _ _ z => k5.site z
        obtain ⟨xs, d1, d2, d3⟩ := hF5.snoc stb_site (v := .ref U) (y := ⟨names[s], fo, tr, re, room, held, ns⟩) (Kx.refl [] _) ⟨U, .ref T, rfl, upd_same, T, rfl, kU.tu _ _ upd_same⟩
        have b5 := bm.kx0 (kT.trans kU)
        refine ⟨F, xs, _, rfl, rfl, d1, small1000 (by omega), (kx2.trans k5).new hF0, (kz2.trans (k5.wk (by simp))).mut (by simp) d1, ?_, ss ++ [⟨names[s], fo, tr, re, room, held, ns⟩], _, _, _, _, _, _, d3, by rw [List.length_append, lss]; rfl, ?_, rfl⟩
        · obtain ⟨ds, nn, c1, c2⟩ := b5
          exact ⟨ds, nn, by rw [upd_ne nFb.symm]; exact c1, by rw [upd_ne nFg.symm]; exact c2⟩
        · refine binv.snoc (by rw [lss]; exact nm) ⟨ptr, room0, room1, held0, held1, ln, nb, pre⟩ fun x hx => ?_
          rw [lss]
          exact pfo x hx
    · obtain ⟨kx, kz, bx, ss, y5, y6, y7, y8, y9, y10, hF2, lss, binv, rfl⟩ := hP
      obtain ⟨xs, e1, p1⟩ := hF2
      refine ⟨_, rfl, _, rfl, F, xs, rfl, .inl ⟨SqL.of e1, fun T hT => ?_⟩⟩
      have kT := (Kx.refl [] H').laid (o := .tup xs) hT
      refine ⟨by show 2 ≤ sizeLine; decide, fun U hU => ?_⟩
      have kU := (Kx.refl [] (upd H' T (.tup xs))).laid (o := .tup [.int (m : Nat), .ref T]) hU
      have kTU := kT.trans kU
      exact q _ _ ⟨m, ss⟩ (kx.trans kTU.any) (bx.kx0 kTU) ⟨U, .ref T, rfl, upd_same, T, xs, rfl, kU.tu _ _ upd_same, p1.mono fun _ _ z => kTU.site z⟩ (binv.fin (by omega) (by omega) (by omega) hm1 hm4 hnok hnnd)
end
end K15
set_option Elab.async false
set_option linter.all false
set_option maxRecDepth 100000
set_option maxHeartbeats 4000000
/-! what repr writes of a plan is short -/
namespace K15
open PySem PySem.Spec PyProof.Rows L2
structure Sm (d : PyData) (W D : Nat) : Prop where
  s : d.showable = true
  n : d.hasDict = false
  l : d.leavesShort 13 = true
  w : d.weight ≤ W
  k : d.depth ≤ D
structure SmA (ds : List PyData) (W D : Nat) : Prop where
  s : PyData.showableAll ds = true
  n : PyData.hasDictAll ds = false
  l : PyData.leavesShortAll 13 ds = true
  w : PyData.weightAll ds ≤ W
  k : PyData.depthAll ds ≤ D
theorem Sm.tup {ds : List PyData} {W D : Nat} (h : SmA ds W D) : Sm (.tuple ds) W (D + 1) := by
  refine ⟨?_, ?_, ?_, ?_, ?_⟩
  · simp only [PyData.showable]; exact h.s
  · simp only [PyData.hasDict]; exact h.n
  · simp only [PyData.leavesShort]; exact h.l
  · simp only [PyData.weight]; exact h.w
  · have := h.k
    simp only [PyData.depth]
    omega
theorem SmA.nil {D : Nat} : SmA [] 0 D := ⟨rfl, rfl, rfl, Nat.le_refl _, Nat.zero_le _⟩
theorem SmA.cons {d : PyData} {ds : List PyData} {W V D : Nat} (h : Sm d W D) (t : SmA ds V D) : SmA (d :: ds) (W + 1 + V) D := by
  refine ⟨?_, ?_, ?_, ?_, ?_⟩
  · simp only [PyData.showableAll, h.s, t.s, Bool.and_self]
  · simp only [PyData.hasDictAll, h.n, t.n, Bool.or_self]
  · simp only [PyData.leavesShortAll, h.l, t.l, Bool.and_self]
  · have := h.w
    have := t.w
    simp only [PyData.weightAll]
    omega
  · have := h.k
    have := t.k
    simp only [PyData.depthAll]
    omega
theorem SmA.map {α : Type} {f : α → PyData} {W D : Nat} : ∀ {l : List α}, (∀ x ∈ l, Sm (f x) W D) → SmA (l.map f) (l.length * (W + 1)) D
  | [], _ => by simpa using SmA.nil
  | x :: l, h => by
    have := SmA.cons (h x List.mem_cons_self) (SmA.map (l := l) fun y hy => h y (List.mem_cons_of_mem _ hy))
    rw [List.length_cons, Nat.succ_mul, Nat.add_comm]
    exact this
theorem SmA.wk {ds : List PyData} {W V D : Nat} (h : SmA ds W D) (hw : W ≤ V) : SmA ds V D := ⟨h.s, h.n, h.l, Nat.le_trans h.w hw, h.k⟩
theorem Sm.wk {d : PyData} {W V D : Nat} (h : Sm d W D) (hw : W ≤ V) : Sm d V D := ⟨h.s, h.n, h.l, Nat.le_trans h.w hw, h.k⟩
theorem sm_int {i : Int} {D : Nat} (h0 : 0 ≤ i) (h1 : i ≤ 9999) : Sm (.int i) 14 D := by
  have lg : i.natAbs ≠ 0 → i.natAbs.log2 < 14 := fun h => (Nat.log2_lt h).mpr (by omega)
  refine ⟨?_, rfl, ?_, ?_, ?_⟩
  · simp only [PyData.showable, decide_eq_true_eq]
    exact log_small h0 h1
  · simp only [PyData.leavesShort, decide_eq_true_eq]
    exact PyData.shown_int_le (by omega)
  · simp only [PyData.weight]
    split
    · exact Nat.zero_le _
    · rename_i h
      have : i.natAbs ≠ 0 := fun z => h (by simp; omega)
      have := lg this
      omega
  · simp only [PyData.depth]
    exact Nat.zero_le _
theorem sm_row {m : Nat} {ns : List Int} (h : RowOk m ns) (hm : m ≤ 4) {D : Nat} : Sm (rowD ns) 60 (D + 1) := by
  have e := Sm.tup (SmA.map (f := PyData.int) (l := ns) (W := 14) (D := D) fun x hx => sm_int (h.2 x hx).1 (h.2 x hx).2)
  refine e.wk ?_
  rw [h.1]
  have : m * (14 + 1) ≤ 4 * (14 + 1) := Nat.mul_le_mul_right _ hm
  omega
theorem sm_rows {m : Nat} {rs : List (List Int)} (h : ∀ r ∈ rs, RowOk m r) (hm : m ≤ 4) (hl : rs.length ≤ 4) {D : Nat} : Sm (rowsD rs) 244 (D + 2) := by
  have e := Sm.tup (SmA.map (f := rowD) (l := rs) (W := 60) (D := D + 1) fun x hx => sm_row (h x hx) hm)
  refine e.wk ?_
  have : rs.length * (60 + 1) ≤ 4 * (60 + 1) := Nat.mul_le_mul_right _ hl
  omega
theorem sm_plan {b : Basin} {rs : List Rt} {p : Plan} (bok : BasinOk b) (rok : RightsOk rs) (h : PlanOk b rs p) {D : Nat} : Sm (planD p) 735 (D + 3) := by
  have h1 := sm_rows (D := D) h.rd bok.m4 (by rw [h.nd]; exact rok.n4)
  have h2 := sm_rows (D := D) h.rr bok.m4 (by rw [h.nr]; exact bok.n4)
  have h3 := sm_rows (D := D) h.rs bok.m4 (by rw [h.ns]; exact bok.n4)
  exact Sm.tup (SmA.cons h1 (SmA.cons h2 (SmA.cons h3 SmA.nil)))
theorem sm_cell {b : Basin} (bok : BasinOk b) {c : Cell} (h1 : c.1 < b.sites.length) (h2 : c.2 < b.months) {D : Nat} : Sm (cellD c) 30 (D + 1) := by
  have := bok.n4
  have := bok.m4
  exact Sm.tup (SmA.cons (sm_int (i := ((c.1 : Nat) : Int)) (by omega) (by omega)) (SmA.cons (sm_int (i := ((c.2 : Nat) : Int)) (by omega) (by omega)) SmA.nil))
theorem sm_reg {b : Basin} (bok : BasinOk b) {r : List Cell} (h : CellsIn b r) {D : Nat} : Sm (regD r) 496 (D + 2) := by
  have e := Sm.tup (SmA.map (f := cellD) (l := r) (W := 30) (D := D + 1) fun c hc => sm_cell bok (h.s c hc) (h.m c hc))
  refine e.wk ?_
  have : r.length * (30 + 1) ≤ 16 * (30 + 1) := Nat.mul_le_mul_right _ h.n
  omega
theorem sm_cert {b : Basin} {rs : List Rt} {p : Plan} {gs : List (List Cell)} (bok : BasinOk b) (rok : RightsOk rs) (h : PlanOk b rs p) (hg : ∀ r ∈ gs, CellsIn b r) (g4 : gs.length ≤ 4) : Sm (.tuple [planD p, regsD gs]) 4000 5 := by
  have h1 := sm_plan (D := 1) bok rok h
  have h2 := Sm.tup (SmA.map (f := regD) (l := gs) (W := 496) (D := 3) fun r hr => sm_reg (D := 1) bok (hg r hr))
  have h3 : Sm (regsD gs) 1988 4 := by
    refine h2.wk ?_
    have : gs.length * (496 + 1) ≤ 4 * (496 + 1) := Nat.mul_le_mul_right _ g4
    omega
  exact (Sm.tup (SmA.cons h1 (SmA.cons h3 SmA.nil))).wk (by omega)
theorem Sm.short {d : PyData} {W D : Nat} (h : Sm d W D) (hw : W ≤ 1048576) : d.shown.length ≤ sizeLine := PyData.shown_fits (B := 13) (by decide) (by decide) h.l (Nat.le_trans h.w hw)
end K15
set_option Elab.async false
set_option linter.all false
set_option maxRecDepth 100000
set_option maxHeartbeats 4000000
/-! the law -/
namespace K15
open PySem PySem.Spec PyProof.Rows L2
section
variable {P : Program} {w : World} {K : PySem.W.Frag} {mg : Str → Option Value} {base : Heap} {f : Addr} {fd : FuncData}
/-! ### the cells in their order -/
theorem cellsTo_bound (n m : Nat) : ∀ c ∈ cellsTo n m, c.1 < n ∧ c.2 < m := by
  intro c hc
  unfold cellsTo at hc
  obtain ⟨k, hk, hc⟩ := List.mem_flatMap.mp hc
  obtain ⟨s, hs, rfl⟩ := List.mem_map.mp hc
  exact ⟨List.mem_range.mp hs, List.mem_range.mp hk⟩
theorem cellsTo_sorted (n : Nat) : ∀ m : Nat, (cellsTo n m).Pairwise fun c d => posN n c < posN n d
  | 0 => by unfold cellsTo; exact List.Pairwise.nil
  | m + 1 => by
    rw [cellsTo_succ]
    refine List.pairwise_append.mpr ⟨cellsTo_sorted n m, ?_, fun c hc d hd => ?_⟩
    · rw [List.pairwise_map]
      refine List.pairwise_lt_range.imp fun {a b} h => ?_
      show m * n + a < m * n + b
      omega
    · obtain ⟨s, hs, rfl⟩ := List.mem_map.mp hd
      have hb := cellsTo_bound n m c hc
      show c.2 * n + c.1 < m * n + s
      have : (c.2 + 1) * n ≤ m * n := Nat.mul_le_mul_right _ hb.2
      rw [Nat.succ_mul] at this
      omega
theorem pw_next {α : Type} {R : α → α → Prop} : ∀ {l : List α} {i : Nat} {c d : α}, l.Pairwise R → l[i]? = some c → l[i + 1]? = some d → R c d
  | [], _, _, _, _, h, _ => by simp at h
  | a :: l, 0, c, d, p, h1, h2 => by
    simp at h1 h2
    subst h1
    exact (List.pairwise_cons.mp p).1 d (List.mem_of_getElem? h2)
  | a :: l, i + 1, c, d, p, h1, h2 => pw_next (i := i) (List.pairwise_cons.mp p).2 (by simpa using h1) (by simpa using h2)
theorem reg_of {b : Basin} (bok : BasinOk b) {r : List Cell} (h : r.Sublist (cellsOf b)) (ne : r ≠ []) : RegOk b r := by
  have hb : ∀ c ∈ r, c.1 < b.sites.length ∧ c.2 < b.months := fun c hc => cellsTo_bound _ _ c (h.subset hc)
  refine ⟨⟨fun c hc => (hb c hc).1, fun c hc => (hb c hc).2, ?_⟩, ne, fun i c d h1 h2 => pw_next (R := fun c d => posN b.sites.length c < posN b.sites.length d) ((cellsTo_sorted _ b.months).sublist h) h1 h2⟩
  have h1 := h.length_le
  have h2 : (cellsOf b).length = b.months * b.sites.length := cellsTo_len _ _
  have h3 : b.months * b.sites.length ≤ 4 * 4 := Nat.mul_le_mul bok.m4 bok.n4
  omega
theorem region_sp : ("region " : Str) = wRegion ++ sSp := by decide +kernel
theorem reg_law {b : Basin} {r : List Cell} (ne : r ≠ []) : ("region " : Str) ++ Txt.join sSp (r.map (cellS b)) = regS b r := by
  unfold regS
  cases r with
  | nil => exact absurd rfl ne
  | cons c r => rw [List.map_cons, join_cons, region_sp]
/-! ### what stands while the law runs -/
structure LS (box dg : Addr) (bv rv pvl : V) (b : Basin) (rs : List Rt) (p : Plan) (T1 T2 : Addr) (H : Hp) : Prop where
  bx : BoxAt dg H box
  ba : BasinAt H bv b
  ra : RightsAt H rv rs
  pa : PlanAt H pvl p
  t1 : GxR.TabG H T1
  t2 : GxR.TabG H T2
theorem LS.mv {box dg : Addr} {bv rv pvl : V} {b : Basin} {rs : List Rt} {p : Plan} {T1 T2 : Addr} {S : List Addr} {H H' : Hp} (h : LS box dg bv rv pvl b rs p T1 T2 H) (k : Kx S H H') (hb : box ∉ S) (hd : dg ∉ S) : LS box dg bv rv pvl b rs p T1 T2 H' :=
  ⟨h.bx.kx k hb hd, k.basin h.ba, k.rights h.ra, k.plan h.pa, k.tabG h.t1, k.tabG h.t2⟩
theorem LS.mv0 {box dg : Addr} {bv rv pvl : V} {b : Basin} {rs : List Rt} {p : Plan} {T1 T2 : Addr} {H H' : Hp} (h : LS box dg bv rv pvl b rs p T1 T2 H) (k : Kx [] H H') : LS box dg bv rv pvl b rs p T1 T2 H' := h.mv k (by simp) (by simp)
theorem LS.dr {box dg : Addr} {bv rv pvl : V} {b : Basin} {rs : List Rt} {p : Plan} {T1 T2 : Addr} {S : List Addr} {H H' : Hp} (h : LS box dg bv rv pvl b rs p T1 T2 H) (k : Kx S H H') (bx : BoxAt dg H' box) : LS box dg bv rv pvl b rs p T1 T2 H' :=
  ⟨bx, k.basin h.ba, k.rights h.ra, k.plan h.pa, k.tabG h.t1, k.tabG h.t2⟩
theorem iteNd {c A B : Prop} [Decidable c] (h : c) (hB : B) : if (!decide c) = true then A else B := by
  rw [decide_eq_true h]
  exact iteF hB
def spLaw (K : PySem.W.Frag) (T1 T2 : Addr) : Sp := fun vs H Q _ => ∃ (a : Addr) (ns : List Int), vs = [.ref a] ∧ SqL K H a (ns.map V.int) ∧ GxR.TabG H T1 ∧ GxR.TabG H T2 ∧ ∀ H', Q (.bl true) H'
theorem ok_law {T1 T2 f1 f2 f3 f4 f5 f6 f7 f8 f9 f10 f11 f12 : Addr} {fd1 fd2 fd3 fd4 fd5 fd6 fd7 fd8 fd9 fd10 fd11 fd12 : FuncData} (D : Df K mg "law" sLaw f fd)
    (D1 : Df K mg "_law_digits" sLDigits f1 fd1) (G1 : FnOk P w K mg base CX0 2 f1 fd1 ["_law_script", "_law_first", "_law_last"] (spDigits K))
    (D2 : Df K mg "_law_basin" sLBasin f2 fd2) (G2 : FnOk P w K mg base CX0 3 f2 fd2 ["_law_box"] spBasin)
    (D3 : Df K mg "_law_rights" sLRights f3 fd3) (G3 : FnOk P w K mg base CX0 3 f3 fd3 ["_law_box", "_law_basin_here"] spRights)
    (D4 : Df K mg "_law_led" sLLed f4 fd4) (G4 : FnOk P w K mg base CX0 2 f4 fd4 ["_law_box", "_law_basin_here", "_law_rights_here"] spLed)
    (D5 : Df K mg "_law_lines" sLLines f5 fd5) (G5 : FnOk P w K mg base CX0 2 f5 fd5 ["_law_basin_here", "_law_rights_here", "_law_plan"] spLines)
    (D6 : Df K mg "plan_text" sPlanText f6 fd6) (G6 : FnOk P w K mg base CX0 3 f6 fd6 ["basin", "rights", "plan"] spPlanText)
    (D7 : Df K mg "parse_plan" sParsePlan f7 fd7) (G7 : FnOk P w K mg base CX0 6 f7 fd7 ["basin", "rights", "text"] (spParsePlan T1 T2))
    (D8 : Df K mg "_law_same" sLSame f8 fd8) (G8 : FnG P w K mg base 1 f8 fd8 ["_law_actual", "_law_due"] (spSame K))
    (D9 : Df K mg "_law_draw" sLDraw f9 fd9) (G9 : FnOk P w K mg base CX0 1 f9 fd9 ["_law_box", "_law_many"] spDraw)
    (D10 : Df K mg "_law_cells" sLCells f10 fd10) (G10 : FnOk P w K mg base CX0 1 f10 fd10 ["_law_basin_here"] spCells)
    (D11 : Df K mg "certificate_text" sCertText f11 fd11) (G11 : FnOk P w K mg base CX0 3 f11 fd11 ["basin", "rights", "certificate"] spCertText)
    (D12 : Df K mg "parse_certificate" sParseCert f12 fd12) (G12 : FnOk P w K mg base CX0 6 f12 fd12 ["basin", "rights", "text"] (spParseCert T1 T2))
    (mR : mg "range" = none) (mL : mg "len" = none) (mS : mg "str" = none) (mT : mg "tuple" = none) :
    FnG P w K mg base 7 f fd ["_law_script"] (spLaw K T1 T2) := by
  refine okG D.F scLaw (fun vs H Q E h => ?_) (fun cdv A outer s H vs Q hgd hr h => ?_)
  · obtain ⟨a, ns, rfl, _⟩ := h
    rfl
  · obtain ⟨a, ns, rfl, hS, hT1, hT2, q⟩ := h
    refine ⟨_, pss_cons (ps_set (i := 1) scLaw.nd rfl (.inr rfl) (pe_lst (pa_cons (pe_call G1 (hr.mono (by decide)) (by rfl) D1.g D1.F.kp (bdLDigits D1.F) .nil pass0 (pa_cons (pv 0) (pa_cons pe_int (pa_cons pe_int pa_nil)))) (pa_cons pe_int pa_nil))))
      (pss_cons (ps_set (i := 2) scLaw.nd rfl (.inr rfl) (pe_call G2 (hr.mono (by decide)) (by rfl) D2.g D2.F.kp (bdLBasin D2.F) .nil pass0 (pa_cons (pv 1) pa_nil)))
      (pss_cons (ps_set (i := 3) scLaw.nd rfl (.inl rfl) (pe_call G3 (hr.mono (by decide)) (by rfl) D3.g D3.F.kp (bdLRights D3.F) .nil pass0 (pa_cons (pv 1) (pa_cons (pv 2) pa_nil))))
      (pss_cons (ps_set (i := 4) scLaw.nd rfl (.inl rfl) (pe_call G4 (hr.mono (by decide)) (by rfl) D4.g D4.F.kp (bdLLed D4.F) .nil pass0 (pa_cons (pv 1) (pa_cons (pv 2) (pa_cons (pv 3) pa_nil)))))
      (pss_cons (ps_set (i := 5) scLaw.nd rfl (.inl rfl) (pe_call G5 (hr.mono (by decide)) (by rfl) D5.g D5.F.kp (bdLLines D5.F) .nil pass0 (pa_cons (pv 2) (pa_cons (pv 3) (pa_cons (pv 4) pa_nil)))))
      (pss_cons (ps_set (i := 6) scLaw.nd rfl (.inl rfl) (pe_join pe_str (pv 5)))
      (pss_cons (ps_if (pw_or (pt_cmpR op_ne (pe_call G6 (hr.mono (by decide)) (by rfl) D6.g D6.F.kp (bdPlanText D6.F) .nil pass0 (pa_cons (pv 2) (pa_cons (pv 3) (pa_cons (pv 4) pa_nil)))) (pv 6) (nomark _))
          (pw_or1 (pt_not (pt_val (pe_callG G8 hgd (hr.mono (by decide)) (by rfl) D8.g D8.F.kp (bdLSame D8.F) (pa_cons (pe_call G7 hr (by rfl) D7.g D7.F.kp (bdParsePlan D7.F) .nil pass0 (pa_cons (pv 2) (pa_cons (pv 3) (pa_cons (pv 6) pa_nil)))) (pa_cons (pv 4) pa_nil))))))).pt (pss_one (ps_ret pe_bl)) pss_nil)
      (pss_cons (ps_set (i := 7) scLaw.nd rfl (.inl rfl) (pe_lst pa_nil))
      (pss_cons (ps_for PassesOwn.never rfl (pi_range1 (by rfl) mR (pa_cons (pe_call G9 (hr.mono (by decide)) (by rfl) D9.g D9.F.kp (bdLDraw D9.F) .nil pass0 (pa_cons (pv 1) (pa_cons pe_int pa_nil))) pa_nil)) (pg_name (i := 8) scLaw.nd rfl (.inl rfl))
        (pss_cons (ps_setLc (i := 9) (own := [("_law_cell_here", 11)]) (g := gName 11) (te := tVar 11) rfl scLaw.nd rfl rfl (sw_true rfl rfl rfl (by decide +kernel)) (pi_list (pe_call G10 (hr.mono (by decide)) (by rfl) D10.g D10.F.kp (bdLCells D10.F) .nil pass0 (pa_cons (pv 2) pa_nil)))
          (blkOk_by (N := nLaw) (sc := defScope sLaw) (by decide +kernel)) (fun _ _ _ _ _ => pg_name (i := 11) scLaw.nd rfl (.inl rfl))
          (fun _ _ _ _ _ => pts_one (pt_cmpR op_eq (pe_call G9 (hr.mono (by decide)) (by rfl) D9.g D9.F.kp (bdLDraw D9.F) .nil pass0 (pa_cons (pv 1) (pa_cons pe_int pa_nil))) pe_int (nomark _)))
          (fun _ _ _ _ _ => pv 11))
        (pss_one (ps_if (pt_cmpR op_gt (pe_callB call_len_seq (by rfl) mL PySem.boot_len (pa_cons (pv 9) pa_nil)) pe_int (nomark _))
          (pss_cons (ps_expr (pe_bm PySem.F.plainAttrs_list PySem.F.slot_list_append PySem.F.type_list_append mt_append (pv 7) (pa_cons (pe_callTy call_tuple_of (by rfl) mT (by decide +kernel) (pa_cons (pv 9) pa_nil)) pa_nil)))
          (pss_one (ps_expr (pe_bm PySem.F.plainAttrs_list PySem.F.slot_list_append PySem.F.type_list_append mt_append (pv 5) (pa_cons
            (pe_op op_add_str pe_str (pe_join pe_str (pe_lc (own := [("_law_s", 12), ("_law_m", 13)]) (g := gTup K 2 (gCons (gName 12) (gCons (gName 13) gNil))) (tt := tYes) rfl scLaw.nd (pi_list (pv 9)) (blkOk_by (N := nLaw) (sc := defScope sLaw) (by decide +kernel))
              (fun _ _ _ _ _ => pg_tup rfl (pgs_cons (pg_name (i := 12) scLaw.nd rfl (.inl rfl)) (pgs_cons (pg_name (i := 13) scLaw.nd rfl (.inl rfl)) pgs_nil))) (fun _ _ _ _ _ => pts_nil)
              (fun _ _ _ _ _ => pe_op op_add_str (pe_op op_add_str (pe_ix (r := rIxT K) ix_tup (pe_ix (r := rIxT K) ix_tup (pe_ix (r := rIxT K) ix_tup (pv 2) pe_int (fun _ _ => rfl)) (pv 12) (fun _ _ => rfl)) pe_int (fun _ _ => rfl)) pe_str)
                (pe_callTy call_str_int (by rfl) mS (by decide +kernel) (pa_cons (pv 13) pa_nil)))))) pa_nil))))) pss_nil))))
      (pss_cons (ps_set (i := 6) scLaw.nd rfl (.inl rfl) (pe_join pe_str (pv 5)))
      (pss_cons (ps_set (i := 10) scLaw.nd rfl (.inl rfl) (pe_tup (pa_cons (pv 4) (pa_cons (pe_callTy call_tuple_of (by rfl) mT (by decide +kernel) (pa_cons (pv 7) pa_nil)) pa_nil))))
      (pss_one (ps_ret (pe_and (pe_cmpR op_eq (pe_call G11 (hr.mono (by decide)) (by rfl) D11.g D11.F.kp (bdCertText D11.F) .nil pass0 (pa_cons (pv 2) (pa_cons (pv 3) (pa_cons (pv 10) pa_nil)))) (pv 6) (nomark _))
        (pe_one (pe_callG G8 hgd (hr.mono (by decide)) (by rfl) D8.g D8.F.kp (bdLSame D8.F) (pa_cons (pe_call G12 hr (by rfl) D12.g D12.F.kp (bdParseCert D12.F) .nil pass0 (pa_cons (pv 2) (pa_cons (pv 3) (pa_cons (pv 6) pa_nil)))) (pa_cons (pv 10) pa_nil))))))))))))))))), ?_⟩
    have lz : (100000 : Nat) ≤ sizeLine := by decide
    have e3 : (("\n" : Str)).length = 1 := by decide +kernel
    refine ⟨_, rfl, a, ns, rfl, hS, fun H1 dg ds k1 n1 e1 => ?_⟩
    refine ⟨by show 2 ≤ sizeLine; decide, fun B hB => ?_⟩
    have kB := (Kx.refl [] H1).laid (o := .lst [.ref dg, .int ((0 : Nat) : Int)]) hB
    have b0 : BoxAt dg (upd H1 B (.lst [.ref dg, .int ((0 : Nat) : Int)])) B := ⟨ds, 0, upd_same, kB.lst0 e1⟩
    refine ⟨_, rfl, B, dg, rfl, b0, fun H2 bv b k2 b2 ba2 bl => ?_⟩
    refine ⟨_, rfl, _, rfl, B, dg, bv, b, rfl, b2, ba2, bl, fun H3 rv rs k3 b3 ra3 rl => ?_⟩
    refine ⟨_, rfl, _, rfl, _, rfl, B, dg, bv, rv, b, rs, rfl, b3, k3.basin ba2, ra3, bl, rl, fun H4 pvl p k4 b4 pa4 pok => ?_⟩
    have bok := bl.ok
    have rok := rl.ok
    have ls4 : LS B dg bv rv pvl b rs p T1 T2 H4 := ⟨b4, k4.basin (k3.basin ba2), k4.rights ra3, pa4, k4.tabG (k3.tabG (k2.tabG (kB.tabG (k1.tabG hT1)))), k4.tabG (k3.tabG (k2.tabG (kB.tabG (k1.tabG hT2))))⟩
    refine ⟨_, rfl, _, rfl, _, rfl, bv, rv, pvl, b, rs, p, rfl, ls4.ba, ls4.ra, ls4.pa, bok, rok, pok, fun H5 Ln k5 nL eL => ?_⟩
    have ls5 := ls4.mv0 k5
    have nLB : Ln ≠ B := fun z => ls4.bx.some (by rw [← z]; exact nL)
    have nLg : Ln ≠ dg := fun z => ls4.bx.someD (by rw [← z]; exact nL)
    have pl := planLines_len pok
    have hn4 := bok.n4
    have hr4 := rok.n4
    have hm4 := bok.m4
    have pshort := sum_short (lines_short bok rok pok)
    refine ⟨⟨_, rfl⟩, _, rfl, _, Ln, _, rfl, rfl, .inl (SqL.of eL), by rw [e3]; omega, ?_⟩
    refine ⟨_, rfl, _, rfl, _, rfl, bv, rv, pvl, b, rs, p, rfl, ls5.ba, ls5.ra, ls5.pa, bok, rok, pok, fun H6 k6 => ⟨_, rfl, rfl, _, rfl, iteNd rfl ?_⟩⟩
    have ls6 := ls5.mv0 k6
    refine ⟨_, rfl, _, rfl, _, rfl, bv, rv, b, rs, p, rfl, ls6.ba, ls6.ra, bok, rok, pok, ls6.t1, ls6.t2, fun H7 v7 k7 pa7 => ?_⟩
    have ls7 := ls6.mv0 k7
    obtain ⟨a7, r7⟩ : ∃ a7, v7 = .ref a7 := by obtain ⟨a7, _, _, _, e, _⟩ := pa7; exact ⟨a7, e⟩
    obtain ⟨ap, rp⟩ : ∃ ap, pvl = .ref ap := by obtain ⟨ap, _, _, _, e, _⟩ := pa4; exact ⟨ap, e⟩
    subst r7 rp
    have smp := sm_plan (D := 0) bok rok pok
    refine ⟨_, rfl, a7, ap, planD p, rfl, pa7.dp, ls7.pa.dp, smp.s, smp.n, smp.short (by decide), Nat.le_trans smp.k (by decide), _, rfl, iteF ?_⟩
    -- the regions
    refine ⟨Nat.zero_le _, fun G hG => ?_⟩
    have kG := (Kx.refl [] H7).laid (o := .lst []) hG
    have ls8 := ls7.mv0 kG
    have nGB : G ≠ B := fun z => ls7.bx.some (by rw [← z]; exact hG)
    have nGg : G ≠ dg := fun z => ls7.bx.someD (by rw [← z]; exact hG)
    have eL7 := (k6.trans k7).lst0 eL
    have nGL : G ≠ Ln := fun z => by
      rw [z, eL7] at hG
      cases hG
    have eL8 := kG.lst0 eL7
    refine ⟨_, rfl, B, dg, 4, rfl, ls8.bx, by decide, fun H9 r k9 b9 r0 r1 => ?_⟩
    obtain ⟨nn, rfl⟩ : ∃ nn : Nat, r = (nn : Nat) := ⟨r.toNat, by omega⟩
    have ls9 := ls8.dr k9 b9
    refine ⟨_, rfl, by omega, by omega, ?_⟩
    rw [Int.toNat_natCast]
    have nn4 : nn < 4 := by omega
    refine for_range (lo := 0) (n := nn) (fun i σ H' => LS B dg bv rv (.ref ap) b rs p T1 T2 H' ∧ ∃ (gs : List (List Cell)) (y6 y8 y9 : Option V), StrsL H' Ln (planLines b rs p ++ gs.map (regS b)) ∧ ListR RegAt H' G gs ∧ gs.length ≤ i ∧ (∀ r ∈ gs, RegOk b r) ∧
        σ = [some (.ref a), some (.ref B), some bv, some rv, some (.ref ap), some (.ref Ln), y6, some (.ref G), y8, y9, none, none, none, none])
      ⟨ls9, [], _, none, none, by rw [List.map_nil, List.append_nil]; exact k9.lst (by simpa using nLB) eL8, ⟨[], k9.lst (by simpa using nGB) upd_same, .nil⟩, Nat.le_refl _, by simp, rfl⟩ (fun i σ H' hi hP => ?_) (fun σ H' hP => ?_)
    · obtain ⟨ls, gs, y6, y8, y9, eLn, hGs, gl, gok, rfl⟩ := hP
      refine ⟨_, rfl, bv, b, rfl, ls.ba, hm4, hn4, fun Hc cA kc nc hC => ?_⟩
      obtain ⟨cxs, ecA, pcA⟩ := hC
      have lsc := ls.mv0 kc
      have ncB : cA ≠ B := fun z => ls.bx.some (by rw [← z]; exact nc)
      have lc : cxs.length ≤ 16 := by
        have h1 := pcA.length
        have h2 : (cellsOf b).length = b.months * b.sites.length := cellsTo_len _ _
        have h3 : b.months * b.sites.length ≤ 4 * 4 := Nat.mul_le_mul hm4 hn4
        omega
      refine ⟨cA, rfl, ⟨_, SqL.of ecA⟩, fun Dd hDd => ?_⟩
      have nDB : Dd ≠ B := fun z => lsc.bx.some (by rw [← z]; exact hDd)
      have nDg : Dd ≠ dg := fun z => lsc.bx.someD (by rw [← z]; exact hDd)
      refine lc_list (xs := cxs) (fun j H2 => Kx [B] Hc H2 ∧ BoxAt dg H2 B ∧ ∃ (rx : List V) (rg : List Cell), H2 Dd = some (.lst rx) ∧ Paired (CellAt H2) rx rg ∧ rg.Sublist ((cellsOf b).take j))
        ⟨(Kx.refl _ _).laid hDd, lsc.bx.kx0 ((Kx.refl _ _).laid hDd), [], [], upd_same, .nil, by simp⟩ (fun j H2 _ hP => SqL.of (hP.1.lst (by simpa using ncB) ecA)) (fun j x H2 hx hP => ?_) (fun H2 hP => ?_)
      · obtain ⟨kx, bx, rx, rg, eD, pr, sub⟩ := hP
        obtain ⟨cl, hcl, hca⟩ := pgetL pcA hx
        refine ⟨rfl, ?_⟩
        refine ⟨_, rfl, B, dg, 2, rfl, bx, by decide, fun H3 r3 k3 b3 r30 r31 => ⟨rfl, _, rfl, ite2 (fun e => ?_) (fun e => ?_)⟩⟩
        · have eD3 := k3.lst (p := Dd) (by simpa using nDB) eD
          have lr : rx.length ≤ 16 := by
            have h1 := pr.length
            have h2 := sub.length_le
            rw [List.length_take] at h2
            have h3 := pcA.length
            omega
          have kD := kup (ys := rx ++ [x]) eD3
          refine ⟨_, rfl, rx, eD3, small1000 (by omega), (kx.trans k3).new hDd, b3.kx kD (by simpa using nDB.symm) (by simpa using nDg.symm), rx ++ [x], rg ++ [cl], upd_same, papp (pr.mono fun _ _ z => kD.cell (k3.cell z)) (.cons (kD.cell ((kx.trans k3).cell hca)) .nil), ?_⟩
          rw [List.take_add_one, hcl]
          exact sub.append (List.Sublist.refl _)
        · refine ⟨kx.trans k3, b3, rx, rg, k3.lst (by simpa using nDB) eD, pr.mono fun _ _ z => k3.cell z, ?_⟩
          rw [List.take_add_one]
          exact sub.trans (List.sublist_append_left _ _)
      · obtain ⟨kx, bx, rx, rg, eD, pr, sub⟩ := hP
        have lr := pr.length
        have sub : rg.Sublist (cellsOf b) := sub.trans (List.take_sublist _ _)
        have ls2 := lsc.dr kx bx
        have eLn2 := kx.lst (p := Ln) (by simpa using nLB) (kc.lst0 eLn)
        have hGs2 := (hGs.kx stb_reg kc).move (S := [B]) (by simpa using nGB) kx fun _ _ z => kx.reg z
        refine ⟨_, rfl, Dd, rx, rfl, .inl (SqL.of eD), _, _, rfl, rfl, _, rfl, ite2 (fun e => ?_) (fun e => ?_)⟩
        · have ne : rg ≠ [] := fun z => by
            have := of_decide_eq_true e
            rw [lr, z] at this
            simp at this
          have rgok := reg_of bok sub ne
          have rgc := rgok.cin
          have eG2 := hGs2.choose_spec.1
          refine ⟨.ref G, rfl, .inl ⟨rfl, _, SqL.of eG2⟩, _, rfl, Dd, rx, rfl, .inl ⟨SqL.of eD, fun T hT => ?_⟩⟩
          have kT := (Kx.refl [] H2).laid (o := .tup rx) hT
          obtain ⟨gxs, d1, d2, d3⟩ := hGs2.snoc stb_reg (v := .ref T) (y := rg) kT ⟨T, rx, rfl, upd_same, pr.mono fun _ _ z => kT.cell z⟩
          refine ⟨G, gxs, _, rfl, rfl, d1, small1000 (by omega), ?_⟩
          have kG2 : Kx [G] (upd H2 T (.tup rx)) (upd (upd H2 T (.tup rx)) G (.lst (gxs ++ [.ref T]))) := kup d1
          have ls3 := (ls2.mv0 kT).mv kG2 (by simpa using nGB.symm) (by simpa using nGg.symm)
          have eLn3 := kG2.lst (p := Ln) (by simpa using nGL.symm) (kT.lst0 eLn2)
          have nDG : Dd ≠ G := fun z => by
            have h1 := hGs.kx stb_reg kc
            obtain ⟨_, h1, _⟩ := h1
            rw [z, h1] at hDd
            cases hDd
          have eD3 := kG2.lst (p := Dd) (by simpa using nDG) (kT.lst0 eD)
          have pr3 : Paired (CellAt (upd (upd H2 T (.tup rx)) G (.lst (gxs ++ [.ref T])))) rx rg := pr.mono fun _ _ z => kG2.cell (kT.cell z)
          generalize upd (upd H2 T (.tup rx)) G (.lst (gxs ++ [.ref T])) = Hq at ls3 eLn3 eD3 pr3 d3 ⊢
          have hb3 := ls3.ba
          obtain ⟨ba, bx1, rbv, hba, bc, bys, rfl, hbc, hbp⟩ := hb3
          subst rbv
          refine ⟨.ref Ln, rfl, .inl ⟨rfl, _, SqL.of eLn3⟩, ⟨_, rfl⟩, _, rfl, Dd, rfl, ⟨_, SqL.of eD3⟩, fun Ee hE => ?_⟩
          refine lc_list (xs := rx) (fun j H4 => Kx [] Hq H4 ∧ StrsL H4 Ee ((rg.take j).map (cellS b))) ⟨(Kx.refl _ _).laid hE, upd_same⟩ (fun j H4 _ hP => SqL.of (hP.1.lst0 eD3)) (fun j x H4 hx hP => ?_) (fun H4 hP => ?_)
          · obtain ⟨k4, eE⟩ := hP
            obtain ⟨cl, hcl, ca, rfl, hca⟩ := pgetL pr3 hx
            have hm := List.mem_of_getElem? hcl
            have h1 := rgc.s cl hm
            have h2 := rgc.m cl hm
            obtain ⟨sv, hsv, sa, sf, rfl, hsa, _⟩ := pget hbp (List.getElem?_eq_getElem h1)
            have en : nameAt b cl.1 = (b.sites[cl.1]).name := nameAt_of (List.getElem?_eq_getElem h1)
            have nok := nameAt_ok bok h1
            rw [en] at nok
            have nhi := nok.hi
            have nl := numS_len (i := ((cl.2 : Nat) : Int)) (by omega) (by omega)
            have e5 : (("/" : Str)).length = 1 := by decide +kernel
            refine ⟨ca, _, rfl, SqT.of (k4.tu _ _ hca), rfl, _, _, rfl, _, _, rfl, rfl, rfl, ?_⟩
            refine ⟨_, rfl, ba, _, 1, _, rfl, rfl, SqT.of (k4.tu _ _ hba), atI_nat (j := 1) rfl, _, rfl, bc, bys, _, _, rfl, rfl, SqT.of (k4.tu _ _ hbc), atI_nat hsv, sa, _, 0, _, rfl, rfl, SqT.of (k4.tu _ _ hsa), atI_nat (j := 0) rfl, _, _, rfl, rfl, by omega, _, rfl, ((cl.2 : Nat) : Int), rfl, log_small (by omega) (by omega), _, _, rfl, rfl, ?_, ?_⟩
            · have e6 : (Str.ofString (toString ((cl.2 : Nat) : Int))).length ≤ 4 := nl.2
              rw [len_app]
              omega
            · refine ⟨_, eE, ?_, k4.new hE, ?_⟩
              · rw [List.length_map, List.length_map, List.length_take]
                have := rgc.n
                exact small1000 (by omega)
              · have e9 : (b.sites[cl.1]).name ++ ("/" : Str) ++ Str.ofString (toString ((cl.2 : Nat) : Int)) = cellS b cl := by
                  rw [← en]
                  rfl
                rw [e9, List.take_add_one, hcl, StrsL, upd_same, List.map_append, List.map_append]
                rfl
          · rw [pr3.length, List.take_length] at hP
            obtain ⟨k4, eE⟩ := hP
            have cshort : ∀ p ∈ rg.map (cellS b), p.length ≤ 11 := by
              intro p hp
              obtain ⟨cl, hcl, rfl⟩ := List.mem_map.mp hp
              exact cellS_len bok (rgc.s cl hcl) (rgc.m cl hcl)
            have sm := sum_short cshort
            have rn := rgc.n
            rw [List.length_map] at sm
            have e5 : ((" " : Str)).length = 1 := by decide +kernel
            refine ⟨_, Ee, _, rfl, rfl, .inl (SqL.of eE), by rw [e5, List.length_map]; omega, ?_⟩
            have e6 : (("region " : Str)).length = 7 := by decide +kernel
            have js := join_short (y := sSp) cshort
            rw [List.length_map, len_sp] at js
            refine ⟨_, _, rfl, rfl, ?_, Ln, _, _, rfl, rfl, k4.lst0 eLn3, ?_, ?_⟩
            · show ("region " : Str).length + (Txt.join sSp (rg.map (cellS b))).length ≤ sizeLine
              omega
            · rw [List.length_map, List.length_append, List.length_map, pl]
              exact small1000 (by omega)
            · have eLn4 := k4.lst0 eLn3
              have kF := kup (ys := (planLines b rs p ++ gs.map (regS b)).map V.str ++ [V.str (("region " : Str) ++ Txt.join sSp (rg.map (cellS b)))]) eLn4
              refine ⟨(ls3.mv0 k4).mv kF (by simpa using nLB.symm) (by simpa using nLg.symm), gs ++ [rg], _, _, _, ?_, ((d3.kx stb_reg k4).move (S := [Ln]) (by simpa using nGL) kF fun _ _ z => kF.reg z), ?_, ?_, rfl⟩
              · have e9 : ("region " : Str) ++ Txt.join (" " : Str) (rg.map (cellS b)) = regS b rg := reg_law ne
                rw [e9, StrsL, upd_same, List.map_append (l₁ := gs), ← List.append_assoc, List.map_append (l₁ := planLines b rs p ++ gs.map (regS b))]
                rfl
              · rw [List.length_append]
                show gs.length + 1 ≤ i + 1
                omega
              · intro r hr
                rcases List.mem_append.mp hr with hr | hr
                · exact gok r hr
                · rw [List.mem_singleton.mp hr]
                  exact rgok
        · exact ⟨ls2, gs, _, _, _, eLn2, hGs2, by omega, gok, rfl⟩
    · obtain ⟨ls, gs, y6, y8, y9, eLn, hGs, gl, gok, rfl⟩ := hP
      have gin : ∀ r ∈ gs, CellsIn b r := fun r hr => (gok r hr).cin
      have g4 : gs.length ≤ 4 := by omega
      have shrt : ∀ l ∈ planLines b rs p ++ gs.map (regS b), l.length ≤ 300 := by
        intro l hl
        rcases List.mem_append.mp hl with hl | hl
        · have := lines_short bok rok pok l hl
          omega
        · obtain ⟨r, hr3, rfl⟩ := List.mem_map.mp hl
          exact reg_short bok (gin r hr3)
      have sm := sum_short shrt
      have e4 : (planLines b rs p ++ gs.map (regS b)).length ≤ 20 := by
        rw [List.length_append, List.length_map, pl]
        omega
      refine ⟨⟨_, rfl⟩, _, rfl, _, Ln, _, rfl, rfl, .inl (SqL.of eLn), by rw [e3]; omega, ?_⟩
      obtain ⟨gxs, eG, pG⟩ := hGs
      refine ⟨_, rfl, _, rfl, G, gxs, rfl, .inl ⟨SqL.of eG, fun T hT => ?_⟩⟩
      have kT := (Kx.refl [] H').laid (o := .tup gxs) hT
      refine ⟨by show 2 ≤ sizeLine; decide, fun U hU => ?_⟩
      have kU := (Kx.refl [] (upd H' T (.tup gxs))).laid (o := .tup [.ref ap, .ref T]) hU
      have kTU := kT.trans kU
      have lsU := ls.mv0 kTU
      have gAt : RegsAt (upd (upd H' T (.tup gxs)) U (.tup [.ref ap, .ref T])) (.ref T) gs := ⟨T, gxs, rfl, kU.tu _ _ upd_same, pG.mono fun _ _ z => kTU.reg z⟩
      have eU : upd (upd H' T (.tup gxs)) U (.tup [.ref ap, .ref T]) U = some (.tup [.ref ap, .ref T]) := upd_same
      refine ⟨_, rfl, _, rfl, _, rfl, bv, rv, .ref U, b, rs, p, gs, U, .ref ap, .ref T, rfl, lsU.ba, lsU.ra, rfl, eU, lsU.pa, gAt, bok, rok, pok, gin, g4, fun Hy ky => ?_⟩
      refine ⟨_, rfl, rfl, _, rfl, iteD rfl ?_⟩
      have lsy := lsU.mv0 ky
      refine ⟨_, rfl, _, rfl, _, rfl, bv, rv, b, rs, p, gs, rfl, lsy.ba, lsy.ra, bok, rok, pok, gok, g4, lsy.t1, lsy.t2, fun Hz az xz yz kz ez paz gaz => ?_⟩
      have smc := sm_cert bok rok pok gin g4
      have kyz := ky.trans kz
      exact ⟨_, rfl, az, U, .tuple [planD p, regsD gs], rfl, .tup (SqT.of ez) (.cons paz.dp (.cons (regs_dp gaz) .nil)), .tup (SqT.of (kyz.tu _ _ eU)) (.cons (lsy.mv0 kz).pa.dp (.cons (regs_dp (kyz.regs gAt)) .nil)), smc.s, smc.n, smc.short (by decide), Nat.le_trans smc.k (by decide), q _⟩
end
end K15
set_option Elab.async false
set_option linter.all false
set_option maxRecDepth 100000
set_option maxHeartbeats 4000000
/-! the end: the script is read only, two tables of code objects may grow; no repr runs around -/
namespace K15
open PySem PySem.Spec PyProof.Rows L2
/-- what is tracked at the law's entry -/
def endH (K : PySem.W.Frag) (ts : List Addr) (a : Addr) (o : Obj) (xs : List V) : Hp := fun b => if b ∈ ts then some (.tbl #[]) else if b = a ∧ K.lookup a = none then some (.frz o (.lst xs)) else none
section
variable {K : PySem.W.Frag} {ts : List Addr} {a b : Addr} {o : Obj} {xs : List V} {u : HO}
theorem endH_tab (h : b ∈ ts) : endH K ts a o xs b = some (.tbl #[]) := if_pos h
theorem endH_some (h : endH K ts a o xs b = some u) : (b ∈ ts ∧ u = .tbl #[]) ∨ (b = a ∧ K.lookup a = none ∧ u = .frz o (.lst xs)) := by
  unfold endH at h
  split at h
  · rename_i hb
    exact .inl ⟨hb, (Option.some.inj h).symm⟩
  · split at h
    · rename_i hb
      exact .inr ⟨hb.1, hb.2, (Option.some.inj h).symm⟩
    · cases h
theorem endH_none (h1 : b ∉ ts) (h2 : ¬ (b = a ∧ K.lookup a = none)) : endH K ts a o xs b = none := (if_neg h1).trans (if_neg h2)
end
theorem law_end {P : Program} {w : World} {K : PySem.W.Frag} {mg mb : Str → Option Value} {k : Nat} {fa a : Addr} {cs : List (Addr × Addr)} {fd : FuncData} {x : Str} {sp : Sp} {s₁ : Shared} {vs : List Value} {ns : List Int}
    (KX : K.In s₁.heap) (hns : s₁.heap.Ns mainGlobals mg) (hb : s₁.heap.Ns builtinsNs mb) (hbb : ∀ x : Str, x ≠ "__name__" → mb x = bootBuiltins x) (hlim : s₁.heap.NoLimit) (hg : s₁.gens = #[])
    (hT : ∀ p ∈ cs, s₁.heap.get? p.2 = some { cls := .none, data := .fields #[] }) (nT : ∀ p ∈ cs, K.lookup p.2 = none) (C : ∀ p ∈ cs, PySem.W.CodeHd s₁.heap p.1 p.2)
    (hbm : ∃ (bm : Addr) (ob : Obj), mg "__builtins__" = some (.ref bm) ∧ bm ≠ builtinsNs ∧ s₁.heap.get? bm = some ob ∧ ob.cls = .type "module" ∧ ob.dict = some builtinsNs ∧ ob.data = .plain)
    (ha : s₁.heap.get? a = some { cls := .type "list", data := .seq vs.toArray }) (hi : IntsAre vs ns) (hl : ns.length ≤ sizeLine) (hr : Room k callerA)
    (F : ∀ base : Heap, K.In base → base.Ns mainGlobals mg → (∀ p ∈ cs, GxR.TabB base mg p.1 p.2) → FnG P w K mg base k fa fd [x] sp) (hbind : ∀ (s : Shared) (u : Value), BindsTo s fd ⟨[u], []⟩ [(x, u)])
    (hsp : ∀ H : Hp, (∀ p ∈ cs, H p.2 = some (.tbl #[])) → SqL K H a (ns.map V.int) → sp [.ref a] H (fun v _ => v = .bl true) E0) :
    codeAny (model P w) callerA (.call (.ref fa) ⟨[.ref a], []⟩) (fun r s' => r = .ok (.ret (.bool true)) ∧ OldK s₁.heap s'.heap ∧ s'.os = s₁.os ∧ AllBare s'.gens) s₁ := by
  have rv := vals_ints hi
  obtain ⟨ob, hob⟩ : ∃ ob : Obj, ob = { cls := .type "list", data := .seq vs.toArray } := ⟨_, rfl⟩
  have hln : vs.toArray.toList = vs := by simp
  have tabs : ∀ b ∈ cs.map (·.2), s₁.heap.get? b = some { cls := .none, data := .fields #[] } ∧ K.lookup b = none := fun b hm => by
    obtain ⟨p, hp, rfl⟩ := List.mem_map.mp hm
    exact ⟨hT p hp, nT p hp⟩
  have memT : ∀ p ∈ cs, p.2 ∈ cs.map (·.2) := fun p hp => List.mem_map.mpr ⟨p, hp, rfl⟩
  have aT : a ∉ cs.map (·.2) := fun hm => by
    have e := (tabs a hm).1
    rw [ha] at e
    cases congrArg Obj.data (Option.some.inj e)
  obtain ⟨H, hH⟩ : ∃ H : Hp, H = endH K (cs.map (·.2)) a ob (ns.map V.int) := ⟨_, rfl⟩
  have hHs : ∀ {b : Addr} {u : HO}, H b = some u → (b ∈ cs.map (·.2) ∧ u = .tbl #[]) ∨ (b = a ∧ K.lookup a = none ∧ u = .frz ob (.lst (ns.map V.int))) := fun h => endH_some (by rw [← hH]; exact h)
  have hHt : ∀ p ∈ cs, H p.2 = some (.tbl #[]) := fun p hp => by
    rw [hH]
    exact endH_tab (memT p hp)
  -- the script
  have short : (ns.map V.int).length ≤ sizeLine := by rw [List.length_map]; exact hl
  have script : SqL K H a (ns.map V.int) := by
    cases hk : K.lookup a with
    | some o =>
      have e := KX a o hk
      rw [ha] at e
      cases e
      exact .inr ⟨_, vs.toArray, _, hk, rfl, rfl, rfl, by rw [List.size_toArray, hi.length]; exact hl, by simpa using rv⟩
    | none =>
      refine .inl (.inr ⟨ob, ?_⟩)
      rw [hH]
      unfold endH
      rw [if_neg aT, if_pos ⟨rfl, hk⟩]
  have hok : HOk P w H s₁.heap := fun b u e => by
    rcases hHs e with ⟨h1, rfl⟩ | ⟨rfl, _, rfl⟩
    · exact (tabs b h1).1
    · refine ⟨by rw [hob]; exact ha, short, vs, _, rv, ha⟩
  -- what is not tracked stands in the base
  have free : ∀ {b : Addr} {o : Obj}, s₁.heap.get? b = some o → (∀ n, o.data ≠ .seq vs.toArray n) → o.data ≠ .fields #[] → (hidT s₁.heap H).get? b = some o := fun {b o} e h1 h2 => by
    refine hidT_get e ?_
    cases q : H b with
    | none => rfl
    | some u =>
      exfalso
      rcases hHs q with ⟨h3, _⟩ | ⟨rfl, _, _⟩
      · rw [(tabs b h3).1] at e
        cases e
        exact h2 rfl
      · rw [ha] at e
        cases e
        exact h1 _ rfl
  have space : ∀ {b : Addr} {m : Str → Option Value}, s₁.heap.Ns b m → (hidT s₁.heap H).Ns b m := fun {b m} ⟨o, es, ep, e, d, r⟩ => by
    refine ⟨o, es, ep, free e (fun n z => ?_) (fun z => ?_), d, r⟩
    · rw [d] at z
      cases z
    · rw [d] at z
      cases z
  have kin : K.In (hidT s₁.heap H) := fun b o e => by
    refine hidT_get (KX b o e) ?_
    cases q : H b with
    | none => rfl
    | some u =>
      exfalso
      rcases hHs q with ⟨h3, _⟩ | ⟨rfl, h4, _⟩
      · rw [(tabs b h3).2] at e
        cases e
      · rw [h4] at e
        cases e
  have mod : L2.Mod K mg (hidT s₁.heap H) := by
    obtain ⟨mc, l1, l2⟩ := hlim
    exact ⟨kin, space hns, ⟨mb, space hb, hbb⟩, mc, space l1, l2⟩
  have TB : ∀ p ∈ cs, GxR.TabB (hidT s₁.heap H) mg p.1 p.2 := fun p hp => by
    obtain ⟨og, eg1, eg2, g1, g2, _⟩ := hns
    refine ⟨?_, ?_, fun z => ?_⟩
    · obtain ⟨o, us, file, tf, flags, tg, inF, text, tt, c1, c2, c3, c4, c5⟩ := C p hp
      refine ⟨o, us, file, tf, flags, tg, inF, text, tt, free c1 (fun n z => ?_) (fun z => ?_), c2, c3, c4, c5⟩
      · rw [c3] at z
        cases z
      · rw [c3] at z
        cases z
        simp at c4
    · obtain ⟨bm, om, b1, b2, b3, b4, b5, b6⟩ := hbm
      refine ⟨bm, om, b1, b2, fun z => ?_, fun z => ?_, free b3 (fun n z => ?_) (fun z => ?_), b4, b5, b6⟩
      · rw [z, g1] at b3
        cases b3
        rw [g2] at b6
        cases b6
      · rw [z, hT p hp] at b3
        cases b3
        cases b6
      · rw [b6] at z
        cases z
      · rw [b6] at z
        cases z
    · rw [z, hT p hp] at g1
      cases g1
      cases g2
  have env : Env0 P w K mg (hidT s₁.heap H) callerA [] s₁ H := ⟨rfl, mod, fun b o e => of_hidT e, Nat.le_of_eq (hidT_size _ _), trivial, fun b h => absurd (show b ∈ ([] : List Addr) from h) (by simp), hok, .of_eq hg⟩
  have run := (F _ kin (space hns) TB).runs callerA [] s₁ H ⟨[.ref a], []⟩ [.ref a] [.ref a] (fun v _ => v = .bl true) rfl hr env (hbind s₁ (.ref a)) (.cons rfl .nil) (hsp H hHt script)
  refine codeAny_mono run fun r s' h => ?_
  match r, h with
  | .ok (.ret u), h =>
    obtain ⟨v, H', os, bare, un, hok', hu, q⟩ := h
    have q : v = .bl true := q
    subst q
    have hu : u = Value.bool true := hu
    subst hu
    -- what stood is kept, the tables may have grown
    have grown : ∀ b ∈ cs.map (·.2), ∃ more : Array Value, s'.heap.get? b = some { cls := .none, data := .fields more } := fun b hm => by
      obtain ⟨p, hp, rfl⟩ := List.mem_map.mp hm
      obtain ⟨more, z⟩ := un.tbls p.2 #[] (hHt p hp)
      exact ⟨_, hok' p.2 _ z⟩
    have kept : ∀ b o, b ∉ cs.map (·.2) → s₁.heap.get? b = some o → s'.heap.get? b = some o := fun b o nb e => by
      cases q : H b with
      | none => exact un.keep b o e q (fun z => by cases z) (fun z => by cases z)
      | some u =>
        rcases hHs q with ⟨h1, _⟩ | ⟨rfl, _, rfl⟩
        · exact absurd h1 nb
        · have e1 := (hok _ _ q).1
          have e2 := (hok' _ _ (un.frzs _ _ _ q)).1
          rw [e1] at e
          cases e
          exact e2
    refine ⟨rfl, ⟨fun b o e => ?_, fun b o e => ?_⟩, os, bare⟩
    · by_cases hm : b ∈ cs.map (·.2)
      · obtain ⟨more, z⟩ := grown b hm
        obtain ⟨p, hp, rfl⟩ := List.mem_map.mp hm
        rw [hT p hp] at e
        cases e
        exact .inr (.inl ⟨((C p hp).tab (hT p hp)).isCodeTable, rfl, #[], more, rfl, by rw [Array.empty_append]; exact z⟩)
      · exact .inl (kept b o hm e)
    · by_cases hm : b ∈ cs.map (·.2)
      · obtain ⟨more, z⟩ := grown b hm
        exact ⟨_, z⟩
      · exact ⟨o, kept b o hm e⟩
  | .ok .next, h => exact False.elim h
  | .ok .brk, h => exact False.elim h
  | .ok .cont, h => exact False.elim h
  | .error e, h => exact False.elim h
/-- the law's promise at the head's heap -/
def LawG (l : PySem.W.OpenLaw) (w : World) (K : PySem.W.Frag) (k n : Nat) (x : Str) (mg : Str → Option Value) (fa : Addr) (h : Heap) : Prop :=
  ∃ (fd : FuncData) (cs : List (Addr × Addr)) (sp : Sp), (∀ p ∈ cs, h.get? p.2 = some { cls := .none, data := .fields #[] } ∧ K.lookup p.2 = none ∧ PySem.W.CodeHd h p.1 p.2) ∧ (∀ (s : Shared) (u : Value), BindsTo s fd ⟨[u], []⟩ [(x, u)]) ∧
    (∀ (H : Hp) (a : Addr) (ns : List Int), ns.length ≤ n → (∀ p ∈ cs, H p.2 = some (.tbl #[])) → SqL K H a (ns.map V.int) → sp [.ref a] H (fun v _ => v = .bl true) E0) ∧
    ∀ base : Heap, K.In base → base.Ns mainGlobals mg → (∀ p ∈ cs, GxR.TabB base mg p.1 p.2) → FnG l.prog w K mg base k fa fd [x] sp
theorem walk_end {l : PySem.W.OpenLaw} {n k : Nat} {q : Program} {loose : List Str} {XP : (Str → Option Value) → Heap → Prop} {YP : World → Heap → Prop} {d : DefRec} {x : Str}
    (hn : l.most = some n) (hn2 : n ≤ sizeLine) (hdf : d.params.defaults = []) (hr : Room k callerA)
    (F : ∀ (w : World) (mg : Str → Option Value) (fa : Addr) (h : Heap), YP w h → h.Ns mainGlobals mg → mg d.name = some (.ref fa) → ∃ K : PySem.W.Frag, K.In h ∧ LawG l w K k n x mg fa h) :
    PySem.W.WalkO q loose XP YP l.row.toRowW d [] (fun f vs => PySem.call f vs) :=
  Att.attach_callB hn hdf fun w _ s₁ mg _ fa _ _ _ _ a _ ns G Y _ _ _ hmg hobj hints hlen _ hg => by
    obtain ⟨K, KX, fd, cs, sp, tb, hb, hsp, hF⟩ := F w mg fa _ Y G.T.g hmg
    exact law_end KX G.T.g G.T.b G.T.builtins G.T.nolimit hg (fun p hp => (tb p hp).1) (fun p hp => (tb p hp).2.1) (fun p hp => (tb p hp).2.2) G.T.bmain hobj hints (Nat.le_trans hlen hn2) hr hF hb fun H hH hS => hsp H a ns hlen hH hS
end K15
set_option Elab.async false
set_option linter.all false
set_option maxRecDepth 100000
set_option maxHeartbeats 4000000
/-! the head's facts, the promises joined -/
namespace K15
open PySem PySem.Spec PyProof.Rows L2
def mkDef (x : Str) (st : Stmt) : He.DefD := ⟨(x, none), x, x, defArgs st, defBody st, defScope st, [], []⟩
def hdFn : List He.DefD := [mkDef "site_number" sSiteNumber, mkDef "cells" sCells, mkDef "check" sCheck, mkDef "number_of" sNumberOf, mkDef "heads" sHeads, mkDef "rows_of" sRowsOf, mkDef "plan_of" sPlanOf, mkDef "plan_lines" sPlanLines, mkDef "region_line" sRegionLine, mkDef "plan_text" sPlanText, mkDef "certificate_text" sCertText, mkDef "read_row" sReadRow, mkDef "read_cell" sReadCell, mkDef "read_region" sReadRegion, mkDef "read_lines" sReadLines, mkDef "parse_plan" sParsePlan, mkDef "parse_certificate" sParseCert, mkDef "_law_cell" sLCell, mkDef "_law_same" sLSame, mkDef "_law_digits" sLDigits, mkDef "_law_draw" sLDraw, mkDef "_law_pick" sLPick, mkDef "_law_amount" sLAmount, mkDef "_law_basin" sLBasin, mkDef "_law_rights" sLRights, mkDef "_law_cells" sLCells, mkDef "_law_received" sLReceived, mkDef "_law_led" sLLed, mkDef "_law_tuples" sLTuples, mkDef "_law_words" sLWords, mkDef "_law_lines" sLLines, mkDef "law" sLaw]
def hdFa1 : List He.Fa := [.glo "site_number", .glo "cells", .glo "check", .glo "number_of", .glo "heads", .glo "rows_of", .glo "plan_of", .glo "plan_lines", .glo "region_line", .glo "plan_text", .glo "certificate_text", .glo "read_row", .glo "read_cell", .glo "read_region", .glo "read_lines", .glo "parse_plan", .glo "parse_certificate", .glo "_law_cell", .glo "_law_same", .glo "_law_digits", .glo "_law_draw", .glo "_law_pick", .glo "_law_amount", .glo "_law_basin"]
def hdFa2 : List He.Fa := [.glo "_law_rights", .glo "_law_cells", .glo "_law_received", .glo "_law_led", .glo "_law_tuples", .glo "_law_words", .glo "_law_lines", .glo "law", .free "enumerate", .free "range", .free "len", .free "zip", .free "str", .free "int", .free "tuple", .free "all", .free "repr", .free "min", .int "NAME" 0, .str "DIGITS" sDig, .int "NUMBER_DIGITS" 4, .str "REGION" wRegion]
def hdFa : List He.Fa := hdFa1 ++ hdFa2
def hdTf : List He.Defn := [("number_of", none), ("read_region", none)]
abbrev hdEx : PySem.W.Frag → Bool := fun _ => true
/-- the code object of a def that stands in K, by the head's own look at it -/
theorem code_at {K : PySem.W.Frag} {x : Str} {st : Stmt} {fd : FuncData} (F : FnP K x st (He.fAd K (x, none)) fd) : fd.code = .ref (He.cT K (x, none)).1 := by
  obtain ⟨oc, od, dV, kV, doc, pm, an, cdv, ct, osl, rfl, lk, hcd, _, _⟩ := F.ex
  obtain ⟨c, rfl⟩ := He.codeIn_ref hcd
  show Value.ref c = .ref (He.codeOf K (x, none))
  rw [He.codeOf_eq lk rfl]
theorem hd_facts {P : Program} {w : World} {K : PySem.W.Frag} {h : Heap} {mg : Str → Option Value} {f : Addr} (X : K.In h) (G : h.Ns mainGlobals mg) (hfa : mg ("law" : Str) = some (.ref f)) (c : He.SaysX hdFa hdFn [] hdTf hdEx w h K) :
    ∃ fd : FuncData, (∀ (s : Shared) (u : Value), BindsTo s fd ⟨[u], []⟩ [("_law_script", u)]) ∧ ∀ base : Heap, GxR.TabB base mg (He.cT K ("number_of", none)).1 (He.cT K ("number_of", none)).2 → GxR.TabB base mg (He.cT K ("read_region", none)).1 (He.cT K ("read_region", none)).2 →
      FnG P w K mg base 7 f fd ["_law_script"] (spLaw K (He.cT K ("number_of", none)).2 (He.cT K ("read_region", none)).2) := by
  have cd := c.t.d
  obtain ⟨fd0, F0⟩ := cd.def_ 0 (d := mkDef "site_number" sSiteNumber) rfl
  have D0 : Df K mg "site_number" sSiteNumber (He.fAd K ("site_number", none)) fd0 := ⟨F0, He.glo_ok X G (cd.fact 0 (f := .glo "site_number") rfl)⟩
  obtain ⟨fd1, F1⟩ := cd.def_ 1 (d := mkDef "cells" sCells) rfl
  have D1 : Df K mg "cells" sCells (He.fAd K ("cells", none)) fd1 := ⟨F1, He.glo_ok X G (cd.fact 1 (f := .glo "cells") rfl)⟩
  obtain ⟨fd2, F2⟩ := cd.def_ 2 (d := mkDef "check" sCheck) rfl
  have D2 : Df K mg "check" sCheck (He.fAd K ("check", none)) fd2 := ⟨F2, He.glo_ok X G (cd.fact 2 (f := .glo "check") rfl)⟩
  obtain ⟨fd3, F3⟩ := cd.def_ 3 (d := mkDef "number_of" sNumberOf) rfl
  have D3 : Df K mg "number_of" sNumberOf (He.fAd K ("number_of", none)) fd3 := ⟨F3, He.glo_ok X G (cd.fact 3 (f := .glo "number_of") rfl)⟩
  obtain ⟨fd4, F4⟩ := cd.def_ 4 (d := mkDef "heads" sHeads) rfl
  have D4 : Df K mg "heads" sHeads (He.fAd K ("heads", none)) fd4 := ⟨F4, He.glo_ok X G (cd.fact 4 (f := .glo "heads") rfl)⟩
  obtain ⟨fd5, F5⟩ := cd.def_ 5 (d := mkDef "rows_of" sRowsOf) rfl
  have D5 : Df K mg "rows_of" sRowsOf (He.fAd K ("rows_of", none)) fd5 := ⟨F5, He.glo_ok X G (cd.fact 5 (f := .glo "rows_of") rfl)⟩
  obtain ⟨fd6, F6⟩ := cd.def_ 6 (d := mkDef "plan_of" sPlanOf) rfl
  have D6 : Df K mg "plan_of" sPlanOf (He.fAd K ("plan_of", none)) fd6 := ⟨F6, He.glo_ok X G (cd.fact 6 (f := .glo "plan_of") rfl)⟩
  obtain ⟨fd7, F7⟩ := cd.def_ 7 (d := mkDef "plan_lines" sPlanLines) rfl
  have D7 : Df K mg "plan_lines" sPlanLines (He.fAd K ("plan_lines", none)) fd7 := ⟨F7, He.glo_ok X G (cd.fact 7 (f := .glo "plan_lines") rfl)⟩
  obtain ⟨fd8, F8⟩ := cd.def_ 8 (d := mkDef "region_line" sRegionLine) rfl
  have D8 : Df K mg "region_line" sRegionLine (He.fAd K ("region_line", none)) fd8 := ⟨F8, He.glo_ok X G (cd.fact 8 (f := .glo "region_line") rfl)⟩
  obtain ⟨fd9, F9⟩ := cd.def_ 9 (d := mkDef "plan_text" sPlanText) rfl
  have D9 : Df K mg "plan_text" sPlanText (He.fAd K ("plan_text", none)) fd9 := ⟨F9, He.glo_ok X G (cd.fact 9 (f := .glo "plan_text") rfl)⟩
  obtain ⟨fd10, F10⟩ := cd.def_ 10 (d := mkDef "certificate_text" sCertText) rfl
  have D10 : Df K mg "certificate_text" sCertText (He.fAd K ("certificate_text", none)) fd10 := ⟨F10, He.glo_ok X G (cd.fact 10 (f := .glo "certificate_text") rfl)⟩
  obtain ⟨fd11, F11⟩ := cd.def_ 11 (d := mkDef "read_row" sReadRow) rfl
  have D11 : Df K mg "read_row" sReadRow (He.fAd K ("read_row", none)) fd11 := ⟨F11, He.glo_ok X G (cd.fact 11 (f := .glo "read_row") rfl)⟩
  obtain ⟨fd12, F12⟩ := cd.def_ 12 (d := mkDef "read_cell" sReadCell) rfl
  have D12 : Df K mg "read_cell" sReadCell (He.fAd K ("read_cell", none)) fd12 := ⟨F12, He.glo_ok X G (cd.fact 12 (f := .glo "read_cell") rfl)⟩
  obtain ⟨fd13, F13⟩ := cd.def_ 13 (d := mkDef "read_region" sReadRegion) rfl
  have D13 : Df K mg "read_region" sReadRegion (He.fAd K ("read_region", none)) fd13 := ⟨F13, He.glo_ok X G (cd.fact 13 (f := .glo "read_region") rfl)⟩
  obtain ⟨fd14, F14⟩ := cd.def_ 14 (d := mkDef "read_lines" sReadLines) rfl
  have D14 : Df K mg "read_lines" sReadLines (He.fAd K ("read_lines", none)) fd14 := ⟨F14, He.glo_ok X G (cd.fact 14 (f := .glo "read_lines") rfl)⟩
  obtain ⟨fd15, F15⟩ := cd.def_ 15 (d := mkDef "parse_plan" sParsePlan) rfl
  have D15 : Df K mg "parse_plan" sParsePlan (He.fAd K ("parse_plan", none)) fd15 := ⟨F15, He.glo_ok X G (cd.fact 15 (f := .glo "parse_plan") rfl)⟩
  obtain ⟨fd16, F16⟩ := cd.def_ 16 (d := mkDef "parse_certificate" sParseCert) rfl
  have D16 : Df K mg "parse_certificate" sParseCert (He.fAd K ("parse_certificate", none)) fd16 := ⟨F16, He.glo_ok X G (cd.fact 16 (f := .glo "parse_certificate") rfl)⟩
  obtain ⟨fd17, F17⟩ := cd.def_ 17 (d := mkDef "_law_cell" sLCell) rfl
  have D17 : Df K mg "_law_cell" sLCell (He.fAd K ("_law_cell", none)) fd17 := ⟨F17, He.glo_ok X G (cd.fact 17 (f := .glo "_law_cell") rfl)⟩
  obtain ⟨fd18, F18⟩ := cd.def_ 18 (d := mkDef "_law_same" sLSame) rfl
  have D18 : Df K mg "_law_same" sLSame (He.fAd K ("_law_same", none)) fd18 := ⟨F18, He.glo_ok X G (cd.fact 18 (f := .glo "_law_same") rfl)⟩
  obtain ⟨fd19, F19⟩ := cd.def_ 19 (d := mkDef "_law_digits" sLDigits) rfl
  have D19 : Df K mg "_law_digits" sLDigits (He.fAd K ("_law_digits", none)) fd19 := ⟨F19, He.glo_ok X G (cd.fact 19 (f := .glo "_law_digits") rfl)⟩
  obtain ⟨fd20, F20⟩ := cd.def_ 20 (d := mkDef "_law_draw" sLDraw) rfl
  have D20 : Df K mg "_law_draw" sLDraw (He.fAd K ("_law_draw", none)) fd20 := ⟨F20, He.glo_ok X G (cd.fact 20 (f := .glo "_law_draw") rfl)⟩
  obtain ⟨fd21, F21⟩ := cd.def_ 21 (d := mkDef "_law_pick" sLPick) rfl
  have D21 : Df K mg "_law_pick" sLPick (He.fAd K ("_law_pick", none)) fd21 := ⟨F21, He.glo_ok X G (cd.fact 21 (f := .glo "_law_pick") rfl)⟩
  obtain ⟨fd22, F22⟩ := cd.def_ 22 (d := mkDef "_law_amount" sLAmount) rfl
  have D22 : Df K mg "_law_amount" sLAmount (He.fAd K ("_law_amount", none)) fd22 := ⟨F22, He.glo_ok X G (cd.fact 22 (f := .glo "_law_amount") rfl)⟩
  obtain ⟨fd23, F23⟩ := cd.def_ 23 (d := mkDef "_law_basin" sLBasin) rfl
  have D23 : Df K mg "_law_basin" sLBasin (He.fAd K ("_law_basin", none)) fd23 := ⟨F23, He.glo_ok X G (cd.fact 23 (f := .glo "_law_basin") rfl)⟩
  obtain ⟨fd24, F24⟩ := cd.def_ 24 (d := mkDef "_law_rights" sLRights) rfl
  have D24 : Df K mg "_law_rights" sLRights (He.fAd K ("_law_rights", none)) fd24 := ⟨F24, He.glo_ok X G (cd.fact 24 (f := .glo "_law_rights") rfl)⟩
  obtain ⟨fd25, F25⟩ := cd.def_ 25 (d := mkDef "_law_cells" sLCells) rfl
  have D25 : Df K mg "_law_cells" sLCells (He.fAd K ("_law_cells", none)) fd25 := ⟨F25, He.glo_ok X G (cd.fact 25 (f := .glo "_law_cells") rfl)⟩
  obtain ⟨fd26, F26⟩ := cd.def_ 26 (d := mkDef "_law_received" sLReceived) rfl
  have D26 : Df K mg "_law_received" sLReceived (He.fAd K ("_law_received", none)) fd26 := ⟨F26, He.glo_ok X G (cd.fact 26 (f := .glo "_law_received") rfl)⟩
  obtain ⟨fd27, F27⟩ := cd.def_ 27 (d := mkDef "_law_led" sLLed) rfl
  have D27 : Df K mg "_law_led" sLLed (He.fAd K ("_law_led", none)) fd27 := ⟨F27, He.glo_ok X G (cd.fact 27 (f := .glo "_law_led") rfl)⟩
  obtain ⟨fd28, F28⟩ := cd.def_ 28 (d := mkDef "_law_tuples" sLTuples) rfl
  have D28 : Df K mg "_law_tuples" sLTuples (He.fAd K ("_law_tuples", none)) fd28 := ⟨F28, He.glo_ok X G (cd.fact 28 (f := .glo "_law_tuples") rfl)⟩
  obtain ⟨fd29, F29⟩ := cd.def_ 29 (d := mkDef "_law_words" sLWords) rfl
  have D29 : Df K mg "_law_words" sLWords (He.fAd K ("_law_words", none)) fd29 := ⟨F29, He.glo_ok X G (cd.fact 29 (f := .glo "_law_words") rfl)⟩
  obtain ⟨fd30, F30⟩ := cd.def_ 30 (d := mkDef "_law_lines" sLLines) rfl
  have D30 : Df K mg "_law_lines" sLLines (He.fAd K ("_law_lines", none)) fd30 := ⟨F30, He.glo_ok X G (cd.fact 30 (f := .glo "_law_lines") rfl)⟩
  obtain ⟨fd31, F31⟩ := cd.def_ 31 (d := mkDef "law" sLaw) rfl
  have D31 : Df K mg "law" sLaw (He.fAd K ("law", none)) fd31 := ⟨F31, He.glo_ok X G (cd.fact 31 (f := .glo "law") rfl)⟩
  have mE : mg "enumerate" = none := He.free_ok X G (cd.fact 32 (f := .free "enumerate") rfl)
  have mR : mg "range" = none := He.free_ok X G (cd.fact 33 (f := .free "range") rfl)
  have mL : mg "len" = none := He.free_ok X G (cd.fact 34 (f := .free "len") rfl)
  have mZ : mg "zip" = none := He.free_ok X G (cd.fact 35 (f := .free "zip") rfl)
  have mS : mg "str" = none := He.free_ok X G (cd.fact 36 (f := .free "str") rfl)
  have mI : mg "int" = none := He.free_ok X G (cd.fact 37 (f := .free "int") rfl)
  have mT : mg "tuple" = none := He.free_ok X G (cd.fact 38 (f := .free "tuple") rfl)
  have mA : mg "all" = none := He.free_ok X G (cd.fact 39 (f := .free "all") rfl)
  have mP : mg "repr" = none := He.free_ok X G (cd.fact 40 (f := .free "repr") rfl)
  have mM : mg "min" = none := He.free_ok X G (cd.fact 41 (f := .free "min") rfl)
  obtain ⟨t1, mN⟩ := He.int_ok X G (cd.fact 42 (f := .int "NAME" 0) rfl)
  obtain ⟨t2, mD⟩ := He.str_ok X G (cd.fact 43 (f := .str "DIGITS" sDig) rfl)
  obtain ⟨t3, m4⟩ := He.int_ok X G (cd.fact 44 (f := .int "NUMBER_DIGITS" 4) rfl)
  obtain ⟨t4, mG⟩ := He.str_ok X G (cd.fact 45 (f := .str "REGION" wRegion) rfl)
  have e := hfa.symm.trans D31.g
  have e : f = He.fAd K ("law", none) := Value.ref.inj (Option.some.inj e)
  subst e
  have bd := FunD.bindsA (ps := ["_law_script"]) D31.F fun _ _ _ _ _ _ us hl => match us, hl with | [_], _ => rfl
  have c1 := code_at D3.F
  have c2 := code_at D13.F
  refine ⟨fd31, fun s u => bd s [u] rfl, fun base TB1 TB2 => ?_⟩
  have gSite : FnOk P w K mg base CX0 1 (He.fAd K ("site_number", none)) fd0 ["basin", "name"] spSite := ok_site D0 mE mN
  have gCells : FnOk P w K mg base CX0 1 (He.fAd K ("cells", none)) fd1 ["basin"] spCells := ok_cells D1 mR mL
  have gNum : FnOk P w K mg base CX0 2 (He.fAd K ("number_of", none)) fd3 ["piece"] (spNum (He.cT K ("number_of", none)).2) := ok_num D3 c1 TB1 D2 mL mA mI mD m4
  have gHeads : FnOk P w K mg base CX0 1 (He.fAd K ("heads", none)) fd4 ["basin", "rights"] spHeads := ok_heads D4 mN
  have gPlanOf : FnOk P w K mg base CX0 1 (He.fAd K ("plan_of", none)) fd6 ["basin", "rights", "rows"] spPlanOf := ok_planOf D6 mT mL
  have gLines : FnOk P w K mg base CX0 2 (He.fAd K ("plan_lines", none)) fd7 ["basin", "rights", "plan"] spLines := ok_lines D7 D4 D5 mN mR mL mZ mS
  have gRegLine : FnOk P w K mg base CX0 1 (He.fAd K ("region_line", none)) fd8 ["basin", "region"] spRegLine := ok_regLine D8 mN mG
  have gPlanText : FnOk P w K mg base CX0 3 (He.fAd K ("plan_text", none)) fd9 ["basin", "rights", "plan"] spPlanText := ok_planText D9 D7 gLines
  have gCertText : FnOk P w K mg base CX0 3 (He.fAd K ("certificate_text", none)) fd10 ["basin", "rights", "certificate"] spCertText := ok_certText D10 D7 gLines D8 gRegLine
  have gReadRow : FnOk P w K mg base CX0 3 (He.fAd K ("read_row", none)) fd11 ["basin", "head", "line"] (spReadRow (He.cT K ("number_of", none)).2) := ok_readRow D11 D2 D3 gNum mL mT
  have gReadCell : FnOk P w K mg base CX0 3 (He.fAd K ("read_cell", none)) fd12 ["basin", "piece"] (spReadCell (He.cT K ("number_of", none)).2) := ok_readCell D12 D2 D3 gNum D0 gSite mL
  have gReadRegion : FnOk P w K mg base CX0 4 (He.fAd K ("read_region", none)) fd13 ["basin", "line"] (spReadRegion (He.cT K ("number_of", none)).2 (He.cT K ("read_region", none)).2) := ok_readRegion D13 c2 TB2 D2 D12 gReadCell D1 gCells mL mA mR mT mG
  have gReadLines : FnOk P w K mg base CX0 5 (He.fAd K ("read_lines", none)) fd14 ["basin", "rights", "lines"] (spReadLines (He.cT K ("number_of", none)).2 (He.cT K ("read_region", none)).2) := ok_readLines D14 D4 gHeads D11 gReadRow D13 gReadRegion mL mE
  have gParsePlan : FnOk P w K mg base CX0 6 (He.fAd K ("parse_plan", none)) fd15 ["basin", "rights", "text"] (spParsePlan (He.cT K ("number_of", none)).2 (He.cT K ("read_region", none)).2) := ok_parsePlan D15 D4 gHeads D14 gReadLines D6 gPlanOf mL
  have gParseCert : FnOk P w K mg base CX0 6 (He.fAd K ("parse_certificate", none)) fd16 ["basin", "rights", "text"] (spParseCert (He.cT K ("number_of", none)).2 (He.cT K ("read_region", none)).2) := ok_parseCert D16 D14 gReadLines D6 gPlanOf mT
  have gLCell : FnOk P w K mg base CX0 1 (He.fAd K ("_law_cell", none)) fd17 ["_law_script", "_law_k"] (spLCell K) := ok_lcell D17 mL
  have gDraw : FnOk P w K mg base CX0 1 (He.fAd K ("_law_draw", none)) fd20 ["_law_box", "_law_many"] spDraw := ok_draw D20 mL mI
  have gSame : FnG P w K mg base 1 (He.fAd K ("_law_same", none)) fd18 ["_law_actual", "_law_due"] (spSame K) := ok_same D18 mP
  have gDigits : FnOk P w K mg base CX0 2 (He.fAd K ("_law_digits", none)) fd19 ["_law_script", "_law_first", "_law_last"] (spDigits K) := ok_digits D19 D17 gLCell mR mI
  have gLCells : FnOk P w K mg base CX0 1 (He.fAd K ("_law_cells", none)) fd25 ["_law_basin_here"] spCells := ok_lcells D25 mR mL mI
  have gLLines : FnOk P w K mg base CX0 2 (He.fAd K ("_law_lines", none)) fd30 ["_law_basin_here", "_law_rights_here", "_law_plan"] spLines := ok_llines D30 D29 mR mL mS
  have gLed : FnOk P w K mg base CX0 2 (He.fAd K ("_law_led", none)) fd27 ["_law_box", "_law_basin_here", "_law_rights_here"] spLed := ok_led D27 D20 D26 D28 mR mL mI mM mT
  have gRights : FnOk P w K mg base CX0 3 (He.fAd K ("_law_rights", none)) fd24 ["_law_box", "_law_basin_here"] spRights := ok_rights D24 D20 D21 D22 mR mL mI mT
  have gBasin : FnOk P w K mg base CX0 3 (He.fAd K ("_law_basin", none)) fd23 ["_law_box"] spBasin := ok_basin D23 D20 D22 mR mL mI mT
  exact ok_law D31 D19 gDigits D23 gBasin D24 gRights D27 gLed D30 gLLines D9 gPlanText D15 gParsePlan D18 gSame D20 gDraw D25 gLCells D10 gCertText D16 gParseCert mR mL mS mT
end K15
set_option Elab.async false
set_option linter.all false
set_option maxRecDepth 100000
set_option maxHeartbeats 0
/-! the head's run -/
namespace K15
open PySem PySem.Spec PyProof.Rows L2
def loose1 : List Str := ["NAME", "site_number", "cells", "WaterError", "BadPlan", "DIGITS", "NUMBER_DIGITS", "REGION", "NoLine", "check", "number_of", "heads", "rows_of", "plan_of", "plan_lines", "region_line", "plan_text", "certificate_text", "read_row", "read_cell", "read_region", "read_lines", "parse_plan", "parse_certificate"]
def loose2 : List Str := ["_law_is_integer", "_law_cell", "_law_list_is", "_law_same", "_law_digits", "_law_draw", "_law_pick", "_law_amount", "_law_basin", "_law_rights", "_law_number", "_law_claims", "_law_cells", "_law_received", "_law_used", "_law_fault", "_law_given", "_law_led", "_law_tuples", "_law_words", "_law_lines"]
def loose : List Str := loose1 ++ loose2
abbrev rowR : PySem.W.OpenRow := PySem.W.OpenLaw.row PySem.Challenge.rw_heldwater_k15_plans_written
abbrev hkX : PySem.W.Hook := He.hookX 4 hdFa hdFn [] hdTf hdEx
def obX (s : PySem.W.SharedT) : He.AlX := He.obsX 4 hdFa hdFn [] hdTf hdEx (HandSHeadRun.getT s)
theorem obX_eq (s : PySem.W.SharedT) : obX s = hkX.obs s.abs := He.obsX_eq (HandSHeadRun.getT_eq s)
theorem hd_run (w : World) : HandSHeadRun.RunEq rowR (PySem.W.view rowR.prog [49]) hkX obX 4000 loose w := by
  intro os
  kernel_rfl
end K15
set_option Elab.async false
set_option linter.all false
set_option maxRecDepth 100000
set_option maxHeartbeats 0
/-! the law holds -/
open PySem PySem.W PySem.Calls PyProof.Rows
theorem PySem.Challenge.cw_heldwater_k15_plans_written_holds : PySem.Challenge.rw_heldwater_k15_plans_written.Holds := by
  w_on; o_law
  refine HandSHeadRun.head_any (r := OpenLaw.row PySem.Challenge.rw_heldwater_k15_plans_written) (q := view (OpenLaw.row PySem.Challenge.rw_heldwater_k15_plans_written).prog [49]) (H := K15.hkX) (ob := K15.obX) (M := 4000) (loose := K15.loose) (d := HandSHeadRun.topDef (OpenLaw.row PySem.Challenge.rw_heldwater_k15_plans_written).prog 49) (kwd := []) K15.obX_eq
    (by kernel_rfl) (fun s => by kernel_rfl) K15.hd_run (by kernel_rfl) (by kernel_rfl) (by kernel_rfl) (by rfl) (by first | assumption | decide +kernel) (by decide +kernel) ⟨rfl, rfl, rfl, rfl, rfl, by decide +kernel⟩ ?hw ?hc
  case hw => w_witness2
  case hc =>
    refine K15.walk_end (l := PySem.Challenge.rw_heldwater_k15_plans_written) (n := 63) (k := 7) (x := "_law_script") rfl (by decide) (by kernel_rfl) ⟨rfl, by decide, by decide⟩ ?F
    intro w mg fa h Y G hmg0
    obtain ⟨K, KX, c⟩ := Y
    have hmg : mg ("law" : PySem.Str) = some (.ref fa) := by
      have e : (HandSHeadRun.topDef (OpenLaw.row PySem.Challenge.rw_heldwater_k15_plans_written).prog 49).name = ("law" : PySem.Str) := by kernel_rfl
      rw [← e]
      exact hmg0
    obtain ⟨fd, hb, hF⟩ := K15.hd_facts (P := (PySem.Challenge.rw_heldwater_k15_plans_written).prog) (w := w) KX G hmg c
    have m1 : (("number_of", none) : He.Defn) ∈ K15.hdTf := List.mem_cons_self
    have m2 : (("read_region", none) : He.Defn) ∈ K15.hdTf := List.mem_cons_of_mem _ List.mem_cons_self
    have tabG : ∀ {H : L2.Hp} {T : Addr}, H T = some (.tbl #[]) → GxR.TabG H T := fun e => ⟨#[], e, by trivial⟩
    refine ⟨K, KX, fd, [He.cT K ("number_of", none), He.cT K ("read_region", none)], K15.spLaw K (He.cT K ("number_of", none)).2 (He.cT K ("read_region", none)).2, ?_, hb, ?_, ?_⟩
    · intro p hp
      have key : ∀ z ∈ K15.hdTf, h.get? (He.cT K z).2 = some { cls := .none, data := .fields #[] } ∧ K.lookup (He.cT K z).2 = none ∧ CodeHd h (He.cT K z).1 (He.cT K z).2 := fun z hz => ⟨c.empty z hz, c.out z hz, codeHd_of_K KX (c.hd z hz)⟩
      rcases List.mem_cons.mp hp with rfl | hp
      · exact key _ m1
      · rw [List.mem_singleton.mp hp]
        exact key _ m2
    · intro H a ns _ ht hS
      exact ⟨a, ns, rfl, hS, tabG (ht _ List.mem_cons_self), tabG (ht _ (List.mem_cons_of_mem _ List.mem_cons_self)), fun _ => rfl⟩
    · intro base _ _ TB
      exact hF base (TB _ List.mem_cons_self) (TB _ (List.mem_cons_of_mem _ List.mem_cons_self))
