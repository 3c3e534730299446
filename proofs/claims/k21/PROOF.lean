import PyProof.Rows.All
import Wide.All
import OpenK.AllK
import Wide.FinOn
import HandS.ForMost
import HandS.Wide
import HandS.IsInst
import HandS.Conv
import HandS.Style
import HandS.Codes
import HandS.Zip
import HandS.Walk
import HandS.Defaults
import HandS.Strs
import PySem.Challenge.RW_zonewalk_k21_a_machine_told
set_option Elab.async false
set_option linter.all false
set_option maxRecDepth 100000
set_option maxHeartbeats 16000000
/-! Za: the text by places, shapes of the data in the heap, defs and their promises. -/
namespace Zw
open PySem PySem.Spec PyProof.Rows L2

/-! ### the text -/
def top (i : Nat) : Stmt := PySem.Challenge.pw_zonewalk_k21_a_machine_told.main.body.getD i (.Pass ⟨0, 0, 0, 0⟩)
abbrev sWhole : Stmt := top 5
abbrev sOfSigns : Stmt := top 13
abbrev sIsName : Stmt := top 14
abbrev sIsWatch : Stmt := top 15
abbrev sIsSign : Stmt := top 16
abbrev sIsLook : Stmt := top 17
abbrev sIsGuard : Stmt := top 18
abbrev sUnlike : Stmt := top 19
abbrev sOwn : Stmt := top 20
abbrev sDInit : Stmt := inClass (top 21) 0
abbrev sAsks : Stmt := inClass (top 21) 1
abbrev sSets : Stmt := inClass (top 21) 2
abbrev sAreWatches : Stmt := top 22
abbrev sIsRoom : Stmt := top 23
abbrev sAreRooms : Stmt := top 24
abbrev sIsDoor : Stmt := top 25
abbrev sMInit : Stmt := inClass (top 26) 0
abbrev sWatches : Stmt := inClass (top 26) 1
abbrev sRooms : Stmt := inClass (top 26) 2
abbrev sDoors : Stmt := inClass (top 26) 3
abbrev sStay : Stmt := inClass (top 26) 4
abbrev sWNum : Stmt := inClass (top 26) 5
abbrev sCell : Stmt := top 28
abbrev sStream : Stmt := top 29
abbrev sDraws : Stmt := top 30
abbrev sNames : Stmt := top 31
abbrev sLooks : Stmt := top 32
abbrev sLRooms : Stmt := top 33
abbrev sLDoors : Stmt := top 34
abbrev sLDoor : Stmt := top 35
abbrev sSame : Stmt := top 36
abbrev sTells : Stmt := top 37
abbrev sSpoil : Stmt := top 38
abbrev sLaw : Stmt := top 39

/-! ### two lists, item by item -/
structure All2 {α β : Type} (R : α → β → Prop) (xs : List α) (ys : List β) : Prop where
  len : xs.length = ys.length
  at_ : ∀ (i : Nat) (x : α) (y : β), xs[i]? = some x → ys[i]? = some y → R x y
section
variable {α β γ : Type} {R S : α → β → Prop} {xs : List α} {ys : List β}
theorem All2.nil : All2 R [] [] := ⟨rfl, fun i x y h => by simp at h⟩
theorem All2.mono (h : All2 R xs ys) (f : ∀ x y, R x y → S x y) : All2 S xs ys := ⟨h.len, fun i x y a b => f x y (h.at_ i x y a b)⟩
theorem All2.left (h : All2 R xs ys) {i : Nat} {x : α} (e : xs[i]? = some x) : ∃ y, ys[i]? = some y ∧ R x y := by
  have hi : i < ys.length := by rw [← h.len]; exact (List.getElem?_eq_some_iff.mp e).1
  exact ⟨ys[i], List.getElem?_eq_getElem hi, h.at_ i x _ e (List.getElem?_eq_getElem hi)⟩
theorem All2.right (h : All2 R xs ys) {i : Nat} {y : β} (e : ys[i]? = some y) : ∃ x, xs[i]? = some x ∧ R x y := by
  have hi : i < xs.length := by rw [h.len]; exact (List.getElem?_eq_some_iff.mp e).1
  exact ⟨xs[i], List.getElem?_eq_getElem hi, h.at_ i _ y (List.getElem?_eq_getElem hi) e⟩
theorem All2.cons_inv {x : α} {y : β} (h : All2 R (x :: xs) (y :: ys)) : R x y ∧ All2 R xs ys :=
  ⟨h.at_ 0 x y rfl rfl, Nat.succ.inj h.len, fun i a b p q => h.at_ (i + 1) a b p q⟩
theorem All2.snoc {x : α} {y : β} (h : All2 R xs ys) (r : R x y) : All2 R (xs ++ [x]) (ys ++ [y]) := by
  refine ⟨by rw [List.length_append, List.length_append, h.len]; rfl, fun i a b p q => ?_⟩
  by_cases hi : i < xs.length
  · rw [List.getElem?_append_left hi] at p
    rw [List.getElem?_append_left (by rw [← h.len]; exact hi)] at q
    exact h.at_ i a b p q
  · rw [List.getElem?_append_right (by omega)] at p
    rw [List.getElem?_append_right (by rw [← h.len]; omega), ← h.len] at q
    cases e : i - xs.length with
    | zero =>
      rw [e] at p q
      cases p
      cases q
      exact r
    | succ j =>
      rw [e] at p
      simp at p
theorem All2.take_snoc {i : Nat} {x : α} {y : β} (h : All2 R xs (ys.take i)) (e : ys[i]? = some y) (r : R x y) : All2 R (xs ++ [x]) (ys.take (i + 1)) := by
  have z : ys.take (i + 1) = ys.take i ++ [y] := by
    rw [List.take_add_one, e]
    rfl
  rw [z]
  exact h.snoc r
theorem All2.mapR {f : β → γ} {S : α → γ → Prop} (h : All2 R xs ys) (g : ∀ x y, R x y → S x (f y)) : All2 S xs (ys.map f) := by
  refine ⟨by rw [h.len, List.length_map], fun i x z p q => ?_⟩
  rw [List.getElem?_map] at q
  cases e : ys[i]? with
  | none =>
    rw [e] at q
    cases q
  | some y =>
    rw [e] at q
    cases q
    exact g x y (h.at_ i x y p e)
theorem All2.ofMap {f : β → α} {R : α → β → Prop} {ys : List β} (h : ∀ y, y ∈ ys → R (f y) y) : All2 R (ys.map f) ys := by
  refine ⟨List.length_map .., fun i x y p q => ?_⟩
  rw [List.getElem?_map, q] at p
  cases p
  exact h y (List.mem_of_getElem? q)
end
theorem get_map {α β : Type} {f : α → β} {xs : List α} {i : Nat} {y : β} (h : (xs.map f)[i]? = some y) : ∃ x, xs[i]? = some x ∧ y = f x := by
  rw [List.getElem?_map] at h
  cases e : xs[i]? with
  | none =>
    rw [e] at h
    cases h
  | some x =>
    rw [e] at h
    exact ⟨x, rfl, (Option.some.inj h).symm⟩
theorem get_map_of {α β : Type} {f : α → β} {xs : List α} {i : Nat} {x : α} (h : xs[i]? = some x) : (xs.map f)[i]? = some (f x) := by
  rw [List.getElem?_map, h]
  rfl
theorem get_lt {α : Type} {xs : List α} {i : Nat} (h : i < xs.length) : ∃ x, xs[i]? = some x := ⟨xs[i], List.getElem?_eq_getElem h⟩
theorem lt_get {α : Type} {xs : List α} {i : Nat} {x : α} (h : xs[i]? = some x) : i < xs.length := (List.getElem?_eq_some_iff.mp h).1
theorem take_map_snoc {α β : Type} {f : α → β} {xs : List α} {i : Nat} {x : α} (h : xs[i]? = some x) : (xs.take (i + 1)).map f = (xs.take i).map f ++ [f x] := by
  rw [List.take_add_one, h, List.map_append]
  rfl

/-! ### the data -/
abbrev Look : Type := Str × Str × Int
structure DoorD where
  st : Str
  en : Str
  gd : List Look
  nt : List Str
  sg : Str
abbrev RoomD : Type := Str × List Look

def vLook (l : Look) : List V := [.str l.1, .str l.2.1, .int l.2.2]
def LookAt (H : Hp) (v : V) (l : Look) : Prop := ∃ a, v = .ref a ∧ H a = some (.tup (vLook l))
def GuardAt (H : Hp) (v : V) (g : List Look) : Prop := ∃ a xs, v = .ref a ∧ H a = some (.lst xs) ∧ All2 (LookAt H) xs g
def StrsAt (H : Hp) (v : V) (ss : List Str) : Prop := ∃ a, v = .ref a ∧ H a = some (.lst (ss.map V.str))
def RoomAt (H : Hp) (v : V) (r : RoomD) : Prop := ∃ a g, v = .ref a ∧ H a = some (.tup [.str r.1, g]) ∧ GuardAt H g r.2
def RoomsAt (H : Hp) (v : V) (rs : List RoomD) : Prop := ∃ a xs, v = .ref a ∧ H a = some (.lst xs) ∧ All2 (RoomAt H) xs rs
def RowAt (H : Hp) (v : V) (d : DoorD) : Prop := ∃ a g b, v = .ref a ∧ H a = some (.tup [.str d.st, .str d.en, g, b, .str d.sg]) ∧ GuardAt H g d.gd ∧ StrsAt H b d.nt
def RowsAt (H : Hp) (v : V) (ds : List DoorD) : Prop := ∃ a xs, v = .ref a ∧ H a = some (.lst xs) ∧ All2 (RowAt H) xs ds
section
variable {H H' : Hp} {v : V}
theorem LookAt.mono {l : Look} (s : Same H H') (h : LookAt H v l) : LookAt H' v l := by
  obtain ⟨a, e, h⟩ := h
  exact ⟨a, e, s _ _ h⟩
theorem GuardAt.mono {g : List Look} (s : Same H H') (h : GuardAt H v g) : GuardAt H' v g := by
  obtain ⟨a, xs, e, h, k⟩ := h
  exact ⟨a, xs, e, s _ _ h, k.mono fun _ _ r => r.mono s⟩
theorem StrsAt.mono {ss : List Str} (s : Same H H') (h : StrsAt H v ss) : StrsAt H' v ss := by
  obtain ⟨a, e, h⟩ := h
  exact ⟨a, e, s _ _ h⟩
theorem RoomAt.mono {r : RoomD} (s : Same H H') (h : RoomAt H v r) : RoomAt H' v r := by
  obtain ⟨a, g, e, h, k⟩ := h
  exact ⟨a, g, e, s _ _ h, k.mono s⟩
theorem RoomsAt.mono {rs : List RoomD} (s : Same H H') (h : RoomsAt H v rs) : RoomsAt H' v rs := by
  obtain ⟨a, xs, e, h, k⟩ := h
  exact ⟨a, xs, e, s _ _ h, k.mono fun _ _ r => r.mono s⟩
theorem RowAt.mono {d : DoorD} (s : Same H H') (h : RowAt H v d) : RowAt H' v d := by
  obtain ⟨a, g, b, e, h, k, j⟩ := h
  exact ⟨a, g, b, e, s _ _ h, k.mono s, j.mono s⟩
theorem RowsAt.mono {ds : List DoorD} (s : Same H H') (h : RowsAt H v ds) : RowsAt H' v ds := by
  obtain ⟨a, xs, e, h, k⟩ := h
  exact ⟨a, xs, e, s _ _ h, k.mono fun _ _ r => r.mono s⟩
end
/-- a new object leaves the rest -/
theorem Same.new {H : Hp} {p : Addr} {o : HO} (h : H p = none) : Same H (upd H p o) := fun b u e => by rw [upd_ne (ne_of_none e h)]; exact e

/-! ### data for == -/
def dLook (l : Look) : PyData := .tuple [.str l.1, .str l.2.1, .int l.2.2]
def dGuard (g : List Look) : PyData := .list (g.map dLook)
def dStrs (ss : List Str) : PyData := .list (ss.map .str)
def dRoom (r : RoomD) : PyData := .tuple [.str r.1, dGuard r.2]
def dRooms (rs : List RoomD) : PyData := .list (rs.map dRoom)
section
variable {K : PySem.W.Frag} {H : Hp} {v : V}
theorem dpAll {α : Type} {f : α → PyData} : ∀ {xs : List V} {ys : List α}, All2 (fun v y => Dp K H v (f y)) xs ys → DpAll K H xs (ys.map f)
  | [], [], _ => .nil
  | [], _ :: _, h => by cases h.len
  | _ :: _, [], h => by cases h.len
  | x :: xs, y :: ys, h => .cons h.cons_inv.1 (dpAll h.cons_inv.2)
theorem LookAt.dp {l : Look} (h : LookAt H v l) : Dp K H v (dLook l) := by
  obtain ⟨a, rfl, h⟩ := h
  exact .tup (SqT.of h) (.cons (.str _) (.cons (.str _) (.cons (.int _) .nil)))
theorem GuardAt.dp {g : List Look} (h : GuardAt H v g) : Dp K H v (dGuard g) := by
  obtain ⟨a, xs, rfl, h, k⟩ := h
  exact .lst (SqL.of h) (dpAll (k.mono fun _ _ r => r.dp))
theorem dp_strs {a : Addr} {ss : List Str} (h : SqL K H a (ss.map V.str)) : Dp K H (.ref a) (dStrs ss) :=
  .lst h (dpAll (All2.ofMap fun y _ => .str y))
theorem StrsAt.dp {ss : List Str} (h : StrsAt H v ss) : Dp K H v (dStrs ss) := by
  obtain ⟨a, rfl, h⟩ := h
  exact dp_strs (SqL.of h)
theorem RoomAt.dp {r : RoomD} (h : RoomAt H v r) : Dp K H v (dRoom r) := by
  obtain ⟨a, g, rfl, h, k⟩ := h
  exact .tup (SqT.of h) (.cons (.str _) (.cons k.dp .nil))
theorem RoomsAt.dp {rs : List RoomD} (h : RoomsAt H v rs) : Dp K H v (dRooms rs) := by
  obtain ⟨a, xs, rfl, h, k⟩ := h
  exact .lst (SqL.of h) (dpAll (k.mono fun _ _ r => r.dp))
/-- a list of guards -/
def dGuards (gs : List (List Look)) : PyData := .list (gs.map dGuard)
theorem dp_guards {a : Addr} {xs : List V} {gs : List (List Look)} (h : SqL K H a xs) (k : All2 (GuardAt H) xs gs) : Dp K H (.ref a) (dGuards gs) :=
  .lst h (dpAll (k.mono fun _ _ r => r.dp))
/-- a list of lists of texts -/
def dStrss (gs : List (List Str)) : PyData := .list (gs.map dStrs)
theorem dp_strss {a : Addr} {xs : List V} {gs : List (List Str)} (h : SqL K H a xs) (k : All2 (StrsAt H) xs gs) : Dp K H (.ref a) (dStrss gs) :=
  .lst h (dpAll (k.mono fun _ _ r => r.dp))
end

/-! ### such data has a shape -/
abbrev OkS (s : Str) : Prop := PyData.strOk s = true
def OkL (l : Look) : Prop := OkS l.1 ∧ OkS l.2.1
theorem canAll {α : Type} {f : α → PyData} : ∀ {ys : List α}, (∀ y, y ∈ ys → (f y).canLay0 = true) → PyData.canLayAll0 (ys.map f) = true
  | [], _ => rfl
  | y :: ys, h => by
    show ((f y).canLay0 && PyData.canLayAll0 (ys.map f)) = true
    rw [h y (List.mem_cons_self ..), canAll fun z hz => h z (List.mem_cons_of_mem _ hz)]
    rfl
theorem depAll {α : Type} {f : α → PyData} {n : Nat} : ∀ {ys : List α}, (∀ y, y ∈ ys → (f y).depth ≤ n) → PyData.depthAll (ys.map f) ≤ n
  | [], _ => Nat.zero_le _
  | y :: ys, h => by
    show max (f y).depth (PyData.depthAll (ys.map f)) ≤ n
    exact Nat.max_le.mpr ⟨h y (List.mem_cons_self ..), depAll fun z hz => h z (List.mem_cons_of_mem _ hz)⟩
theorem shaped_of {d : PyData} (h : d.canLay0 = true) (k : d.depth ≤ 8) : SeqAt.shaped d = true := by
  unfold SeqAt.shaped
  rw [h, decide_eq_true (Nat.le_trans k (by decide))]
  rfl
theorem can_look {l : Look} (h : OkL l) : (dLook l).canLay0 = true := by
  show (PyData.strOk l.1 && (PyData.strOk l.2.1 && (true && true))) = true
  rw [h.1, h.2]
  rfl
theorem dep_look (l : Look) : (dLook l).depth ≤ 1 := Nat.le_refl 1
theorem can_guard {g : List Look} (h : ∀ l, l ∈ g → OkL l) : (dGuard g).canLay0 = true := canAll fun l hl => can_look (h l hl)
theorem dep_guard (g : List Look) : (dGuard g).depth ≤ 2 := Nat.succ_le_succ (depAll fun l _ => dep_look l)
theorem can_strs {ss : List Str} (h : ∀ s, s ∈ ss → OkS s) : (dStrs ss).canLay0 = true := canAll fun s hs => h s hs
theorem dep_strs (ss : List Str) : (dStrs ss).depth ≤ 1 := Nat.succ_le_succ (depAll fun s _ => Nat.le_refl 0)
theorem can_room {r : RoomD} (h : OkS r.1) (k : ∀ l, l ∈ r.2 → OkL l) : (dRoom r).canLay0 = true := by
  show (PyData.strOk r.1 && ((dGuard r.2).canLay0 && true)) = true
  rw [show PyData.strOk r.1 = true from h, can_guard k]
  rfl
theorem dep_room (r : RoomD) : (dRoom r).depth ≤ 3 := by
  show max 0 (max (dGuard r.2).depth 0) + 1 ≤ 3
  have := dep_guard r.2
  omega
theorem can_rooms {rs : List RoomD} (h : ∀ r, r ∈ rs → OkS r.1 ∧ ∀ l, l ∈ r.2 → OkL l) : (dRooms rs).canLay0 = true := canAll fun r hr => can_room (h r hr).1 (h r hr).2
theorem dep_rooms (rs : List RoomD) : (dRooms rs).depth ≤ 4 := Nat.succ_le_succ (depAll fun r _ => dep_room r)
theorem can_guards {gs : List (List Look)} (h : ∀ g, g ∈ gs → ∀ l, l ∈ g → OkL l) : (dGuards gs).canLay0 = true := canAll fun g hg => can_guard (h g hg)
theorem dep_guards (gs : List (List Look)) : (dGuards gs).depth ≤ 3 := Nat.succ_le_succ (depAll fun g _ => dep_guard g)
theorem can_strss {gs : List (List Str)} (h : ∀ g, g ∈ gs → ∀ s, s ∈ g → OkS s) : (dStrss gs).canLay0 = true := canAll fun g hg => can_strs (h g hg)
theorem dep_strss (gs : List (List Str)) : (dStrss gs).depth ≤ 2 := Nat.succ_le_succ (depAll fun g _ => dep_strs g)
/-- two that are the same data are not unlike -/
theorem ne_same {K : PySem.W.Frag} {H : Hp} {x y : V} {d : PyData} {Q : VK} (hx : Dp K H x d) (hy : Dp K H y d) (c : d.canLay0 = true) (k : d.depth ≤ 8) (q : Q (.bl false) H) : rNeD K x y H Q := by
  refine ⟨d, d, hx, hy, shaped_of c k, shaped_of c k, ?_⟩
  rw [SeqAt.eqv_refl d c]
  exact q
theorem eq_same {K : PySem.W.Frag} {H : Hp} {x y : V} {d : PyData} {Q : VK} (hx : Dp K H x d) (hy : Dp K H y d) (c : d.canLay0 = true) (k : d.depth ≤ 8) (q : Q (.bl true) H) : rEqD K x y H Q := by
  refine ⟨d, d, hx, hy, shaped_of c k, shaped_of c k, ?_⟩
  rw [SeqAt.eqv_refl d c]
  exact q

/-! ### defs -/
abbrev FnP (K : PySem.W.Frag) (x qual : Str) (st : Stmt) (f : Addr) (fd : FuncData) : Prop := FunD K x qual (defArgs st) (defBody st) (defScope st) [] [] f fd
/-- a def of the top as it stands -/
def HasFn (K : PySem.W.Frag) (mg : Str → Option Value) (x : Str) (st : Stmt) : Prop := ∃ f fd, mg x = some (.ref f) ∧ FnP K x x st f fd
/-- a method as it stands -/
def HasMt (K : PySem.W.Frag) (C : Addr) (m qual : Str) (st : Stmt) : Prop := ∃ f fd, Meth K C m f ∧ FnP K m qual st f fd
/-- a def of the top keeps a promise -/
def Def (P : Program) (w : World) (K : PySem.W.Frag) (mg : Str → Option Value) (base : Heap) (x : Str) (k : Nat) (ps : List Str) (sp : Sp) : Prop :=
  ∃ f fd, mg x = some (.ref f) ∧ PySem.W.keepIn K (.ref f) = true ∧ FnOk P w K mg base CX0 k f fd ps sp ∧ Binds K fd ps []
/-- a method keeps a promise -/
def Mth (P : Program) (w : World) (K : PySem.W.Frag) (mg : Str → Option Value) (base : Heap) (C : Addr) (m : Str) (k : Nat) (ps : List Str) (sp : Sp) : Prop :=
  ∃ f fd, Meth K C m f ∧ FnOk P w K mg base CX0 k f fd ps sp ∧ Binds K fd ps []
section
variable {P : Program} {w : World} {K : PySem.W.Frag} {mg : Str → Option Value} {base : Heap}
theorem FnP.okN {x qual : Str} {st : Stmt} {f : Addr} {fd : FuncData} {dvs : List V} {N ps : List Str} {k : Nat} {sp : Sp} (F : FunD K x qual (defArgs st) (defBody st) (defScope st) dvs [] f fd) (S : FnScope N ps (defScope st)) (len : ∀ vs H Q E, sp vs H Q E → vs.length = ps.length)
    (hbody : ∀ (cdv : Value) (A : Around) (outer : List Env) (s : Shared) (H : Hp) (vs : List V) (Q : VK) (E : XK), Room k (A.deeper (envOfC qual (defScope st) s.heap.objs.size f cdv)) → sp vs H Q E →
      ∃ t, PSs (cxOf CX0 P w K mg base N qual (defScope st) f cdv A outer s H E).nox (defBody st) t ∧ t { nx := fun _ H' => Q .non H', rt := Q } (start N vs) H) : FnOk P w K mg base CX0 (k + 1) f fd ps sp :=
  F.ok S len fun cdv A outer s H vs Q E hr h => by
    obtain ⟨t, a, b⟩ := hbody cdv A outer s H vs Q E hr h
    exact ⟨t, a.nox, b⟩
theorem def_of {x : Str} {st : Stmt} {N ps : List Str} {k : Nat} {sp : Sp} (h : HasFn K mg x st) (S : FnScope N ps (defScope st))
    (hb : ∀ (kV doc pm : Value) (an : Option Addr) (cdv ct : Value) (us : List Value), us.length = ps.length → bindArgs (PySem.W.fnOf x x (defArgs st) (defBody st) (defScope st) .none kV doc pm an cdv ct) ⟨us, []⟩ = pure (ps.zip us))
    (len : ∀ vs H Q E, sp vs H Q E → vs.length = ps.length)
    (hbody : ∀ (f : Addr) (cdv : Value) (A : Around) (outer : List Env) (s : Shared) (H : Hp) (vs : List V) (Q : VK) (E : XK), Room k (A.deeper (envOfC x (defScope st) s.heap.objs.size f cdv)) → sp vs H Q E →
      ∃ t, PSs (cxOf CX0 P w K mg base N x (defScope st) f cdv A outer s H E).nox (defBody st) t ∧ t { nx := fun _ H' => Q .non H', rt := Q } (start N vs) H) : Def P w K mg base x (k + 1) ps sp := by
  obtain ⟨f, fd, g, F⟩ := h
  exact ⟨f, fd, g, F.kp, FnP.okN F S len (hbody f), F.bindsN hb⟩
theorem mth_of {C : Addr} {m qual : Str} {st : Stmt} {N ps : List Str} {k : Nat} {sp : Sp} (h : HasMt K C m qual st) (S : FnScope N ps (defScope st))
    (hb : ∀ (kV doc pm : Value) (an : Option Addr) (cdv ct : Value) (us : List Value), us.length = ps.length → bindArgs (PySem.W.fnOf m qual (defArgs st) (defBody st) (defScope st) .none kV doc pm an cdv ct) ⟨us, []⟩ = pure (ps.zip us))
    (len : ∀ vs H Q E, sp vs H Q E → vs.length = ps.length)
    (hbody : ∀ (f : Addr) (cdv : Value) (A : Around) (outer : List Env) (s : Shared) (H : Hp) (vs : List V) (Q : VK) (E : XK), Room k (A.deeper (envOfC qual (defScope st) s.heap.objs.size f cdv)) → sp vs H Q E →
      ∃ t, PSs (cxOf CX0 P w K mg base N qual (defScope st) f cdv A outer s H E).nox (defBody st) t ∧ t { nx := fun _ H' => Q .non H', rt := Q } (start N vs) H) : Mth P w K mg base C m (k + 1) ps sp := by
  obtain ⟨f, fd, g, F⟩ := h
  exact ⟨f, fd, g, FnP.okN F S len (hbody f), F.bindsN hb⟩
end
section
variable {X : Cx} {k j : Nat} {ps : List Str} {sp : Sp} {x m : Str} {p pos apos : Pos} {e o : Expr} {es : List Expr} {t : TA} {ta : TE} {C : Addr}
/-- f(e, ..) -/
theorem pe_def (h : Def X.prog X.w X.K X.mg X.base x k ps sp) (hr : Room j X.A) (hk : k ≤ j := by decide) (hg : Gl X x := by rfl) (ha : PA X (e :: es) t)
    (hdb : (x == ("__debug__" : Str)) = false := by decide) (he : starEach (e :: es) X.env = (false, eval e X.env) :: starEach es X.env := by rfl) (hpl : (backTo pos (starEach es X.env)).any (·.1) = false := by rfl) :
    PE X (.Call (.Name x p) (e :: es) [] pos) (tCall sp [] E0 t) := by
  obtain ⟨f, fd, g, kp, F, B⟩ := h
  exact pe_call F (hr.mono hk) hg g kp B .nil pass0 ha hdb he hpl
end
end Zw

/-! Zs: len(set(texts)) for any number of texts that are unlike (HandS.Strs has it for at most one). The road of HandS.Strs, the count told by Nodup. -/
namespace Zw
open PySem PySem.Spec PyProof.Rows L2
/-- what the set holds behind i texts -/
abbrev metS (xs : List Str) (i : Nat) : Str → Bool := fun y => (xs.take i).any (· == y)
theorem met_next {xs : List Str} {i : Nat} (hi : i < xs.length) (y : Str) : (metS xs i y || decide (y = xs.getD i Str.empty)) = metS xs (i + 1) y := by
  have e : xs[i]? = some (xs.getD i Str.empty) := by
    rw [List.getD_eq_getElem?_getD, List.getElem?_eq_getElem hi]
    rfl
  unfold metS
  rw [List.take_add_one, e, List.any_append]
  congr 1
  show decide (y = xs.getD i Str.empty) = ((xs.getD i Str.empty == y) || false)
  rw [Bool.or_false, Bool.eq_iff_iff]
  simp only [decide_eq_true_eq, beq_iff_eq]
  exact eq_comm
theorem met_not {xs : List Str} (nd : xs.Nodup) {i : Nat} (hi : i < xs.length) : metS xs i (xs.getD i Str.empty) = false := by
  have e : xs[i]? = some (xs.getD i Str.empty) := by
    rw [List.getD_eq_getElem?_getD, List.getElem?_eq_getElem hi]
    rfl
  unfold metS
  rw [List.any_eq_false]
  intro z hz q
  have ez : z = xs.getD i Str.empty := by simpa using q
  obtain ⟨j, hj⟩ := List.getElem?_of_mem hz
  have hji : j < i := by
    have h1 := lt_get hj
    rw [List.length_take] at h1
    omega
  rw [List.getElem?_take_of_lt hji, ez] at hj
  exact absurd (nd_ix nd hj e) (by omega)
/-- the set at D behind i of the texts -/
abbrev Held (prog : Program) (w : World) (D : Addr) (xs : List Str) (i : Nat) (h : Heap) : Prop := h.SetOf (PySem.strKind prog w) D (metS xs i) i
/-- an empty set, as `__new__` leaves it (the model asks of its table, so it is one of two) -/
abbrev noSet (led : Bool) : Obj := { cls := .type "set", dict := none, data := .set #[] 0 (.fresh 0 0 led) }
section
variable {prog : Program} {w : World} {A : Around} {D : Addr} {xs : List Str} {i : Nat}
theorem Held.over {wr : List Addr} {G : Array GenState → Array GenState → Prop} {s s' : Shared} (h : Held prog w D xs i s.heap) (m : Moved wr G s s') (hD : D ∉ wr) : Held prog w D xs i s'.heap := by
  rcases h with ⟨o, es, ep, t, ho, rest⟩
  exact ⟨o, es, ep, t, m.heap D _ hD ho, rest⟩
/-- the next text, unlike those ahead, is put in -/
theorem Held.add {E : Value → Shared → Prop} {s : Shared} {t : Tok} (h : Held prog w D xs i s.heap) (nd : xs.Nodup) (hi : i < xs.length) (room : i + 1 < scanBound) :
    wpAny (model prog w) A (setAdd D (.str (xs.getD i Str.empty) t)) (fun _ s' => ∃ h2, s' = { s with heap := h2, toks := s.toks + 1 } ∧ (∀ b o, b ≠ D → s.heap.get? b = some o → h2.get? b = some o) ∧ s.heap.objs.size ≤ h2.objs.size ∧ Held prog w D xs (i + 1) h2) E s := by
  have key : (PySem.strKind prog w).is (xs.getD i Str.empty) (.str (xs.getD i Str.empty) t) = true := strKind_is _ _ _ _
  unfold setAdd
  refine wpAny_holding (wpAny_bind ((PySem.strKind prog w).pyHash key ?_))
  exact wpAny_setAddHashed_of (s := { s with toks := s.toks + 1 }) key rfl h room fun h2 sb S2 =>
    ⟨h2, rfl, fun b o hb e => (sb.2 b hb).trans e, Nat.le_of_eq sb.1.symm, SetOf_congr S2 (met_next hi) (by rw [met_not nd hi]; rfl)⟩
/-- the loop of set.update over anything that is walked and gives these texts -/
theorem fills {R : Result → Shared → Prop} {it : Addr} {fp wr : List Addr} {G : Array GenState → Array GenState → Prop} {Y : Nat → Value → Prop} {St : Nat → Shared → Prop} (W : WalksS prog w A.in1 it fp wr G xs.length Y St)
    (hD : D ∉ fp) (nd : xs.Nodup) (room : xs.length + 1 < scanBound) (texts : ∀ i v, Y i v → ∃ t, v = .str (xs.getD i Str.empty) t) :
    ∀ (m i : Nat) (s : Shared), m + i = xs.length → St i s → Held prog w D xs i s.heap → (∀ s', Moved (D :: wr) G s s' → Held prog w D xs xs.length s'.heap → R (.ok (.ret .none)) s') →
      codeAny (model prog w) A (.builtin "set.update.loop" ⟨[.ref D, .ref it], []⟩) R s := by
  have out : D ∉ wr := fun z => hD (W.sub _ z)
  have more : ∀ b, b ∈ wr → b ∈ D :: wr := fun b z => .tail _ z
  have quiet := plainId_quiet PyProof.Rows.F.plain_set_update_loop
  intro m
  induction m with
  | zero =>
    rintro i s hi st h fin
    obtain rfl : i = xs.length := by omega
    apply codeAny_builtin PyProof.Rows.F.entry_set_update_loop
    rw [Around.under_plainId PyProof.Rows.F.plain_set_update_loop]
    exact wpAny_bind (W.done s _ _ st fun s' mv => wpAny_pure (fin s' (mv.mono more) (h.over mv out)))
  | succ m ih =>
    rintro i s hi st h fin
    apply codeAny_builtin PyProof.Rows.F.entry_set_update_loop
    rw [Around.under_plainId PyProof.Rows.F.plain_set_update_loop]
    refine wpAny_bind (W.item i s _ _ (by omega) st fun v s1 y st1 mv => ?_)
    obtain ⟨t, rfl⟩ := texts i v y
    refine wpAny_bind (wpAny_holding (wpAny_mono ((h.over mv out).add (t := t) nd (by omega) (by omega)) (fun _ s2 z => ?_) fun _ _ z => z))
    obtain ⟨h2, rfl, keep, size, h3⟩ := z
    refine wpAny_pure ⟨quiet _, ih (i + 1) _ (by omega) (W.frame _ s1 _ _ st1 (Nat.le_succ _) fun b hb o e => keep b o (fun q => hD (q ▸ hb)) e) h3 fun s3 mv3 h4 => ?_⟩
    exact fin s3 (Moved.trans W.gtrans ((mv.mono more).then_heap (Nat.le_succ _) fun b o hb e => keep b o (fun q => hb (q ▸ .head _)) e) mv3) h4
end
section
variable {prog : Program} {w : World} {A : Around} {E : Value → Shared → Prop} {s : Shared}
/-- calling the class: an empty set is laid, the rest is what `__init__` does with it -/
theorem set_made {a : Value} {Q : Value → Shared → Prop} (init : ∀ led : Bool, codeAny (model prog w) A.in1 (.call (.builtin "set.__init__") ⟨[.ref s.heap.objs.size, a], []⟩)
      (wants (fun r s' => r = .none ∧ Q (.ref s.heap.objs.size) s') E) { s with heap := s.heap.push (noSet led) }) : wpAny (model prog w) A (call (.type "set") [a]) Q E s := by
  have C := PySem.F.called_set
  rcases C.mro with ⟨_, _, _⟩
  have := C.made; have := C.sub; have := C.notType; have := C.canCreate; have := PySem.F.typeCall_set_1 a
  refine wpAny_call (codeAny_of_tree (show wpAny _ _ (callAny (.type "set") _) _ _ _ from wpAny_pure ⟨Code.quiet_builtin _ (by decide +kernel), codeAny_builtin PySem.F.entry_type_call ?_⟩))
  rw [Around.under_plain (weight_type_call_type "set" [a] []) rfl]
  repeat' first | assumption | wp_step
  refine codeAny_mono (code_set_new_1 a (E := E) (Q₁ := fun v s' => ∃ led : Bool, v = .ref s.heap.objs.size ∧ s' = { s with heap := s.heap.push (noSet led) }) fun led => ⟨led, rfl, rfl⟩) fun r s1 hr => ?_
  match r, hr with
  | .error _, hr => exact hr
  | .ok .next, hr => exact hr.elim
  | .ok .brk, hr => exact hr.elim
  | .ok .cont, hr => exact hr.elim
  | .ok (.ret _), hr =>
    obtain ⟨led, rfl, rfl⟩ := hr
    have : Shared.TypeIs { s with heap := s.heap.push (noSet led) } (.ref s.heap.objs.size) "set" := ⟨_, Heap.get?_push_size _ rfl, rfl⟩
    have := C.init.lookup; have := C.init.bind (.ref s.heap.objs.size)
    repeat' first | assumption | wp_step
    refine codeAny_mono (init led) fun r s2 hr => ?_
    match r, hr with
    | .error _, hr => exact hr
    | .ok .next, hr => exact hr.elim
    | .ok .brk, hr => exact hr.elim
    | .ok .cont, hr => exact hr.elim
    | .ok (.ret _), hr =>
      obtain ⟨rfl, q⟩ := hr
      repeat' first | assumption | wp_step
/-- `set.__init__` over a list of unlike texts -/
theorem set_filled {l D : Addr} {items : Array Value} {xs : List Str} {Q : Value → Shared → Prop} {led : Bool} (hh : A.handled = none) (hS : s.heap.get? D = some (noSet led)) (ne : D ≠ l)
    (hl : s.heap.IsList l items) (hi : PyProof.Rows.StrsAre items.toList xs) (nd : xs.Nodup) (room : xs.length + 1 < scanBound)
    (h : ∀ s', s'.gens = s.gens → s'.drawn = s.drawn → s'.os = s.os → (∀ b o, b < s.heap.objs.size → b ≠ D → s.heap.get? b = some o → s'.heap.get? b = some o) → Held prog w D xs xs.length s'.heap → Q .none s') :
    codeAny (model prog w) A (.call (.builtin "set.__init__") ⟨[.ref D, .ref l], []⟩) (wants Q E) s := by
  have len : items.size = xs.length := by rw [← StrsAre.len_eq hi, Array.length_toList]
  have hT : s.TypeIs (.ref D) "set" := ⟨_, hS, rfl⟩
  have hD := Heap.lt_size hS
  refine codeAny_call_builtin PySem.F.called_set.init.plain PySem.F.entry_set_init (check_set_init_1 hT ?_)
  have ll : l < s.heap.objs.size := by
    obtain ⟨_, e, _⟩ := hl
    exact Heap.lt_size e
  have ty : s.TypeIs (.ref l) "list" := by
    obtain ⟨_, e, c, _⟩ := hl
    exact ⟨_, e, c⟩
  have := PySem.F.sub_list_set
  have := PySem.F.sub_list_frozenset
  unfold Builtin.«set.__init__» noKeywords Builtin.Frozenset.updateFrom
  generalize em : pyIter = P
  wp_walk
  subst em
  refine wpAny_pyIter_list hl ?_
  have two : D ∉ [s.heap.objs.size, l] := by
    rintro (_ | ⟨_, _ | ⟨_, z⟩⟩)
    · exact absurd hD (Nat.lt_irrefl _)
    · exact ne rfl
    · exact nomatch z
  have texts : ∀ (i : Nat) (v : Value), items[i]? = some v → ∃ t, v = .str (xs.getD i Str.empty) t := fun i v e => SS.strs_at hi i v (Array.getElem?_toList.trans e)
  refine wpAny_bind (wpAny_runValue (fills (len ▸ (Walks.list (by simp [hh]) s.heap.objs.size l (Nat.ne_of_lt ll) items).toS) two nd room texts xs.length 0 _ (Nat.add_zero _) ⟨⟨_, Heap.get?_push_size _ rfl, rfl, rfl⟩, hl.push _⟩ ?_ fun s' m k => ?_))
  · exact SetOf_congr ((PyProof.Rows.setObjOf_fresh (knd := PySem.strKind prog w) led).setOf (Heap.get?_push_of_some _ hS) (by unfold scanBound; omega)) (fun _ => rfl) rfl
  · have put : ∀ b o, b < s.heap.objs.size → b ≠ D → s.heap.get? b = some o → s'.heap.get? b = some o := by
      intro b o hb nb e
      refine m.heap b o ?_ (Heap.get?_push_of_some _ e)
      rintro (_ | ⟨_, _ | ⟨_, z⟩⟩)
      · exact nb rfl
      · exact absurd hb (Nat.lt_irrefl _)
      · exact nomatch z
    refine wpAny_pure (show wpAny _ _ (ret Value.none) _ _ _ from wpAny_pure (h s' m.gens m.drawn m.os put k))
/-- set(l), l a list of unlike texts -/
theorem call_setN {l : Addr} {items : Array Value} {xs : List Str} {Q : Value → Shared → Prop} (hh : A.handled = none) (hl : s.heap.IsList l items) (hi : PyProof.Rows.StrsAre items.toList xs) (nd : xs.Nodup) (room : xs.length + 1 < scanBound)
    (h : ∀ (h' : Heap) (tk : Nat), h'.SetOf (PySem.strKind prog w) s.heap.objs.size (metS xs xs.length) xs.length →
      (∀ b o, b < s.heap.objs.size → s.heap.get? b = some o → h'.get? b = some o) → Q (.ref s.heap.objs.size) { s with heap := h', toks := tk }) :
    wpAny (model prog w) A (call (.type "set") [.ref l]) Q E s := by
  have ll : l < s.heap.objs.size := by
    obtain ⟨_, e, _⟩ := hl
    exact Heap.lt_size e
  refine set_made fun led => set_filled (A := A.in1) (led := led) (by simp [hh]) (Heap.get?_push_size _ rfl) (Nat.ne_of_gt ll) (hl.push _) hi nd room fun s' g d o keep k => ⟨rfl, ?_⟩
  obtain ⟨h', g', d', tk', os'⟩ := s'
  cases g; cases d; cases o
  exact h h' tk' k fun b o hb e => keep b o (by rw [Heap.size_push]; exact Nat.lt_succ_of_lt hb) (Nat.ne_of_lt hb) (Heap.get?_push_of_some _ e)
end
section
variable {X : Cx}
/-- len(set(xs)), xs a list of unlike texts -/
def tLenSetN (K : PySem.W.Frag) (ta : TE) : TE := fun σ H Q => ta σ H fun x H1 => ∃ (l : Addr) (xs : List Str), x = .ref l ∧ SqL K H1 l (xs.map V.str) ∧ xs.Nodup ∧ xs.length ≤ 1000 ∧ Q (.int (xs.length : Nat)) H1
theorem pe_lenSetN {a : Expr} {ta : TE} {p p2 q pos : Pos} (hc : X.calm = true) (hg : Gl X "len") (hm : X.mg "len" = none) (hg2 : Gl X "set") (hm2 : X.mg "set" = none) (ha : PE X a ta)
    (na : starEach [a] X.env = (false, eval a X.env) :: starEach [] X.env := by rfl) : PE X (.Call (.Name "len" p) [.Call (.Name "set" p2) [a] [] q] [] pos) (tLenSetN X.K ta) := by
  refine ⟨fun pins s σ H Q I h => ?_⟩
  refine Call_ (ld_blt I hg hm boot_len (PyProof.Rows.callWith_builtin1 (PyProof.Rows.args_cons ?_ rfl) rfl rfl))
  refine Call_ (ld_blt I hg2 hm2 boot_set (PyProof.Rows.callWith_type1 (PyProof.Rows.args_cons (thn (ha.run pins s σ H _ I h) fun v s1 ⟨x, H1, I1, r1, q1⟩ => PyProof.Rows.args_nil ?_) na) na rfl))
  obtain ⟨l, xs, rfl, hq, nd, hlen, q1⟩ := q1
  cases r1
  obtain ⟨its, r, pl, _⟩ := I1.list hq
  refine call_setN (I1.ok.hd hc) pl.isList (by simpa using strsAre_of r) nd (by unfold scanBound; omega) fun h' tk hS hk => PyProof.Rows.args_nil ?_
  obtain ⟨o, es, ep, t, ho, hex, hd, _, _, _, hf, hn⟩ := hS
  have I2 : Inv X pins σ H1 { s1 with heap := h', toks := tk } := I1.kept fun b o e => hk b o (Heap.lt_size e) e
  exact call_len_set ho hex hd hf (by rw [hn] <;> omega) ⟨.int (xs.length : Nat), H1, I2.tok _, ⟨_, by rw [hn]⟩, q1⟩
end
end Zw

/-! Zb: lists that a loop or a comprehension builds; the facts of the top; the small looks of the program. -/
namespace Zw
open PySem PySem.Spec PyProof.Rows L2

/-! ### what is new -/
/-- the objects of H' that H has not -/
def neu (H H' : Hp) : Hp := fun a => match H a with
  | none => H' a
  | some _ => none
theorem neu_at {H H' : Hp} {a : Addr} (h : H a = none) : neu H H' a = H' a := by unfold neu; rw [h]
theorem neu_some {H H' : Hp} {a : Addr} {o : HO} (h : neu H H' a = some o) : H a = none ∧ H' a = some o := by
  unfold neu at h
  cases e : H a with
  | none =>
    rw [e] at h
    exact ⟨rfl, h⟩
  | some u =>
    rw [e] at h
    cases h
theorem neu_same (H H' : Hp) : Same (neu H H') H' := fun _ _ h => (neu_some h).2
theorem neu_mono {H H1 H2 H3 : Hp} (a : Same H H1) (b : Same H2 H3) : Same (neu H1 H2) (neu H H3) := fun x o h => by
  obtain ⟨h1, h2⟩ := neu_some h
  rw [neu_at (a.free h1)]
  exact b _ _ h2
theorem neu_new {H : Hp} {p : Addr} {o : HO} (h : H p = none) : neu H (upd H p o) p = some o := by
  rw [neu_at h, upd_same]
theorem neu_upd {B H : Hp} {D : Addr} {o u : HO} (h : B D = some u) : neu B (upd H D o) = neu B H := by
  funext a
  by_cases e : a = D
  · subst e
    unfold neu
    rw [h]
  · unfold neu
    rw [upd_ne e]

/-! ### a list at D that is filled turn by turn -/
structure PvX {β : Type} (H0 : Hp) (D : Addr) (R : Hp → V → β → Prop) (G : Nat → β → Prop) (i : Nat) (H : Hp) : Prop where
  free : H0 D = none
  same : Same H0 H
  acc : ∃ (acc : List V) (ys : List β), H D = some (.lst acc) ∧ All2 (R (neu (upd H0 D (.lst [])) H)) acc ys ∧ ys.length = i ∧ ∀ (j : Nat) (y : β), ys[j]? = some y → G j y
section
variable {β : Type} {H0 H H4 : Hp} {D : Addr} {R : Hp → V → β → Prop} {G : Nat → β → Prop} {i : Nat} {v : V} {y : β}
theorem PvX.start (h : H0 D = none) : PvX H0 D R G 0 (upd H0 D (.lst [])) :=
  ⟨h, Same.new h, [], [], upd_same, All2.nil, rfl, fun j y e => by simp at e⟩
theorem same_upd (h : H0 D = none) {o : HO} (s : Same H0 H) : Same H0 (upd H D o) := fun b u e => by
  rw [upd_ne (ne_of_none e h)]
  exact s _ _ e
/-- what stood at the turn's start stands (D too); the new item is made of new things -/
theorem PvX.next (p : PvX H0 D R G i H) (mono : ∀ (N N' : Hp) (v : V) (y : β), Same N N' → R N v y → R N' v y) (s : Same H H4) (r : R (neu H H4) v y) (g : G i y) (hi : i < 1000000) :
    ∃ acc, H4 D = some (.lst acc) ∧ acc.length < sizeLine ∧ PvX H0 D R G (i + 1) (upd H4 D (.lst (acc ++ [v]))) := by
  obtain ⟨free, same, acc, ys, hD, ha, hl, hg⟩ := p
  have hB : (upd H0 D (.lst [])) D = some (.lst []) := upd_same
  have sB : Same (neu (upd H0 D (.lst [])) H) (neu (upd H0 D (.lst [])) H4) := neu_mono (Same.refl _) s
  have sN : Same (neu H H4) (neu (upd H0 D (.lst [])) H4) := fun a o e => by
    obtain ⟨e1, e2⟩ := neu_some e
    have hne : a ≠ D := fun q => by
      rw [q, hD] at e1
      cases e1
    rw [neu_at (by rw [upd_ne hne]; exact same.free e1)]
    exact e2
  refine ⟨acc, s _ _ hD, ?_, free, same_upd free (same.trans s), acc ++ [v], ys ++ [y], upd_same, ?_, ?_, fun j z e => ?_⟩
  · rw [ha.len, hl, sizeLine_eq]
    omega
  · rw [neu_upd hB]
    exact (ha.mono fun a b q => mono _ _ a b sB q).snoc (mono _ _ _ _ sN r)
  · rw [List.length_append, hl]
    rfl
  · by_cases hj : j < ys.length
    · rw [List.getElem?_append_left hj] at e
      exact hg j z e
    · rw [List.getElem?_append_right (by omega)] at e
      cases q : j - ys.length with
      | zero =>
        rw [q] at e
        have ej : j = i := by omega
        subst ej
        cases e
        exact g
      | succ m =>
        rw [q] at e
        simp at e
/-- a turn that puts nothing into the list: no more than i + 1 turns are told -/
theorem PvX.get (p : PvX H0 D R G i H) : ∃ (acc : List V) (ys : List β), H D = some (.lst acc) ∧ All2 (R (neu (upd H0 D (.lst [])) H)) acc ys ∧ ys.length = i ∧ ∀ (j : Nat) (y : β), ys[j]? = some y → G j y := p.acc
/-- the list at its end, of new things -/
theorem PvX.done (p : PvX H0 D R G i H) (mono : ∀ (N N' : Hp) (v : V) (y : β), Same N N' → R N v y → R N' v y) :
    Same H0 H ∧ ∃ (acc : List V) (ys : List β), neu H0 H D = some (.lst acc) ∧ All2 (R (neu H0 H)) acc ys ∧ ys.length = i ∧ ∀ (j : Nat) (y : β), ys[j]? = some y → G j y := by
  obtain ⟨free, same, acc, ys, hD, ha, hl, hg⟩ := p
  refine ⟨same, acc, ys, by rw [neu_at free]; exact hD, ha.mono fun a b q => mono _ _ a b (neu_mono (Same.new free) (Same.refl _)) q, hl, hg⟩
end
theorem list_eq {α : Type} {xs ys : List α} (h : xs.length = ys.length) (g : ∀ (j : Nat) (x : α), xs[j]? = some x → ys[j]? = some x) : xs = ys := by
  apply List.ext_getElem?
  intro j
  cases e : xs[j]? with
  | some x => exact (g j x e).symm
  | none =>
    have h1 := List.getElem?_eq_none_iff.mp e
    exact (List.getElem?_eq_none_iff.mpr (by omega)).symm
/-- a list of truths -/
def RTrue : Hp → V → Unit → Prop := fun _ v _ => v = .bl true
theorem RTrue.mono (N N' : Hp) (v : V) (y : Unit) (_ : Same N N') (h : RTrue N v y) : RTrue N' v y := h
theorem trues {xs : List V} {ys : List Unit} {N : Hp} (h : All2 (RTrue N) xs ys) : ∃ bs : List Bool, xs = bs.map V.bl ∧ bs.all id = true := by
  refine ⟨List.replicate xs.length true, list_eq (by simp) fun j x e => ?_, by simp⟩
  obtain ⟨y, _, r⟩ := h.left e
  rw [List.getElem?_map, List.getElem?_replicate, if_pos (lt_get e)]
  show some (V.bl true) = some x
  rw [show x = V.bl true from r]
/-- a list of texts -/
def RStr : Hp → V → Str → Prop := fun _ v y => v = .str y
theorem RStr.mono (N N' : Hp) (v : V) (y : Str) (_ : Same N N') (h : RStr N v y) : RStr N' v y := h
theorem strs_of {xs : List V} {ys : List Str} {N : Hp} (h : All2 (RStr N) xs ys) : xs = ys.map V.str := by
  refine list_eq (by rw [h.len, List.length_map]) fun j x e => ?_
  obtain ⟨y, ey, r⟩ := h.left e
  rw [get_map_of ey, show x = V.str y from r]
/-- a list of ints -/
def RInt : Hp → V → Int → Prop := fun _ v y => v = .int y
theorem RInt.mono (N N' : Hp) (v : V) (y : Int) (_ : Same N N') (h : RInt N v y) : RInt N' v y := h
theorem ints_of {xs : List V} {ys : List Int} {N : Hp} (h : All2 (RInt N) xs ys) : xs = ys.map V.int := by
  refine list_eq (by rw [h.len, List.length_map]) fun j x e => ?_
  obtain ⟨y, ey, r⟩ := h.left e
  rw [get_map_of ey, show x = V.int y from r]

/-! ### texts -/
def letters : Str := "abcdefghijklmnopqrstuvwxyz"
def slashed : Str := "abcdefghijklmnopqrstuvwxyz/"
def slash : Str := "/"
def Lower (s : Str) : Prop := ∀ c, c ∈ s.cps.toList → 97 ≤ c ∧ c ≤ 122
def IsNm (s : Str) : Prop := Lower s ∧ 1 ≤ s.length ∧ s.length ≤ 8
def IsWt (s : Str) : Prop := s = slash ∨ IsNm s
theorem letters_list : letters.cps.toList = List.range' 97 26 := by decide +kernel
theorem slashed_list : slashed.cps.toList = List.range' 97 26 ++ [47] := by decide +kernel
theorem slash_list : slash.cps.toList = [47] := by decide +kernel
theorem in_letters {c : Nat} (h : 97 ≤ c ∧ c ≤ 122) : c ∈ letters.cps.toList := by
  rw [letters_list, List.mem_range'_1]
  omega
theorem in_slashed {c : Nat} (h : 97 ≤ c ∧ c ≤ 122) : c ∈ slashed.cps.toList := by
  rw [slashed_list, List.mem_append, List.mem_range'_1]
  exact .inl (by omega)
theorem okS_of {s : Str} (h : ∀ c, c ∈ s.cps.toList → c < 1114112) : OkS s := by
  show s.cps.all (· < 0x110000) = true
  rw [← Array.all_toList, List.all_eq_true]
  intro c hc
  exact decide_eq_true (h c hc)
theorem IsNm.ok {s : Str} (h : IsNm s) : OkS s := okS_of fun c hc => by have := h.1 c hc; omega
theorem IsWt.ok {s : Str} (h : IsWt s) : OkS s := by
  rcases h with rfl | h
  · decide +kernel
  · exact h.ok
def wBelow : List Str := ["<", "<="]
def wAll : List Str := ["<", "<=", ">", ">=", "="]
theorem wAll_ok : ∀ s, s ∈ wAll → OkS s := by
  intro s h
  simp only [wAll, List.mem_cons, List.not_mem_nil, or_false] at h
  rcases h with rfl | rfl | rfl | rfl | rfl <;> decide +kernel
theorem wBelow_ok : ∀ s, s ∈ wBelow → OkS s := by
  intro s h
  simp only [wBelow, List.mem_cons, List.not_mem_nil, or_false] at h
  rcases h with rfl | rfl <;> decide +kernel
theorem inV_str {s : Str} {ss : List Str} (h : s ∈ ss) : inV (.str s) (ss.map V.str) = true := by
  unfold inV
  rw [List.any_eq_true]
  exact ⟨.str s, List.mem_map_of_mem h, by show (s == s) = true; exact beq_self_eq_true s⟩
theorem flats (ss : List Str) : (ss.map V.str).all flatV = true := by
  rw [List.all_eq_true]
  intro v hv
  obtain ⟨s, _, rfl⟩ := List.mem_map.mp hv
  rfl

/-! ### the facts of the top -/
structure Txt (K : PySem.W.Frag) (mg : Str → Option Value) (D M : Addr) : Prop where
  whole : HasFn K mg "is_whole" sWhole
  ofSigns : HasFn K mg "of_signs" sOfSigns
  isName : HasFn K mg "is_name" sIsName
  isWatch : HasFn K mg "is_watch_name" sIsWatch
  isSign : HasFn K mg "is_sign" sIsSign
  isLook : HasFn K mg "is_look" sIsLook
  isGuard : HasFn K mg "is_guard" sIsGuard
  unlike : HasFn K mg "unlike" sUnlike
  own : HasFn K mg "own" sOwn
  areWatches : HasFn K mg "are_watches" sAreWatches
  isRoom : HasFn K mg "is_room" sIsRoom
  areRooms : HasFn K mg "are_rooms" sAreRooms
  isDoor : HasFn K mg "is_door" sIsDoor
  cell : HasFn K mg "_law_cell_at" sCell
  stream : HasFn K mg "_law_stream" sStream
  draws : HasFn K mg "_law_draws" sDraws
  names : HasFn K mg "_law_names" sNames
  looks : HasFn K mg "_law_looks" sLooks
  rooms : HasFn K mg "_law_rooms" sLRooms
  doors : HasFn K mg "_law_doors" sLDoors
  door : HasFn K mg "_law_door" sLDoor
  same : HasFn K mg "_law_same" sSame
  tells : HasFn K mg "_law_tells" sTells
  spoil : HasFn K mg "_law_spoil" sSpoil
  gD : mg "Door" = some (.ref D)
  gM : mg "Machine" = some (.ref M)
  iD : C8.InsC K D
  cM : Cls K M
  dInit : ∃ f fd, Mk K D f ∧ FunD K "__init__" "Door.__init__" (defArgs sDInit) (defBody sDInit) (defScope sDInit) [.str ""] [] f fd
  asks : HasMt K D "asks" "Door.asks" sAsks
  sets : HasMt K D "sets" "Door.sets" sSets
  mInit : ∃ f fd, Mk K M f ∧ FnP K "__init__" "Machine.__init__" sMInit f fd
  watches : HasMt K M "watches" "Machine.watches" sWatches
  mRooms : HasMt K M "rooms" "Machine.rooms" sRooms
  mDoors : HasMt K M "doors" "Machine.doors" sDoors
  stay : HasMt K M "stay" "Machine.stay" sStay
  wnum : HasMt K M "watch_number" "Machine.watch_number" sWNum
  nDstart : NoAttr K D "start"
  nDend : NoAttr K D "end"
  nDsign : NoAttr K D "sign"
  nDlooks : NoAttr K D "looks"
  nDbacks : NoAttr K D "backs"
  nMw : NoAttr K M "watch_names"
  nMr : NoAttr K M "room_names"
  nMs : NoAttr K M "stay_looks"
  nMd : NoAttr K M "door_list"
  gLetters : ∃ t, mg "LETTERS" = some (.str letters t)
  gMW : ∃ t, mg "MOST_WATCHES" = some (.int 7 t)
  gMR : ∃ t, mg "MOST_ROOMS" = some (.int 64 t)
  gMD : ∃ t, mg "MOST_DOORS" = some (.int 200 t)
  gBelow : ∃ a, mg "BELOW" = some (.ref a) ∧ ∀ H, SqT K H a (wBelow.map V.str)
  gWords : ∃ a, mg "WORDS" = some (.ref a) ∧ ∀ H, SqT K H a (wAll.map V.str)
  len : mg "len" = none
  isi : mg "isinstance" = none
  int : mg "int" = none
  bool : mg "bool" = none
  str : mg "str" = none
  tuple : mg "tuple" = none
  list : mg "list" = none
  all : mg "all" = none
  set : mg "set" = none
  range : mg "range" = none
  zip : mg "zip" = none

/-! ### isinstance -/
theorem kit_int_int : kitB "int" "int" = some true := by decide +kernel
theorem kit_int_bool : kitB "int" "bool" = some false := by decide +kernel
theorem kit_str_str : kitB "str" "str" = some true := by decide +kernel
theorem kit_tup_tup : kitB "tuple" "tuple" = some true := by decide +kernel
theorem kit_list_list : kitB "list" "list" = some true := by decide +kernel
def tIsi (K : PySem.W.Frag) (n : String) (te : TE) : TE := fun σ H Q => te σ H fun x H1 => ∃ (ty : String) (b : Bool), TyX K H1 x (.type ty) ∧ kitB ty n = some b ∧ Q (.bl b) H1
theorem boot_isi : bootBuiltins "isinstance" = some (.builtin "isinstance") := by decide +kernel
theorem boot_Tint : bootBuiltins "int" = some (.type "int") := by decide +kernel
theorem boot_Tbool : bootBuiltins "bool" = some (.type "bool") := by decide +kernel
theorem boot_Tstr : bootBuiltins "str" = some (.type "str") := by decide +kernel
theorem boot_Ttuple : bootBuiltins "tuple" = some (.type "tuple") := by decide +kernel
theorem boot_Tlist : bootBuiltins "list" = some (.type "list") := by decide +kernel
theorem boot_Ball : bootBuiltins "all" = some (.builtin "all") := by decide +kernel
section
variable {X : Cx}
theorem pe_weak {e : Expr} {t t' : TE} (h : PE X e t) (w : ∀ σ H Q, t' σ H Q → t σ H Q) : PE X e t' := ⟨fun pins s σ H Q I q => h.run pins s σ H Q I (w σ H Q q)⟩
end
end Zw

/-! Zc: the program's small looks: is_whole, of_signs, is_name, is_watch_name, is_sign, is_look, is_guard, unlike, own. -/
namespace Zw
open PySem PySem.Spec PyProof.Rows L2
/-- isinstance(x, T), T a built-in class -/
def rIsiB (K : PySem.W.Frag) : List V → Hp → VK → Prop := fun xs H Q => ∃ (x : V) (T ty : String) (b : Bool), xs = [x, .ty T] ∧ TyX K H x (.type ty) ∧ kitB ty T = some b ∧ Q (.bl b) H
section
variable {X : Cx}
theorem call_isiB : CallR X (.builtin "isinstance") (rIsiB X.K) := fun pins s σ H xs us Q I r h => call_isi pins s σ H xs us Q I r (by
  obtain ⟨x, T, ty, b, rfl, t, e, q⟩ := h
  exact ⟨x, .ty T, .type ty, .type T, b, rfl, .ty T, t, kit_ty e, q⟩)
theorem pe_isi {e : Expr} {te : TE} {n : Str} {T : String} {p p2 pos : Pos} (hi : X.mg "isinstance" = none) (hm : X.mg n = none) (hb : bootBuiltins n = some (.type T)) (he : PE X e te)
    (gi : Gl X "isinstance" := by rfl) (gn : Gl X n := by rfl) (hd : (n == ("__debug__" : Str)) = false := by decide) (hn : n ≠ "__name__" := by decide)
    (hs : starEach [e, .Name n p2] X.env = (false, eval e X.env) :: starEach [.Name n p2] X.env := by rfl) (hs2 : starEach [.Name n p2] X.env = (false, eval (.Name n p2) X.env) :: starEach [] X.env := by rfl)
    (hpl : (backTo pos (starEach [.Name n p2] X.env)).any (·.1) = false := by rfl) :
    PE X (.Call (.Name "isinstance" p) [e, .Name n p2] [] pos) (tCB (rIsiB X.K) (tCons te (tCons (tC (.ty T)) tNil))) :=
  pe_callB call_isiB gi hi boot_isi (pa_cons he (pa_cons (pe_bltn gn hm hb rfl hn hd) pa_nil hs2) hs) (by decide) (by decide) hs hpl
end
theorem blT {p : Prop} [Decidable p] (h : p) : V.bl (decide p) = V.bl true := congrArg V.bl (decide_eq_true h)
theorem blF {p : Prop} [Decidable p] (h : ¬ p) : V.bl (decide p) = V.bl false := congrArg V.bl (decide_eq_false h)
theorem nblT {p : Prop} [Decidable p] (h : p) : V.bl (!decide p) = V.bl false := by rw [decide_eq_true h]; rfl
theorem nblF {p : Prop} [Decidable p] (h : ¬ p) : V.bl (!decide p) = V.bl true := by rw [decide_eq_false h]; rfl
theorem iteD {p A B : Prop} [Decidable p] (h1 : p → A) (h2 : ¬ p → B) : if decide p = true then A else B := ite2 (fun c => h1 (of_decide_eq_true c)) fun c => h2 fun q => c (decide_eq_true q)
theorem iteDT {p A B : Prop} [Decidable p] (c : p) (h : A) : if decide p = true then A else B := iteD (fun _ => h) fun q => absurd c q
theorem iteDF {p A B : Prop} [Decidable p] (c : ¬ p) (h : B) : if decide p = true then A else B := iteD (fun q => absurd q c) fun _ => h
theorem iteNT {p A B : Prop} [Decidable p] (c : ¬ p) (h : A) : if (!decide p) = true then A else B := by rw [decide_eq_false c]; exact iteT h
theorem iteNF {p A B : Prop} [Decidable p] (c : p) (h : B) : if (!decide p) = true then A else B := by rw [decide_eq_true c]; exact iteF h
section
variable {P : Program} {w : World} {K : PySem.W.Frag} {mg : Str → Option Value} {base : Heap} {D M : Addr}
/-! ### is_whole -/
def spWhole : Sp := fun vs H Q _ => ∃ i : Int, vs = [.int i] ∧ Q (.bl true) H
theorem d_whole (T : Txt K mg D M) : Def P w K mg base "is_whole" 1 ["thing"] spWhole := by
  refine def_of (N := ["thing"]) T.whole ⟨rfl, rfl, rfl, by decide +kernel, rfl, by decide +kernel, by decide +kernel⟩ (fun _ _ _ _ _ _ us hl => match us, hl with | [_], _ => rfl) (fun vs H Q E h => ?_) (fun f cdv A outer s H vs Q E hr h => ?_)
  · obtain ⟨i, rfl, _⟩ := h
    rfl
  · obtain ⟨i, rfl, k⟩ := h
    refine ⟨_, pss_one (ps_ret (pe_and (pe_isi T.isi T.int boot_Tint (pv 0)) (pe_one (pe_not (pe_isi T.isi T.bool boot_Tbool (pv 0)))))), ?_⟩
    exact ⟨_, rfl, _, _, "int", true, rfl, .base (.int i), kit_int_int, true, rfl, iteT ⟨_, rfl, _, _, "int", false, rfl, .base (.int i), kit_int_bool, false, rfl, k⟩⟩
/-! ### of_signs -/
def spOfSigns : Sp := fun vs H Q _ => ∃ (z sg : Str) (m : Int), vs = [.str z, .str sg, .int m] ∧ 1 ≤ z.length ∧ (z.length : Int) ≤ m ∧ z.length ≤ 1000 ∧ (∀ c, c ∈ z.cps.toList → c ∈ sg.cps.toList) ∧ Q (.bl true) H
theorem d_ofSigns (T : Txt K mg D M) : Def P w K mg base "of_signs" 1 ["thing", "signs", "most"] spOfSigns := by
  refine def_of (N := ["thing", "signs", "most", "sign"]) T.ofSigns ⟨rfl, rfl, rfl, by decide +kernel, rfl, by decide +kernel, by decide +kernel⟩ (fun _ _ _ _ _ _ us hl => match us, hl with | [_, _, _], _ => rfl) (fun vs H Q E h => ?_) (fun f cdv A outer s H vs Q E hr h => ?_)
  · obtain ⟨z, sg, m, rfl, _⟩ := h
    rfl
  · obtain ⟨z, sg, m, rfl, h1, hm, hz, hc, k⟩ := h
    have nd : (["thing", "signs", "most", "sign"] : List Str).Nodup := by decide +kernel
    refine ⟨_, pss_cons (ps_if (PW.pt (pw_or (pt_not (pt_val (pe_isi T.isi T.str boot_Tstr (pv 0)))) (pw_or1 (pt_not (pt_chain op_le op_le pe_int (pe_callB call_len_str (by rfl) T.len PySem.boot_len (pa_cons (pv 0) pa_nil)) (pv 2)))))) (pss_one (ps_ret pe_bl)) pss_nil)
      (pss_cons (ps_for PassesOwn.never rfl (pi_str (pv 0)) (pg_name (i := 3) nd rfl (Or.inl rfl)) (pss_one (ps_if (pt_cmpR op_notIn_sign (pv 3) (pv 1) rfl) (pss_one (ps_ret pe_bl)) pss_nil)))
      (pss_one (ps_ret pe_bl))), ?_⟩
    refine ⟨_, rfl, _, _, "str", true, rfl, .base (.str z), kit_str_str, true, rfl, iteF ?_⟩
    refine ⟨_, rfl, z, rfl, Nat.le_trans hz (by decide), _, _, rfl, rfl, true, blT (by omega), iteT ⟨_, rfl, _, _, rfl, rfl, true, blT hm, iteF ?_⟩⟩
    refine ⟨_, rfl, z, rfl, for_it (walk_str (z := z)) (fun i σ H' => ∃ v : Option V, σ = [some (.str z), some (.str sg), some (.int m), v] ∧ H' = H) ⟨none, rfl, rfl⟩ (fun _ _ _ _ _ => trivial) ?_ ?_⟩
    · rintro i x σ H1 H2 hi ⟨v, rfl, rfl⟩ ⟨rfl, c, ec, rfl⟩
      have hin : c ∈ sg.cps.toList := hc c (by rw [← Array.mem_def]; exact Array.mem_of_getElem? ec)
      refine ⟨_, rfl, _, rfl, c, sg, rfl, rfl, false, nblT hin, iteF ?_⟩
      exact ⟨_, rfl, rfl⟩
    · rintro σ H1 ⟨v, rfl, rfl⟩
      exact k
/-! ### is_name, is_watch_name -/
def spIsName : Sp := fun vs H Q _ => ∃ z : Str, vs = [.str z] ∧ IsNm z ∧ Q (.bl true) H
theorem d_isName (T : Txt K mg D M) : Def P w K mg base "is_name" 2 ["thing"] spIsName := by
  have F1 : Def P w K mg base "of_signs" 1 _ _ := d_ofSigns T
  refine def_of (N := ["thing"]) T.isName ⟨rfl, rfl, rfl, by decide +kernel, rfl, by decide +kernel, by decide +kernel⟩ (fun _ _ _ _ _ _ us hl => match us, hl with | [_], _ => rfl) (fun vs H Q E h => ?_) (fun f cdv A outer s H vs Q E hr h => ?_)
  · obtain ⟨z, rfl, _⟩ := h
    rfl
  · obtain ⟨z, rfl, hz, k⟩ := h
    obtain ⟨tl, gl⟩ := T.gLetters
    refine ⟨_, pss_one (ps_ret (pe_def F1 hr (ha := pa_cons (pv 0) (pa_cons (pe_glob (v := .str letters) rfl gl ⟨_, rfl⟩) (pa_cons pe_int pa_nil))))), ?_⟩
    exact ⟨_, rfl, z, letters, 8, rfl, hz.2.1, by have := hz.2.2; omega, by have := hz.2.2; omega, fun c hc => in_letters (hz.1 c hc), k⟩
def spIsWatch : Sp := fun vs H Q _ => ∃ z : Str, vs = [.str z] ∧ IsWt z ∧ Q (.bl true) H
theorem d_isWatch (T : Txt K mg D M) : Def P w K mg base "is_watch_name" 3 ["thing"] spIsWatch := by
  have F1 : Def P w K mg base "is_name" 2 _ _ := d_isName T
  refine def_of (N := ["thing"]) T.isWatch ⟨rfl, rfl, rfl, by decide +kernel, rfl, by decide +kernel, by decide +kernel⟩ (fun _ _ _ _ _ _ us hl => match us, hl with | [_], _ => rfl) (fun vs H Q E h => ?_) (fun f cdv A outer s H vs Q E hr h => ?_)
  · obtain ⟨z, rfl, _⟩ := h
    rfl
  · obtain ⟨z, rfl, hz, k⟩ := h
    refine ⟨_, pss_one (ps_ret (pe_or (pe_cmpR op_eq (pv 0) pe_str (nomark _)) (pe_one (pe_def F1 hr (ha := pa_cons (pv 0) pa_nil))))), ?_⟩
    refine ⟨_, rfl, rfl, _, rfl, iteD (fun e => k) fun e => ⟨_, rfl, z, rfl, ?_, k⟩⟩
    rcases hz with h | h
    · exact absurd (congrArg V.str h) e
    · exact h
end
end Zw

/-! Zd: is_sign, is_look, is_guard, unlike, own. -/
namespace Zw
open PySem PySem.Spec PyProof.Rows L2
def sq (c : Nat) : Str := ⟨#[c]⟩
/-- a sign: none, or a name and ! or ? behind it -/
def IsSg (z : Str) : Prop := z = "" ∨ ∃ (n : Str) (c : Nat), IsNm n ∧ (c = 33 ∨ c = 63) ∧ z = n ++ sq c
theorem app_list (a b : Str) : (a ++ b).cps.toList = a.cps.toList ++ b.cps.toList := by
  show (a.cps ++ b.cps).toList = _
  rw [Array.toList_append]
theorem str_ext {a b : Str} (h : a.cps.toList = b.cps.toList) : a = b := by
  cases a with
  | mk x =>
    cases b with
    | mk y =>
      have e : x = y := Array.toList_inj.mp h
      rw [e]
theorem len_list (a : Str) : a.length = a.cps.toList.length := (Array.length_toList ..).symm
theorem cut_last (n : Str) (c : Nat) : cutS (n ++ sq c) none (some (-1)) = n := by
  have hl : (n ++ sq c).length = n.length + 1 := by
    rw [len_list, app_list, List.length_append, len_list]
    rfl
  have h1 : HT.sIx (n ++ sq c).length (n ++ sq c).length (some (-1)) = n.length := by
    show (if (-1 : Int) < 0 then ((-1 : Int) + ((n ++ sq c).length : Int)).toNat else min (-1 : Int).toNat (n ++ sq c).length) = n.length
    rw [if_pos (by decide), hl]
    omega
  apply str_ext
  unfold cutS
  rw [h1, HT.sIx_none, app_list, Nat.sub_zero, List.drop_zero]
  show ((n.cps.toList ++ (sq c).cps.toList).take n.length).toArray.toList = n.cps.toList
  rw [List.take_left' (len_list n).symm]
/-- a list, or a tuple, of these -/
abbrev SqLT (K : PySem.W.Frag) (H : Hp) (a : Addr) (xs : List V) : Prop := SqL K H a xs ∨ SqT K H a xs
section
variable {P : Program} {w : World} {K : PySem.W.Frag} {mg : Str → Option Value} {base : Heap} {D M : Addr}
def spIsSign : Sp := fun vs H Q _ => ∃ z : Str, vs = [.str z] ∧ IsSg z ∧ Q (.bl true) H
theorem d_isSign (T : Txt K mg D M) : Def P w K mg base "is_sign" 3 ["thing"] spIsSign := by
  have F1 : Def P w K mg base "is_name" 2 _ _ := d_isName T
  refine def_of (N := ["thing"]) T.isSign ⟨rfl, rfl, rfl, by decide +kernel, rfl, by decide +kernel, by decide +kernel⟩ (fun _ _ _ _ _ _ us hl => match us, hl with | [_], _ => rfl) (fun vs H Q E h => ?_) (fun f cdv A outer s H vs Q E hr h => ?_)
  · obtain ⟨z, rfl, _⟩ := h
    rfl
  · obtain ⟨z, rfl, hz, k⟩ := h
    refine ⟨_, pss_cons (ps_if (pt_not (pt_val (pe_isi T.isi T.str boot_Tstr (pv 0)))) (pss_one (ps_ret pe_bl)) pss_nil)
      (pss_one (ps_ret (pe_or (pe_cmpR op_eq (pv 0) pe_str (nomark _)) (pe_one (pe_and (pe_cmpR op_in_sign (pe_ix ix_str (pv 0) (pe_un un_neg pe_int) (fun _ _ => rfl)) pe_str rfl)
        (pe_one (pe_def F1 hr (ha := pa_cons (pe_slice sl_str (pv 0) po_none (po_some (pe_un un_neg pe_int))) pa_nil)))))))), ?_⟩
    refine ⟨_, rfl, _, _, "str", true, rfl, .base (.str z), kit_str_str, true, rfl, iteF ?_⟩
    refine ⟨_, rfl, rfl, _, rfl, iteD (fun e => k) fun e => ?_⟩
    rcases hz with h | ⟨n, c, hn, hc, rfl⟩
    · exact absurd (congrArg V.str h) e
    · have hlen : (n ++ sq c).length ≤ sizeLine := by
        rw [len_list, app_list, List.length_append, ← len_list]
        have := hn.2.2
        show n.length + 1 ≤ sizeLine
        rw [sizeLine_eq]
        omega
      have hin : c ∈ (Str.ofString "!?").cps.toList := by
        have e : (Str.ofString "!?").cps.toList = [33, 63] := by decide +kernel
        rw [e]
        rcases hc with rfl | rfl <;> simp
      refine ⟨_, rfl, _, rfl, n ++ sq c, _, c, rfl, rfl, hlen, by rw [app_list]; exact atI_last _ _, c, _, rfl, rfl, true, blT hin, iteT ?_⟩
      refine ⟨_, rfl, _, rfl, _, rfl, n ++ sq c, rfl, hlen, ?_⟩
      exact ⟨n, by show [V.str (cutS (n ++ sq c) none (some (-1)))] = _; rw [cut_last], hn, k⟩
/-! ### is_look -/
def LookOk (ws wds : List Str) (l : Look) : Prop := l.1 ∈ ws ∧ l.2.1 ∈ wds ∧ 0 ≤ l.2.2
def spIsLook (K : PySem.W.Frag) : Sp := fun vs H Q _ => ∃ (v : V) (a b : Addr) (l : Look) (ws wds : List Str), vs = [v, .ref b, .ref a] ∧ LookAt H v l ∧ SqL K H a (ws.map V.str) ∧ SqLT K H b (wds.map V.str) ∧ LookOk ws wds l ∧ Q (.bl true) H
theorem d_isLook (T : Txt K mg D M) : Def P w K mg base "is_look" 2 ["thing", "words", "watches"] (spIsLook K) := by
  have F1 : Def P w K mg base "is_whole" 1 _ _ := d_whole T
  refine def_of (N := ["thing", "words", "watches"]) T.isLook ⟨rfl, rfl, rfl, by decide +kernel, rfl, by decide +kernel, by decide +kernel⟩ (fun _ _ _ _ _ _ us hl => match us, hl with | [_, _, _], _ => rfl) (fun vs H Q E h => ?_) (fun f cdv A outer s H vs Q E hr h => ?_)
  · obtain ⟨v, a, b, l, ws, wds, rfl, _⟩ := h
    rfl
  · obtain ⟨v, a, b, l, ws, wds, rfl, ⟨t, rfl, ht⟩, ha, hb, hl, k⟩ := h
    refine ⟨_, pss_cons (ps_if (PW.pt (pw_or (pt_not (pt_val (pe_isi T.isi T.tuple boot_Ttuple (pv 0)))) (pw_or1 (pt_cmpR op_ne (pe_callB call_len_seq (by rfl) T.len PySem.boot_len (pa_cons (pv 0) pa_nil)) pe_int (nomark _))))) (pss_one (ps_ret pe_bl)) pss_nil)
      (pss_cons (ps_if (PW.pt (pw_or (pt_not (pt_val (pe_isi T.isi T.str boot_Tstr (pe_ix ix_tup (pv 0) pe_int (fun _ _ => rfl))))) (pw_or1 (pt_cmpR op_notIn_seq (pe_ix ix_tup (pv 0) pe_int (fun _ _ => rfl)) (pv 2) rfl)))) (pss_one (ps_ret pe_bl)) pss_nil)
      (pss_cons (ps_if (PW.pt (pw_or (pt_not (pt_val (pe_isi T.isi T.str boot_Tstr (pe_ix ix_tup (pv 0) pe_int (fun _ _ => rfl))))) (pw_or1 (pt_cmpR op_notIn_seq (pe_ix ix_tup (pv 0) pe_int (fun _ _ => rfl)) (pv 1) rfl)))) (pss_one (ps_ret pe_bl)) pss_nil)
      (pss_one (ps_ret (pe_and (pe_def F1 hr (ha := pa_cons (pe_ix ix_tup (pv 0) pe_int (fun _ _ => rfl)) pa_nil)) (pe_one (pe_cmpR op_ge (pe_ix ix_tup (pv 0) pe_int (fun _ _ => rfl)) pe_int (nomark _)))))))), ?_⟩
    have hT : SqT K H t (vLook l) := SqT.of ht
    have i0 : inV (.str l.1) (ws.map V.str) = true := inV_str hl.1
    have i1 : inV (.str l.2.1) (wds.map V.str) = true := inV_str hl.2.1
    refine ⟨_, rfl, _, _, "tuple", true, rfl, .base (.tup ht), kit_tup_tup, true, rfl, iteF ?_⟩
    refine ⟨_, rfl, t, _, rfl, .inr hT, rfl, false, nblT rfl, iteF ?_⟩
    refine ⟨_, rfl, t, _, _, .str l.1, rfl, rfl, hT, atI_nat (j := 0) rfl, _, _, "str", true, rfl, .base (.str _), kit_str_str, true, rfl, iteF ?_⟩
    refine ⟨_, rfl, t, _, _, .str l.1, rfl, rfl, hT, atI_nat (j := 0) rfl, _, rfl, a, _, rfl, .inl ha, rfl, flats ws, false, by show V.bl (!inV _ _) = _; rw [i0]; rfl, iteF ?_⟩
    refine ⟨_, rfl, t, _, _, .str l.2.1, rfl, rfl, hT, atI_nat (j := 1) rfl, _, _, "str", true, rfl, .base (.str _), kit_str_str, true, rfl, iteF ?_⟩
    refine ⟨_, rfl, t, _, _, .str l.2.1, rfl, rfl, hT, atI_nat (j := 1) rfl, _, rfl, b, _, rfl, hb, rfl, flats wds, false, by show V.bl (!inV _ _) = _; rw [i1]; rfl, iteF ?_⟩
    refine ⟨_, rfl, t, _, _, .int l.2.2, rfl, rfl, hT, atI_nat (j := 2) rfl, _, rfl, true, rfl, iteT ?_⟩
    refine ⟨_, rfl, t, _, _, .int l.2.2, rfl, rfl, hT, atI_nat (j := 2) rfl, _, _, rfl, rfl, ?_⟩
    show Q (V.bl (decide (0 ≤ l.2.2))) H
    rw [decide_eq_true hl.2.2]
    exact k
/-! ### own, unlike -/
def spOwn : Sp := fun vs H Q _ => ∃ (a : Addr) (xs : List V), vs = [.ref a] ∧ H a = some (.lst xs) ∧ ∀ p, H p = none → Q (.ref p) (upd H p (.lst xs))
theorem d_own (T : Txt K mg D M) : Def P w K mg base "own" 1 ["thing"] spOwn := by
  refine def_of (N := ["thing"]) T.own ⟨rfl, rfl, rfl, by decide +kernel, rfl, by decide +kernel, by decide +kernel⟩ (fun _ _ _ _ _ _ us hl => match us, hl with | [_], _ => rfl) (fun vs H Q E h => ?_) (fun f cdv A outer s H vs Q E hr h => ?_)
  · obtain ⟨a, xs, rfl, _⟩ := h
    rfl
  · obtain ⟨a, xs, rfl, ha, k⟩ := h
    refine ⟨_, pss_cons (ps_if (pt_val (pe_isi T.isi T.list boot_Tlist (pv 0))) (pss_one (ps_ret (pe_callTy call_list_of (by rfl) T.list boot_Tlist (pa_cons (pv 0) pa_nil)))) pss_nil) (pss_one (ps_ret (pv 0))), ?_⟩
    refine ⟨_, rfl, _, _, "list", true, rfl, .base (.lst ha), kit_list_list, true, rfl, iteT ?_⟩
    exact ⟨_, rfl, a, xs, rfl, .inl (SqL.of ha), fun p hp => k p hp⟩
def spUnlike (K : PySem.W.Frag) : Sp := fun vs H Q _ => ∃ (a : Addr) (ss : List Str), vs = [.ref a] ∧ SqL K H a (ss.map V.str) ∧ ss.Nodup ∧ ss.length ≤ 1000 ∧ Q (.bl true) H
theorem d_unlike (T : Txt K mg D M) : Def P w K mg base "unlike" 1 ["things"] (spUnlike K) := by
  refine def_of (N := ["things"]) T.unlike ⟨rfl, rfl, rfl, by decide +kernel, rfl, by decide +kernel, by decide +kernel⟩ (fun _ _ _ _ _ _ us hl => match us, hl with | [_], _ => rfl) (fun vs H Q E h => ?_) (fun f cdv A outer s H vs Q E hr h => ?_)
  · obtain ⟨a, ss, rfl, _⟩ := h
    rfl
  · obtain ⟨a, ss, rfl, ha, nd, hl, k⟩ := h
    refine ⟨_, pss_one (ps_ret (pe_cmpR op_eq (pe_lenSetN rfl (by rfl) T.len (by rfl) T.set (pv 0)) (pe_callB call_len_seq (by rfl) T.len PySem.boot_len (pa_cons (pv 0) pa_nil)) (nomark _))), ?_⟩
    refine ⟨_, rfl, a, ss, rfl, ha, nd, hl, _, rfl, a, _, rfl, .inl ha, rfl, ?_⟩
    show Q (V.bl (decide (V.int ((ss.length : Nat) : Int) = V.int (((ss.map V.str).length : Nat) : Int)))) H
    rw [decide_eq_true (by rw [List.length_map])]
    exact k
end
end Zw

/-! Ze: is_guard, are_watches, is_room, are_rooms. -/
namespace Zw
open PySem PySem.Spec PyProof.Rows L2
/-- all looks of a guard are such -/
def GuardOk (ws wds : List Str) (g : List Look) : Prop := g.length ≤ 1000 ∧ ∀ l, l ∈ g → LookOk ws wds l
section
variable {P : Program} {w : World} {K : PySem.W.Frag} {mg : Str → Option Value} {base : Heap} {D M : Addr}
theorem inYes {σ : L2.St} {H : Hp} {Q : Bool → Hp → Prop} (h : Q true H) : tYes σ H Q := h
/-- the end of «all([..])»: the list holds truths alone -/
theorem all_get {H0 H : Hp} {p : Addr} {i : Nat} {G : Nat → Unit → Prop} (v : PvX H0 p RTrue G i H) : ∃ bs : List Bool, H p = some (.lst (bs.map V.bl)) ∧ bs.all id = true := by
  obtain ⟨acc, ys, hD, ha, hl, _⟩ := v.acc
  obtain ⟨bs, rfl, hb⟩ := trues ha
  exact ⟨bs, hD, hb⟩
def spIsGuard (K : PySem.W.Frag) : Sp := fun vs H Q _ => ∃ (v : V) (a b : Addr) (g : List Look) (ws wds : List Str), vs = [v, .ref b, .ref a] ∧ GuardAt H v g ∧ SqL K H a (ws.map V.str) ∧ (∀ H', Same H H' → SqLT K H' b (wds.map V.str)) ∧ GuardOk ws wds g ∧ ∀ H', Same H H' → Q (.bl true) H'
theorem d_isGuard (T : Txt K mg D M) : Def P w K mg base "is_guard" 3 ["thing", "words", "watches"] (spIsGuard K) := by
  have F1 : Def P w K mg base "is_look" 2 _ _ := d_isLook T
  have sc : FnScope ["thing", "words", "watches", "look"] ["thing", "words", "watches"] (defScope sIsGuard) := ⟨rfl, rfl, rfl, by decide +kernel, rfl, by decide +kernel, by decide +kernel⟩
  refine def_of T.isGuard sc (fun _ _ _ _ _ _ us hl => match us, hl with | [_, _, _], _ => rfl) (fun vs H Q E h => ?_) (fun f cdv A outer s H vs Q E hr h => ?_)
  · obtain ⟨v, a, b, g, ws, wds, rfl, _⟩ := h
    rfl
  · obtain ⟨v, a, b, g, ws, wds, rfl, ⟨l, xs, rfl, hL, hx⟩, ha, hb, hg, k⟩ := h
    refine ⟨_, pss_one (ps_ret (pe_and (pe_isi T.isi T.list boot_Tlist (pv 0)) (pe_one (pe_callB (cr_all rfl) (by rfl) T.all boot_Ball
      (pa_cons (pe_lc (own := [("look", 3)]) (g := gName 3) (tt := tYes) rfl sc.nd (pi_list (pv 0)) (blkOk_by (N := ["thing", "words", "watches", "look"]) (sc := defScope sIsGuard) (by decide +kernel)) (fun _ _ _ _ _ => pg_name (i := 3) sc.nd rfl (Or.inl rfl)) (fun _ _ _ _ _ => pts_nil)
        (fun _ _ _ _ _ => pe_def F1 hr (ha := pa_cons (pv 3) (pa_cons (pv 1) (pa_cons (pv 2) pa_nil))))) pa_nil))))), ?_⟩
    refine ⟨_, rfl, _, _, "list", true, rfl, .base (.lst hL), kit_list_list, true, rfl, iteT ?_⟩
    refine ⟨_, rfl, l, rfl, ⟨_, SqL.of hL⟩, fun p hp => lc_list (K := K) (a := l) (xs := xs) (PvX H p RTrue fun _ _ => True) (PvX.start hp) (fun i H' _ v => v.same.seq (SqL.of hL)) (fun i x H' hi v => ?_) fun H' v => ?_⟩
    rotate_left
    · obtain ⟨bs, hD, hb⟩ := all_get v
      refine ⟨p, bs, rfl, SqL.of hD, ?_⟩
      show Q (.bl (bs.all id)) H'
      rw [hb]
      exact k H' v.same
    obtain ⟨lk, elk, hlk⟩ := hx.left hi
    refine ⟨rfl, inYes (iteT ⟨_, rfl, _, rfl, _, rfl, x, a, b, lk, ws, wds, rfl, hlk.mono v.same, v.same.seq ha, hb H' v.same, hg.2 lk (List.mem_of_getElem? elk), ?_⟩)⟩
    exact v.next RTrue.mono (Same.refl _) (show RTrue _ _ () from rfl) trivial (by have := lt_get elk; have := hg.1; omega)
/-! ### are_watches -/
def WatchesOk (ws : List Str) : Prop := ws.length ≤ 7 ∧ (∀ s, s ∈ ws → IsWt s) ∧ ws.Nodup
def spAreWatches : Sp := fun vs H Q _ => ∃ (v : V) (ws : List Str), vs = [v] ∧ StrsAt H v ws ∧ WatchesOk ws ∧ ∀ H', Same H H' → Q (.bl true) H'
theorem d_areWatches (T : Txt K mg D M) : Def P w K mg base "are_watches" 4 ["thing"] spAreWatches := by
  have F1 : Def P w K mg base "is_watch_name" 3 _ _ := d_isWatch T
  have F2 : Def P w K mg base "unlike" 1 _ _ := d_unlike T
  have sc : FnScope ["thing", "watch"] ["thing"] (defScope sAreWatches) := ⟨rfl, rfl, rfl, by decide +kernel, rfl, by decide +kernel, by decide +kernel⟩
  refine def_of T.areWatches sc (fun _ _ _ _ _ _ us hl => match us, hl with | [_], _ => rfl) (fun vs H Q E h => ?_) (fun f cdv A outer s H vs Q E hr h => ?_)
  · obtain ⟨v, ws, rfl, _⟩ := h
    rfl
  · obtain ⟨v, ws, rfl, ⟨a, rfl, ha⟩, ⟨h7, hw, nd⟩, k⟩ := h
    obtain ⟨tm, gm⟩ := T.gMW
    refine ⟨_, pss_cons (ps_if (PW.pt (pw_or (pt_not (pt_val (pe_isi T.isi T.list boot_Tlist (pv 0)))) (pw_or1 (pt_cmpR op_gt (pe_callB call_len_seq (by rfl) T.len PySem.boot_len (pa_cons (pv 0) pa_nil)) (pe_glob (v := .int 7) rfl gm ⟨_, rfl⟩) (nomark _))))) (pss_one (ps_ret pe_bl)) pss_nil)
      (pss_one (ps_ret (pe_and (pe_callB (cr_all rfl) (by rfl) T.all boot_Ball
        (pa_cons (pe_lc (own := [("watch", 1)]) (g := gName 1) (tt := tYes) rfl sc.nd (pi_list (pv 0)) (blkOk_by (N := ["thing", "watch"]) (sc := defScope sAreWatches) (by decide +kernel)) (fun _ _ _ _ _ => pg_name (i := 1) sc.nd rfl (Or.inl rfl)) (fun _ _ _ _ _ => pts_nil)
          (fun _ _ _ _ _ => pe_def F1 hr (ha := pa_cons (pv 1) pa_nil))) pa_nil)) (pe_one (pe_def F2 hr (ha := pa_cons (pv 0) pa_nil)))))), ?_⟩
    refine ⟨_, rfl, _, _, "list", true, rfl, .base (.lst ha), kit_list_list, true, rfl, iteF ?_⟩
    refine ⟨_, rfl, a, _, rfl, .inl (SqL.of ha), _, _, rfl, rfl, false, blF (by rw [List.length_map]; omega), iteF ?_⟩
    refine ⟨_, rfl, a, rfl, ⟨_, SqL.of ha⟩, fun p hp => lc_list (K := K) (a := a) (xs := ws.map V.str) (PvX H p RTrue fun _ _ => True) (PvX.start hp) (fun i H' _ v => v.same.seq (SqL.of ha)) (fun i x H' hi v => ?_) fun H2 v => ?_⟩
    · obtain ⟨y, ey, rfl⟩ := get_map hi
      refine ⟨rfl, inYes (iteT ⟨_, rfl, y, rfl, hw y (List.mem_of_getElem? ey), ?_⟩)⟩
      exact v.next RTrue.mono (Same.refl _) (show RTrue _ _ () from rfl) trivial (by have := lt_get ey; omega)
    · obtain ⟨bs, hD, hb⟩ := all_get v
      exact ⟨p, bs, rfl, SqL.of hD, true, congrArg V.bl hb, iteT ⟨_, rfl, a, ws, rfl, v.same.seq (SqL.of ha), nd, by omega, k H2 v.same⟩⟩
/-! ### is_room -/
def RoomOk (ws : List Str) (r : RoomD) : Prop := IsNm r.1 ∧ GuardOk ws wBelow r.2
def spIsRoom (K : PySem.W.Frag) : Sp := fun vs H Q _ => ∃ (v : V) (a : Addr) (r : RoomD) (ws : List Str), vs = [v, .ref a] ∧ RoomAt H v r ∧ SqL K H a (ws.map V.str) ∧ RoomOk ws r ∧ ∀ H', Same H H' → Q (.bl true) H'
theorem d_isRoom (T : Txt K mg D M) : Def P w K mg base "is_room" 4 ["thing", "watches"] (spIsRoom K) := by
  have F1 : Def P w K mg base "of_signs" 1 _ _ := d_ofSigns T
  have F2 : Def P w K mg base "is_guard" 3 _ _ := d_isGuard T
  have sc : FnScope ["thing", "watches"] ["thing", "watches"] (defScope sIsRoom) := ⟨rfl, rfl, rfl, by decide +kernel, rfl, by decide +kernel, by decide +kernel⟩
  refine def_of T.isRoom sc (fun _ _ _ _ _ _ us hl => match us, hl with | [_, _], _ => rfl) (fun vs H Q E h => ?_) (fun f cdv A outer s H vs Q E hr h => ?_)
  · obtain ⟨v, a, r, ws, rfl, _⟩ := h
    rfl
  · obtain ⟨v, a, r, ws, rfl, ⟨t, g, rfl, ht, hg⟩, ha, ⟨hn, hk⟩, k⟩ := h
    obtain ⟨tl, gl⟩ := T.gLetters
    obtain ⟨b, gb, hb⟩ := T.gBelow
    refine ⟨_, pss_cons (ps_if (PW.pt (pw_or (pt_not (pt_val (pe_isi T.isi T.tuple boot_Ttuple (pv 0)))) (pw_or1 (pt_cmpR op_ne (pe_callB call_len_seq (by rfl) T.len PySem.boot_len (pa_cons (pv 0) pa_nil)) pe_int (nomark _))))) (pss_one (ps_ret pe_bl)) pss_nil)
      (pss_one (ps_ret (pe_and (pe_def F1 hr (ha := pa_cons (pe_ix ix_tup (pv 0) pe_int (fun _ _ => rfl)) (pa_cons (pe_op op_add_str (pe_glob (v := .str letters) rfl gl ⟨_, rfl⟩) pe_str) (pa_cons pe_int pa_nil))))
        (pe_one (pe_def F2 hr (ha := pa_cons (pe_ix ix_tup (pv 0) pe_int (fun _ _ => rfl)) (pa_cons (pe_glob (v := .ref b) rfl gb rfl) (pa_cons (pv 1) pa_nil)))))))), ?_⟩
    have hT := SqT.of (K := K) ht
    have e1 : letters.length + (Str.ofString "/").length ≤ sizeLine := by decide +kernel
    have e2 : letters ++ Str.ofString "/" = slashed := by decide +kernel
    refine ⟨_, rfl, _, _, "tuple", true, rfl, .base (.tup ht), kit_tup_tup, true, rfl, iteF ?_⟩
    refine ⟨_, rfl, t, _, rfl, .inr hT, rfl, false, nblT rfl, iteF ?_⟩
    refine ⟨_, rfl, t, _, _, .str r.1, rfl, rfl, hT, atI_nat (j := 0) rfl, _, _, rfl, rfl, e1, r.1, _, 60, rfl, hn.2.1, by have := hn.2.2; omega, by have := hn.2.2; omega, fun c hc => by rw [e2]; exact in_slashed (hn.1 c hc), true, rfl, iteT ?_⟩
    exact ⟨_, rfl, t, _, _, g, rfl, rfl, hT, atI_nat (j := 1) rfl, _, rfl, g, a, b, r.2, ws, wBelow, rfl, hg, ha, fun H' _ => .inr (hb H'), hk, k⟩
/-! ### are_rooms -/
def RoomsOk (ws : List Str) (rs : List RoomD) : Prop := rs ≠ [] ∧ rs.length ≤ 64 ∧ (∀ r, r ∈ rs → RoomOk ws r) ∧ (rs.map (·.1)).Nodup
def spAreRooms (K : PySem.W.Frag) : Sp := fun vs H Q _ => ∃ (v : V) (a : Addr) (rs : List RoomD) (ws : List Str), vs = [v, .ref a] ∧ RoomsAt H v rs ∧ SqL K H a (ws.map V.str) ∧ (∀ s, s ∈ ws → OkS s) ∧ RoomsOk ws rs ∧ ∀ H', Same H H' → Q (.bl true) H'
theorem ok_rooms {ws : List Str} {rs : List RoomD} (hw : ∀ s, s ∈ ws → OkS s) (h : RoomsOk ws rs) : ∀ r, r ∈ rs → OkS r.1 ∧ ∀ l, l ∈ r.2 → OkL l := fun r hr => by
  obtain ⟨h1, _, h2⟩ := h.2.2.1 r hr
  exact ⟨h1.ok, fun l hl => ⟨hw _ (h2 l hl).1, wBelow_ok _ (h2 l hl).2.1⟩⟩
theorem d_areRooms (T : Txt K mg D M) : Def P w K mg base "are_rooms" 5 ["thing", "watches"] (spAreRooms K) := by
  have F1 : Def P w K mg base "is_room" 4 _ _ := d_isRoom T
  have F2 : Def P w K mg base "unlike" 1 _ _ := d_unlike T
  have sc : FnScope ["thing", "watches", "room"] ["thing", "watches"] (defScope sAreRooms) := ⟨rfl, rfl, rfl, by decide +kernel, rfl, by decide +kernel, by decide +kernel⟩
  refine def_of T.areRooms sc (fun _ _ _ _ _ _ us hl => match us, hl with | [_, _], _ => rfl) (fun vs H Q E h => ?_) (fun f cdv A outer s H vs Q E hr h => ?_)
  · obtain ⟨v, a, rs, ws, rfl, _⟩ := h
    rfl
  · obtain ⟨v, a, rs, ws, rfl, ⟨l, xs, rfl, hL, hx⟩, ha, hw, hrs, k⟩ := h
    refine ⟨_, pss_cons (ps_if (PW.pt (pw_or (pt_not (pt_val (pe_isi T.isi T.list boot_Tlist (pv 0)))) (pw_or1 (pt_cmpR (op_eqD hr.units) (pv 0) (pe_lst pa_nil) (nomark _))))) (pss_one (ps_ret pe_bl)) pss_nil)
      (pss_one (ps_ret (pe_and (pe_callB (cr_all rfl) (by rfl) T.all boot_Ball
        (pa_cons (pe_lc (own := [("room", 2)]) (g := gName 2) (tt := tYes) rfl sc.nd (pi_list (pv 0)) (blkOk_by (N := ["thing", "watches", "room"]) (sc := defScope sAreRooms) (by decide +kernel)) (fun _ _ _ _ _ => pg_name (i := 2) sc.nd rfl (Or.inl rfl)) (fun _ _ _ _ _ => pts_nil)
          (fun _ _ _ _ _ => pe_def F1 hr (ha := pa_cons (pv 2) (pa_cons (pv 1) pa_nil)))) pa_nil))
        (pe_one (pe_def F2 hr (ha := pa_cons (pe_lc (own := [("room", 2)]) (g := gName 2) (tt := tYes) rfl sc.nd (pi_list (pv 0)) (blkOk_by (N := ["thing", "watches", "room"]) (sc := defScope sAreRooms) (by decide +kernel)) (fun _ _ _ _ _ => pg_name (i := 2) sc.nd rfl (Or.inl rfl)) (fun _ _ _ _ _ => pts_nil)
          (fun _ _ _ _ _ => pe_ix (r := rIxT K) ix_tup (pv 2) pe_int (fun _ _ => rfl))) pa_nil)))))), ?_⟩
    refine ⟨_, rfl, _, _, "list", true, rfl, .base (.lst hL), kit_list_list, true, rfl, iteF ?_⟩
    have hlen : xs.length ≤ 64 := by rw [hx.len]; exact hrs.2.1
    refine ⟨_, rfl, Nat.zero_le _, fun e he => ?_⟩
    have s0 : Same H (upd H e (.lst [])) := Same.new he
    have hR : Dp K (upd H e (.lst [])) (.ref l) (dRooms rs) := RoomsAt.dp ⟨l, xs, rfl, s0 _ _ hL, hx.mono fun _ _ r => r.mono s0⟩
    refine ⟨dRooms rs, .list [], hR, .lst (SqL.of upd_same) .nil, shaped_of (can_rooms (ok_rooms hw hrs)) (Nat.le_trans (dep_rooms rs) (by decide)), shaped_of rfl (by decide), false, ?_, iteF ?_⟩
    · cases rs with
      | nil => exact absurd rfl hrs.1
      | cons r rs => rfl
    refine ⟨_, rfl, l, rfl, ⟨_, SqL.of (s0 _ _ hL)⟩, fun p hp => lc_list (K := K) (a := l) (xs := xs) (PvX (upd H e (.lst [])) p RTrue fun _ _ => True) (PvX.start hp) (fun i H' _ v => v.same.seq (s0.seq (SqL.of hL))) (fun i x H' hi v => ?_) fun H2 v => ?_⟩
    · obtain ⟨r, er, hr'⟩ := hx.left hi
      have sH := s0.trans v.same
      refine ⟨rfl, inYes (iteT ⟨_, rfl, _, rfl, x, a, r, ws, rfl, hr'.mono sH, sH.seq ha, hrs.2.2.1 r (List.mem_of_getElem? er), fun H2 s2 => ?_⟩)⟩
      exact v.next RTrue.mono s2 (show RTrue _ _ () from rfl) trivial (by have := lt_get hi; omega)
    · have s3 := s0.trans v.same
      obtain ⟨bs, hD, hb⟩ := all_get v
      refine ⟨p, bs, rfl, SqL.of hD, true, congrArg V.bl hb, iteT ⟨_, rfl, l, rfl, ⟨_, SqL.of (s3 _ _ hL)⟩, fun p hp => lc_list (K := K) (a := l) (xs := xs) (PvX H2 p RStr fun j y => (rs.map (·.1))[j]? = some y) (PvX.start hp) (fun i H' _ v => v.same.seq (s3.seq (SqL.of hL))) (fun i x H' hi v => ?_) fun H' v => ?_⟩⟩
      · obtain ⟨r, er, t, g, rfl, ht, _⟩ := hx.left hi
        have hT : SqT K H' t _ := SqT.of (v.same _ _ (s3 _ _ ht))
        refine ⟨rfl, inYes (iteT ⟨_, rfl, t, _, _, .str r.1, rfl, rfl, hT, atI_nat (j := 0) rfl, ?_⟩)⟩
        exact v.next RStr.mono (Same.refl _) (show RStr _ _ r.1 from rfl) (get_map_of er) (by have := lt_get hi; omega)
      · obtain ⟨acc, ys, hD, hacc, hl, hg⟩ := v.acc
        have ey : ys = rs.map (·.1) := list_eq (by rw [hl, List.length_map, hx.len]) hg
        rw [strs_of hacc, ey] at hD
        exact ⟨p, rs.map (·.1), rfl, SqL.of hD, hrs.2.2.2, by rw [List.length_map]; have := hrs.2.1; omega, k H' (s3.trans v.same)⟩
end
end Zw

/-! Zf: Door: __init__, asks, sets; is_door. -/
namespace Zw
open PySem PySem.Spec PyProof.Rows L2
def dfs (st en sg : Str) (lk bk : Addr) : List (Str × V) := putF "backs" (.ref bk) (putF "looks" (.ref lk) (putF "sign" (.str sg) (putF "end" (.str en) (putF "start" (.str st) []))))
theorem dfs_start (st en sg : Str) (lk bk : Addr) : (dfs st en sg lk bk).lookup ("start" : Str) = some (.str st) := by
  unfold dfs
  rw [lookup_putF, if_neg (by decide +kernel), lookup_putF, if_neg (by decide +kernel), lookup_putF, if_neg (by decide +kernel), lookup_putF, if_neg (by decide +kernel), lookup_putF, if_pos rfl]
theorem dfs_end (st en sg : Str) (lk bk : Addr) : (dfs st en sg lk bk).lookup ("end" : Str) = some (.str en) := by
  unfold dfs
  rw [lookup_putF, if_neg (by decide +kernel), lookup_putF, if_neg (by decide +kernel), lookup_putF, if_neg (by decide +kernel), lookup_putF, if_pos rfl]
theorem dfs_sign (st en sg : Str) (lk bk : Addr) : (dfs st en sg lk bk).lookup ("sign" : Str) = some (.str sg) := by
  unfold dfs
  rw [lookup_putF, if_neg (by decide +kernel), lookup_putF, if_neg (by decide +kernel), lookup_putF, if_pos rfl]
theorem dfs_looks (st en sg : Str) (lk bk : Addr) : (dfs st en sg lk bk).lookup ("looks" : Str) = some (.ref lk) := by
  unfold dfs
  rw [lookup_putF, if_neg (by decide +kernel), lookup_putF, if_pos rfl]
theorem dfs_backs (st en sg : Str) (lk bk : Addr) : (dfs st en sg lk bk).lookup ("backs" : Str) = some (.ref bk) := by
  unfold dfs
  rw [lookup_putF, if_pos rfl]
theorem dfs_no (st en sg : Str) (lk bk : Addr) {m : Str} (h1 : ¬ m = "backs") (h2 : ¬ m = "looks") (h3 : ¬ m = "sign") (h4 : ¬ m = "end") (h5 : ¬ m = "start") : (dfs st en sg lk bk).lookup m = none := by
  unfold dfs
  rw [lookup_putF, if_neg h1, lookup_putF, if_neg h2, lookup_putF, if_neg h3, lookup_putF, if_neg h4, lookup_putF, if_neg h5]
  rfl
theorem put_len {f : Str} {v : V} {fs : List (Str × V)} {n : Nat} (h : fs.length ≤ n) : (putF f v fs).length ≤ n + 1 := Nat.le_trans (length_putF f v fs) (Nat.succ_le_succ h)
/-- a Door stands at v; its lists hold xs, ys -/
def DoorRaw (D : Addr) (H : Hp) (v : V) (st en sg : Str) (xs ys : List V) : Prop := ∃ p dx lk bk, v = .ref p ∧ H p = some (.ins D dx (dfs st en sg lk bk)) ∧ H lk = some (.lst xs) ∧ H bk = some (.lst ys)
/-- a Door of these -/
def DoorAt (D : Addr) (H : Hp) (v : V) (d : DoorD) : Prop := ∃ xs, DoorRaw D H v d.st d.en d.sg xs (d.nt.map V.str) ∧ All2 (LookAt H) xs d.gd
theorem DoorRaw.mono {D : Addr} {H H' : Hp} {v : V} {st en sg : Str} {xs ys : List V} (s : Same H H') (h : DoorRaw D H v st en sg xs ys) : DoorRaw D H' v st en sg xs ys := by
  obtain ⟨p, dx, lk, bk, e, h1, h2, h3⟩ := h
  exact ⟨p, dx, lk, bk, e, s _ _ h1, s _ _ h2, s _ _ h3⟩
theorem DoorAt.mono {D : Addr} {H H' : Hp} {v : V} {d : DoorD} (s : Same H H') (h : DoorAt D H v d) : DoorAt D H' v d := by
  obtain ⟨xs, h, k⟩ := h
  exact ⟨xs, h.mono s, k.mono fun _ _ r => r.mono s⟩
section
variable {P : Program} {w : World} {K : PySem.W.Frag} {mg : Str → Option Value} {base : Heap} {D M : Addr}
def spDInit (D : Addr) : Sp := fun vs H Q _ => ∃ (x g b dx : Addr) (st en sg : Str) (xs ys : List V), vs = [.ref x, .str st, .str en, .ref g, .ref b, .str sg] ∧ H x = some (.ins D dx []) ∧ H g = some (.lst xs) ∧ H b = some (.lst ys) ∧
  ∀ (H' : Hp) (lk bk : Addr), (∀ a o, H a = some o → a ≠ x → H' a = some o) → H' x = some (.ins D dx (dfs st en sg lk bk)) → H lk = none → H bk = none → H' lk = some (.lst xs) → H' bk = some (.lst ys) → Q .non H'
theorem d_dInit (T : Txt K mg D M) {f : Addr} {fd : FuncData} (F : FunD K "__init__" "Door.__init__" (defArgs sDInit) (defBody sDInit) (defScope sDInit) [.str ""] [] f fd) :
    FnOk P w K mg base CX0 2 f fd ["self", "start", "end", "guard", "noughts", "sign"] (spDInit D) := by
  have F1 : Def P w K mg base "own" 1 _ _ := d_own T
  refine FnP.okN (N := ["self", "start", "end", "guard", "noughts", "sign"]) F ⟨rfl, rfl, rfl, by decide +kernel, rfl, by decide +kernel, by decide +kernel⟩ (fun vs H Q E h => ?_) (fun cdv A outer s H vs Q E hr h => ?_)
  · obtain ⟨x, g, b, dx, st, en, sg, xs, ys, rfl, _⟩ := h
    rfl
  · obtain ⟨x, g, b, dx, st, en, sg, xs, ys, rfl, hx, hg, hb, k⟩ := h
    refine ⟨_, pss_cons (ps_fld (pv 0) (pv 1) rfl) (pss_cons (ps_fld (pv 0) (pv 2) rfl) (pss_cons (ps_fld (pv 0) (pv 5) rfl) (pss_cons (ps_fld (pv 0) (pe_def F1 hr (ha := pa_cons (pv 3) pa_nil)) rfl) (pss_one (ps_fld (pv 0) (pe_def F1 hr (ha := pa_cons (pv 4) pa_nil)) rfl))))), ?_⟩
    have ngx : g ≠ x := ne_of hg hx (by intro q; cases q)
    have nbx : b ≠ x := ne_of hb hx (by intro q; cases q)
    refine ⟨_, rfl, _, rfl, x, D, dx, [], rfl, hx, T.iD.cl, T.nDstart, by decide, ?_⟩
    refine ⟨_, rfl, _, rfl, x, D, dx, _, rfl, upd_same, T.iD.cl, T.nDend, Nat.lt_of_le_of_lt (put_len (Nat.zero_le 0)) (by decide), ?_⟩
    refine ⟨_, rfl, _, rfl, x, D, dx, _, rfl, upd_same, T.iD.cl, T.nDsign, Nat.lt_of_le_of_lt (put_len (put_len (Nat.zero_le 0))) (by decide), ?_⟩
    refine ⟨_, rfl, g, xs, rfl, by rw [upd_upd, upd_upd, upd_ne ngx]; exact hg, fun lk hlk => ?_⟩
    rw [upd_upd, upd_upd] at hlk ⊢
    have nlx : x ≠ lk := fun q => by rw [← q, upd_same] at hlk; cases hlk
    have hlk0 : H lk = none := by rw [upd_ne nlx.symm] at hlk; exact hlk
    refine ⟨_, rfl, x, D, dx, _, rfl, by rw [upd_ne nlx, upd_same], T.iD.cl, T.nDlooks, Nat.lt_of_le_of_lt (put_len (put_len (put_len (Nat.zero_le 0)))) (by decide), ?_⟩
    have nbl : b ≠ lk := ne_of_none hb hlk0
    refine ⟨_, rfl, b, ys, rfl, by rw [upd_ne nbx, upd_ne nbl, upd_ne nbx]; exact hb, fun bk hbk => ?_⟩
    have nbkx : x ≠ bk := fun q => by rw [← q, upd_same] at hbk; cases hbk
    have nbkl : lk ≠ bk := fun q => by rw [← q, upd_ne nlx.symm, upd_same] at hbk; cases hbk
    have hbk0 : H bk = none := by rw [upd_ne nbkx.symm, upd_ne nbkl.symm, upd_ne nbkx.symm] at hbk; exact hbk
    refine ⟨_, rfl, x, D, dx, _, rfl, by rw [upd_ne nbkx, upd_same], T.iD.cl, T.nDbacks, Nat.lt_of_le_of_lt (put_len (put_len (put_len (put_len (Nat.zero_le 0))))) (by decide), ?_⟩
    refine k _ lk bk (fun a o e ha => ?_) upd_same hlk0 hbk0 ?_ ?_
    · rw [upd_ne ha, upd_ne (ne_of_none e hbk0), upd_ne ha, upd_ne (ne_of_none e hlk0), upd_ne ha]
      exact e
    · rw [upd_ne nlx.symm, upd_ne nbkl, upd_ne nlx.symm, upd_same]
    · rw [upd_ne nbkx.symm, upd_same]
/-! how its arguments bind -/
theorem dInit_b5 {f : Addr} {fd : FuncData} (F : FunD K "__init__" "Door.__init__" (defArgs sDInit) (defBody sDInit) (defScope sDInit) [.str ""] [] f fd) : ∃ ds, Vals [.str ""] ds ∧ Binds K fd ["self", "start", "end", "guard", "noughts", "sign"] ds :=
  F.binds1 (ps := ["self", "start", "end", "guard", "noughts", "sign"]) 5 0 (by simp) rfl fun T kV doc pm an cdv ct us its hu hi => match us, hu, its, hi with
    | [_, _, _, _, _], _, [_], _ => ⟨_, rfl, rfl⟩
theorem dInit_b6 {f : Addr} {fd : FuncData} (F : FunD K "__init__" "Door.__init__" (defArgs sDInit) (defBody sDInit) (defScope sDInit) [.str ""] [] f fd) : Binds K fd ["self", "start", "end", "guard", "noughts", "sign"] [] := by
  obtain ⟨ds, r, b⟩ := F.binds1 (ps := ["self", "start", "end", "guard", "noughts", "sign"]) 6 1 (by simp) rfl fun T kV doc pm an cdv ct us its hu hi => match us, hu, its, hi with
    | [_, _, _, _, _, _], _, [_], _ => ⟨_, rfl, rfl⟩
  cases r
  exact b
/-! asks, sets -/
def spAsks (D : Addr) : Sp := fun vs H Q _ => ∃ (v : V) (st en sg : Str) (xs ys : List V), vs = [v] ∧ DoorRaw D H v st en sg xs ys ∧ ∀ p, H p = none → Q (.ref p) (upd H p (.lst xs))
theorem d_asks (T : Txt K mg D M) : Mth P w K mg base D "asks" 2 ["self"] (spAsks D) := by
  have F1 : Def P w K mg base "own" 1 _ _ := d_own T
  refine mth_of (N := ["self"]) T.asks ⟨rfl, rfl, rfl, by decide +kernel, rfl, by decide +kernel, by decide +kernel⟩ (fun _ _ _ _ _ _ us hl => match us, hl with | [_], _ => rfl) (fun vs H Q E h => ?_) (fun f cdv A outer s H vs Q E hr h => ?_)
  · obtain ⟨v, st, en, sg, xs, ys, rfl, _⟩ := h
    rfl
  · obtain ⟨v, st, en, sg, xs, ys, rfl, ⟨p, dx, lk, bk, rfl, hp, hlk, hbk⟩, k⟩ := h
    refine ⟨_, pss_one (ps_ret (pe_def F1 hr (ha := pa_cons (pe_fld (pv 0) rfl) pa_nil))), ?_⟩
    exact ⟨_, rfl, p, D, dx, _, _, rfl, hp, T.iD.cl, T.nDlooks, dfs_looks .., lk, xs, rfl, hlk, k⟩
def spSets (D : Addr) : Sp := fun vs H Q _ => ∃ (v : V) (st en sg : Str) (xs ys : List V), vs = [v] ∧ DoorRaw D H v st en sg xs ys ∧ ∀ p, H p = none → Q (.ref p) (upd H p (.lst ys))
theorem d_sets (T : Txt K mg D M) : Mth P w K mg base D "sets" 2 ["self"] (spSets D) := by
  have F1 : Def P w K mg base "own" 1 _ _ := d_own T
  refine mth_of (N := ["self"]) T.sets ⟨rfl, rfl, rfl, by decide +kernel, rfl, by decide +kernel, by decide +kernel⟩ (fun _ _ _ _ _ _ us hl => match us, hl with | [_], _ => rfl) (fun vs H Q E h => ?_) (fun f cdv A outer s H vs Q E hr h => ?_)
  · obtain ⟨v, st, en, sg, xs, ys, rfl, _⟩ := h
    rfl
  · obtain ⟨v, st, en, sg, xs, ys, rfl, ⟨p, dx, lk, bk, rfl, hp, hlk, hbk⟩, k⟩ := h
    refine ⟨_, pss_one (ps_ret (pe_def F1 hr (ha := pa_cons (pe_fld (pv 0) rfl) pa_nil))), ?_⟩
    exact ⟨_, rfl, p, D, dx, _, _, rfl, hp, T.iD.cl, T.nDbacks, dfs_backs .., bk, ys, rfl, hbk, k⟩
/-! is_door -/
def DoorOk (ws names : List Str) (d : DoorD) : Prop := d.st ∈ names ∧ d.en ∈ names ∧ GuardOk ws wAll d.gd ∧ (∀ s, s ∈ d.nt → s ∈ ws) ∧ d.nt.Nodup ∧ d.nt.length ≤ 7 ∧ IsSg d.sg
def spIsDoor (K : PySem.W.Frag) (D : Addr) : Sp := fun vs H Q _ => ∃ (v : V) (a b : Addr) (d : DoorD) (ws names : List Str), vs = [v, .ref a, .ref b] ∧ DoorAt D H v d ∧ SqL K H a (ws.map V.str) ∧ SqL K H b (names.map V.str) ∧ DoorOk ws names d ∧ ∀ H', Same H H' → Q (.bl true) H'
theorem d_isDoor (T : Txt K mg D M) : Def P w K mg base "is_door" 4 ["thing", "watches", "names"] (spIsDoor K D) := by
  have F1 : Def P w K mg base "is_sign" 3 _ _ := d_isSign T
  have F2 : Def P w K mg base "is_guard" 3 _ _ := d_isGuard T
  have F3 : Def P w K mg base "unlike" 1 _ _ := d_unlike T
  obtain ⟨fa, fda, ma, Fa, ba⟩ : Mth P w K mg base D "asks" 2 ["self"] (spAsks D) := d_asks T
  obtain ⟨fs, fds, ms, Fs, bs⟩ : Mth P w K mg base D "sets" 2 ["self"] (spSets D) := d_sets T
  have sc : FnScope ["thing", "watches", "names", "name", "noughts", "watch"] ["thing", "watches", "names"] (defScope sIsDoor) := ⟨rfl, rfl, rfl, by decide +kernel, rfl, by decide +kernel, by decide +kernel⟩
  refine def_of T.isDoor sc (fun _ _ _ _ _ _ us hl => match us, hl with | [_, _, _], _ => rfl) (fun vs H Q E h => ?_) (fun f cdv A outer s H vs Q E hr h => ?_)
  · obtain ⟨v, a, b, d, ws, names, rfl, _⟩ := h
    rfl
  · obtain ⟨v, a, b, d, ws, names, rfl, hd, ha, hb, ⟨o1, o2, o3, o4, o5, o6, o7⟩, k⟩ := h
    obtain ⟨b2, gb, hW⟩ := T.gWords
    have hr2 : Room 2 _ := hr.mono (by decide)
    obtain ⟨xs, hraw, hx⟩ := id hd
    obtain ⟨p, dx, lk, bk, rfl, hp, hlk, hbk⟩ := id hraw
    refine ⟨_, pss_cons (ps_if (PW.pt (pw_or (pt_not (pt_val (pe_callB (C8.call_isC T.iD) (by rfl) T.isi boot_isi (pa_cons (pv 0) (pa_cons (pe_glob (v := .ref D) rfl T.gD rfl) pa_nil))))) (pw_or1 (pt_not (pt_val (pe_def F1 hr (ha := pa_cons (pe_fld (pv 0) rfl) pa_nil))))))) (pss_one (ps_ret pe_bl)) pss_nil)
      (pss_cons (ps_for PassesOwn.never rfl (pi_list (pe_lst (pa_cons (pe_fld (pv 0) rfl) (pa_cons (pe_fld (pv 0) rfl) pa_nil)))) (pg_name (i := 3) sc.nd rfl (Or.inl rfl))
        (pss_one (ps_if (PW.pt (pw_or (pt_not (pt_val (pe_isi T.isi T.str boot_Tstr (pv 3)))) (pw_or1 (pt_cmpR op_notIn_seq (pv 3) (pv 2) rfl)))) (pss_one (ps_ret pe_bl)) pss_nil)))
      (pss_cons (ps_set (i := 4) sc.nd rfl (Or.inl rfl) (pe_meth0 (pv 0) T.iD.cl ms Fs hr2 bs .nil pass0))
      (pss_cons (ps_if (PW.pt (pw_or (pt_not (pt_val (pe_def F2 hr (ha := pa_cons (pe_meth0 (pv 0) T.iD.cl ma Fa hr2 ba .nil pass0) (pa_cons (pe_glob (v := .ref b2) rfl gb rfl) (pa_cons (pv 1) pa_nil)))))) (pw_or1 (pt_not (pt_val (pe_isi T.isi T.list boot_Tlist (pv 4))))))) (pss_one (ps_ret pe_bl)) pss_nil)
      (pss_one (ps_ret (pe_and (pe_callB (cr_all rfl) (by rfl) T.all boot_Ball
        (pa_cons (pe_lc (own := [("watch", 5)]) (g := gName 5) (tt := tYes) rfl sc.nd (pi_list (pv 4)) (blkOk_by (N := ["thing", "watches", "names", "name", "noughts", "watch"]) (sc := defScope sIsDoor) (by decide +kernel)) (fun _ _ _ _ _ => pg_name (i := 5) sc.nd rfl (Or.inl rfl)) (fun _ _ _ _ _ => pts_nil)
          (fun _ _ _ _ _ => pe_and (pe_callB (r := rIsiB K) call_isiB (by rfl) T.isi boot_isi (pa_cons (pv 5) (pa_cons (pe_bltn (v := .ty "str") rfl T.str boot_Tstr rfl) pa_nil))) (pe_one (pe_cmpR (r := rIn K false) op_in_seq (pv 5) (pv 1) rfl)))) pa_nil))
        (pe_one (pe_def F3 hr (ha := pa_cons (pv 4) pa_nil))))))))), ?_⟩
    refine ⟨_, rfl, p, dx, _, rfl, hp, true, rfl, iteF ?_⟩
    refine ⟨_, rfl, p, D, dx, _, _, rfl, hp, T.iD.cl, T.nDsign, dfs_sign .., d.sg, rfl, o7, true, rfl, iteF ?_⟩
    -- for name in [thing.start, thing.end]
    refine ⟨_, rfl, p, D, dx, _, _, rfl, hp, T.iD.cl, T.nDstart, dfs_start .., _, rfl, p, D, dx, _, _, rfl, hp, T.iD.cl, T.nDend, dfs_end .., (by show 2 ≤ sizeLine; decide), fun q hq => ?_⟩
    have s0 : Same H (upd H q (.lst [.str d.st, .str d.en])) := Same.new hq
    have hns : ∀ n, n ∈ [d.st, d.en] → n ∈ names := fun n hn => by
      simp only [List.mem_cons, List.not_mem_nil, or_false] at hn
      rcases hn with rfl | rfl
      · exact o1
      · exact o2
    refine ⟨q, rfl, ⟨_, SqL.of upd_same⟩, for_list (K := K) (a := q) (xs := ([d.st, d.en] : List Str).map V.str) (fun i σ H' => ∃ v3 : Option V, σ = [some (.ref p), some (.ref a), some (.ref b), v3, none, none] ∧ H' = upd H q (.lst [.str d.st, .str d.en])) ⟨none, rfl, rfl⟩ (fun i σ H' _ ⟨_, _, e⟩ => by rw [e]; exact SqL.of upd_same) ?_ ?_⟩
    · rintro i x σ H' hi ⟨v3, rfl, rfl⟩
      obtain ⟨n, en, rfl⟩ := get_map hi
      have i0 : inV (.str n) (names.map V.str) = true := inV_str (hns n (List.mem_of_getElem? en))
      refine ⟨_, rfl, _, _, "str", true, rfl, .base (.str n), kit_str_str, true, rfl, iteF ?_⟩
      refine ⟨_, rfl, _, rfl, b, _, rfl, .inl (s0.seq hb), rfl, flats names, false, by show V.bl (!inV _ _) = _; rw [i0]; rfl, iteF ?_⟩
      exact ⟨_, rfl, rfl⟩
    · rintro σ H' ⟨v3, rfl, rfl⟩
      have p1 := s0 _ _ hp
      refine ⟨_, rfl, p, dx, _, rfl, p1, dfs_no _ _ _ _ _ (by decide +kernel) (by decide +kernel) (by decide +kernel) (by decide +kernel) (by decide +kernel), _, _, _, _, _, _, rfl, hraw.mono s0, fun n hn => ?_⟩
      have s1 := s0.trans (Same.new (o := .lst (d.nt.map V.str)) hn)
      refine ⟨_, rfl, p, dx, _, rfl, s1 _ _ hp, dfs_no _ _ _ _ _ (by decide +kernel) (by decide +kernel) (by decide +kernel) (by decide +kernel) (by decide +kernel), _, _, _, _, _, _, rfl, hraw.mono s1, fun m hm => ?_⟩
      have s2 := s1.trans (Same.new (o := .lst xs) hm)
      refine ⟨_, rfl, .ref m, a, b2, d.gd, ws, wAll, rfl, ⟨m, xs, rfl, upd_same, hx.mono fun _ _ r => r.mono s2⟩, s2.seq ha, fun H' _ => .inr (hW H'), o3, fun H3 s3 => ?_⟩
      have sn : Same (upd (upd H q (.lst [.str d.st, .str d.en])) n (.lst (d.nt.map V.str))) H3 := (Same.new hm).trans s3
      have hn3 : H3 n = some (.lst (d.nt.map V.str)) := sn _ _ upd_same
      have s4 := s2.trans s3
      refine ⟨true, rfl, iteF ⟨_, rfl, _, _, "list", true, rfl, .base (.lst hn3), kit_list_list, true, rfl, iteF ?_⟩⟩
      refine ⟨_, rfl, n, rfl, ⟨_, SqL.of hn3⟩, fun e he => lc_list (K := K) (a := n) (xs := d.nt.map V.str) (PvX H3 e RTrue fun _ _ => True) (PvX.start he) (fun i H' _ v => v.same.seq (SqL.of hn3)) (fun i x H' hi v => ?_) fun H' v => ?_⟩
      · obtain ⟨y, ey, rfl⟩ := get_map hi
        have hy := List.mem_of_getElem? ey
        have i0 : inV (.str y) (ws.map V.str) = true := inV_str (o4 y hy)
        refine ⟨rfl, inYes (iteT ⟨_, rfl, _, _, "str", true, rfl, .base (.str y), kit_str_str, true, rfl, iteT ⟨_, rfl, _, rfl, a, _, rfl, .inl ((s4.trans v.same).seq ha), rfl, flats ws, ?_⟩⟩)⟩
        show ∃ acc, H' e = some (.lst acc) ∧ acc.length < sizeLine ∧ PvX H3 e RTrue (fun _ _ => True) (i + 1) (upd H' e (.lst (acc ++ [.bl (inV (.str y) (ws.map V.str))])))
        rw [i0]
        exact v.next RTrue.mono (Same.refl _) (show RTrue _ _ () from rfl) trivial (by have := lt_get ey; omega)
      · obtain ⟨bs, hD, hb⟩ := all_get v
        exact ⟨e, bs, rfl, SqL.of hD, true, congrArg V.bl hb, iteT ⟨_, rfl, n, d.nt, rfl, v.same.seq (SqL.of hn3), o5, by omega, k H' (s4.trans v.same)⟩⟩
end
end Zw

/-! Zg: Machine: __init__ and its methods. -/
namespace Zw
open PySem PySem.Spec PyProof.Rows L2
def mfs (wn rn sl dl : Addr) : List (Str × V) := putF "door_list" (.ref dl) (putF "stay_looks" (.ref sl) (putF "room_names" (.ref rn) (putF "watch_names" (.ref wn) [])))
theorem mfs_w (wn rn sl dl : Addr) : (mfs wn rn sl dl).lookup ("watch_names" : Str) = some (.ref wn) := by
  unfold mfs
  rw [lookup_putF, if_neg (by decide +kernel), lookup_putF, if_neg (by decide +kernel), lookup_putF, if_neg (by decide +kernel), lookup_putF, if_pos rfl]
theorem mfs_r (wn rn sl dl : Addr) : (mfs wn rn sl dl).lookup ("room_names" : Str) = some (.ref rn) := by
  unfold mfs
  rw [lookup_putF, if_neg (by decide +kernel), lookup_putF, if_neg (by decide +kernel), lookup_putF, if_pos rfl]
theorem mfs_s (wn rn sl dl : Addr) : (mfs wn rn sl dl).lookup ("stay_looks" : Str) = some (.ref sl) := by
  unfold mfs
  rw [lookup_putF, if_neg (by decide +kernel), lookup_putF, if_pos rfl]
theorem mfs_d (wn rn sl dl : Addr) : (mfs wn rn sl dl).lookup ("door_list" : Str) = some (.ref dl) := by
  unfold mfs
  rw [lookup_putF, if_pos rfl]
theorem mfs_no (wn rn sl dl : Addr) {m : Str} (h1 : ¬ m = "door_list") (h2 : ¬ m = "stay_looks") (h3 : ¬ m = "room_names") (h4 : ¬ m = "watch_names") : (mfs wn rn sl dl).lookup m = none := by
  unfold mfs
  rw [lookup_putF, if_neg h1, lookup_putF, if_neg h2, lookup_putF, if_neg h3, lookup_putF, if_neg h4]
  rfl
/-- all but x stands -/
def SX (x : Addr) (H H' : Hp) : Prop := ∀ a o, H a = some o → a ≠ x → H' a = some o
theorem SX.same {x : Addr} {H H' : Hp} (s : Same H H') : SX x H H' := fun a o e _ => s a o e
theorem SX.trans {x : Addr} {H H1 H2 : Hp} (a : SX x H H1) (b : SX x H1 H2) : SX x H H2 := fun c o e n => b c o (a c o e n) n
theorem SX.upd {x : Addr} {H : Hp} {o : HO} : SX x H (upd H x o) := fun a u e n => by rw [upd_ne n]; exact e
/-- a list of looks at N, the looks as they stand at H0 -/
def RGuard (H0 : Hp) : Hp → V → List Look → Prop := fun N v g => ∃ a xs, v = .ref a ∧ N a = some (.lst xs) ∧ All2 (LookAt H0) xs g
theorem RGuard.mono {H0 : Hp} (N N' : Hp) (v : V) (y : List Look) (s : Same N N') (h : RGuard H0 N v y) : RGuard H0 N' v y := by
  obtain ⟨a, xs, e, h, k⟩ := h
  exact ⟨a, xs, e, s _ _ h, k⟩
section
variable {P : Program} {w : World} {K : PySem.W.Frag} {mg : Str → Option Value} {base : Heap} {D M : Addr}
def spMInit (D M : Addr) : Sp := fun vs H Q _ => ∃ (x a b c dx : Addr) (ws : List Str) (rs : List RoomD) (ds : List DoorD) (xs zs : List V), vs = [.ref x, .ref a, .ref b, .ref c] ∧ H x = some (.ins M dx []) ∧
  H a = some (.lst (ws.map V.str)) ∧ H b = some (.lst xs) ∧ All2 (RoomAt H) xs rs ∧ H c = some (.lst zs) ∧ All2 (DoorAt D H) zs ds ∧ WatchesOk ws ∧ RoomsOk ws rs ∧ (∀ d, d ∈ ds → DoorOk ws (rs.map (·.1)) d) ∧ ds.length ≤ 200 ∧
  ∀ (H' : Hp) (wn rn sl dl : Addr) (ss : List V), SX x H H' → H' x = some (.ins M dx (mfs wn rn sl dl)) → neu H H' wn = some (.lst (ws.map V.str)) → neu H H' rn = some (.lst ((rs.map (·.1)).map V.str)) →
    neu H H' sl = some (.lst ss) → All2 (RGuard H (neu H H')) ss (rs.map (·.2)) → neu H H' dl = some (.lst zs) → Q .non H'
theorem d_mInit (T : Txt K mg D M) {f : Addr} {fd : FuncData} (F : FnP K "__init__" "Machine.__init__" sMInit f fd) : FnOk P w K mg base CX0 6 f fd ["self", "watches", "rooms", "doors"] (spMInit D M) := by
  have F1 : Def P w K mg base "are_watches" 4 _ _ := d_areWatches T
  have F2 : Def P w K mg base "are_rooms" 5 _ _ := d_areRooms T
  have F3 : Def P w K mg base "is_door" 4 _ _ := d_isDoor T
  have sc : FnScope ["self", "watches", "rooms", "doors", "names", "room", "door"] ["self", "watches", "rooms", "doors"] (defScope sMInit) := ⟨rfl, rfl, rfl, by decide +kernel, rfl, by decide +kernel, by decide +kernel⟩
  refine FnP.okN F sc (fun vs H Q E h => ?_) (fun cdv A outer s H vs Q E hr h => ?_)
  · obtain ⟨x, a, b, c, dx, ws, rs, ds, xs, zs, rfl, _⟩ := h
    rfl
  · obtain ⟨x, a, b, c, dx, ws, rs, ds, xs, zs, rfl, hx, ha, hb, hxs, hc, hzs, hw, hrs, hds, h200, k⟩ := h
    obtain ⟨t1, g1⟩ := T.gMR
    obtain ⟨t2, g2⟩ := T.gMD
    refine ⟨_, pss_cons (ps_if (PW.pt (pw_or (pt_not (pt_val (pe_def F1 hr (ha := pa_cons (pv 1) pa_nil)))) (pw_or (pt_not (pt_val (pe_def F2 hr (ha := pa_cons (pv 2) (pa_cons (pv 1) pa_nil))))) (pw_or1 (pt_not (pt_val (pe_isi T.isi T.list boot_Tlist (pv 3)))))))) (pss_one ps_never) pss_nil)
      (pss_cons (ps_set (i := 4) sc.nd rfl (Or.inr rfl) (pe_lc (own := [("room", 5)]) (g := gName 5) (tt := tYes) rfl sc.nd (pi_list (pv 2)) (blkOk_by (N := ["self", "watches", "rooms", "doors", "names", "room", "door"]) (sc := defScope sMInit) (by decide +kernel)) (fun _ _ _ _ _ => pg_name (i := 5) sc.nd rfl (Or.inl rfl)) (fun _ _ _ _ _ => pts_nil)
          (fun _ _ _ _ _ => pe_ix (r := rIxT K) ix_tup (pv 5) pe_int (fun _ _ => rfl))))
      (pss_cons (ps_if (pt_not (pt_val (pe_callB (cr_all rfl) (by rfl) T.all boot_Ball
        (pa_cons (pe_lc (own := [("door", 6)]) (g := gName 6) (tt := tYes) rfl sc.nd (pi_list (pv 3)) (blkOk_by (N := ["self", "watches", "rooms", "doors", "names", "room", "door"]) (sc := defScope sMInit) (by decide +kernel)) (fun _ _ _ _ _ => pg_name (i := 6) sc.nd rfl (Or.inl rfl)) (fun _ _ _ _ _ => pts_nil)
          (fun _ _ _ _ _ => pe_def F3 hr (ha := pa_cons (pv 6) (pa_cons (pv 1) (pa_cons (pv 4) pa_nil))))) pa_nil)))) (pss_one ps_never) pss_nil)
      (pss_cons (ps_if (PW.pt (pw_or (pt_cmpR op_gt (pe_callB call_len_seq (by rfl) T.len PySem.boot_len (pa_cons (pv 2) pa_nil)) (pe_glob (v := .int 64) rfl g1 ⟨_, rfl⟩) (nomark _)) (pw_or1 (pt_cmpR op_gt (pe_callB call_len_seq (by rfl) T.len PySem.boot_len (pa_cons (pv 3) pa_nil)) (pe_glob (v := .int 200) rfl g2 ⟨_, rfl⟩) (nomark _))))) (pss_one ps_never) pss_nil)
      (pss_cons (ps_fld (pv 0) (pe_callTy call_list_of (by rfl) T.list boot_Tlist (pa_cons (pv 1) pa_nil)) rfl)
      (pss_cons (ps_fld (pv 0) (pv 4) rfl)
      (pss_cons (ps_fld (pv 0) (pe_lc (own := [("room", 5)]) (g := gName 5) (tt := tYes) rfl sc.nd (pi_list (pv 2)) (blkOk_by (N := ["self", "watches", "rooms", "doors", "names", "room", "door"]) (sc := defScope sMInit) (by decide +kernel)) (fun _ _ _ _ _ => pg_name (i := 5) sc.nd rfl (Or.inl rfl)) (fun _ _ _ _ _ => pts_nil)
          (fun _ _ _ _ _ => pe_callTy (r := fun xs H Q => ∃ p ys, xs = [.ref p] ∧ (SqL K H p ys ∨ SqT K H p ys) ∧ ∀ l, H l = none → Q (.ref l) (upd H l (.lst ys))) call_list_of (by rfl) T.list boot_Tlist (pa_cons (pe_ix (r := rIxT K) ix_tup (pv 5) pe_int (fun _ _ => rfl)) pa_nil))) rfl)
      (pss_one (ps_fld (pv 0) (pe_callTy call_list_of (by rfl) T.list boot_Tlist (pa_cons (pv 3) pa_nil)) rfl)))))))), ?_⟩
    have okw : ∀ s, s ∈ ws → OkS s := fun s hs => (hw.2.1 s hs).ok
    have h64 : rs.length ≤ 64 := hrs.2.1
    -- if not are_watches(..) or not are_rooms(..) or not isinstance(..): raise
    refine ⟨_, rfl, .ref a, ws, rfl, ⟨a, rfl, ha⟩, hw, fun H1 s1 => ⟨true, rfl, iteF ?_⟩⟩
    refine ⟨_, rfl, _, rfl, .ref b, a, rs, ws, rfl, ⟨b, xs, rfl, s1 _ _ hb, hxs.mono fun _ _ r => r.mono s1⟩, s1.seq (SqL.of ha), okw, hrs, fun H2 s2 => ⟨true, rfl, iteF ?_⟩⟩
    have t2 := s1.trans s2
    refine ⟨_, rfl, _, _, "list", true, rfl, .base (.lst (t2 _ _ hc)), kit_list_list, true, rfl, iteF ?_⟩
    -- names = [room[0] for room in rooms]
    refine ⟨_, rfl, b, rfl, ⟨_, SqL.of (t2 _ _ hb)⟩, fun rn hrn => lc_list (K := K) (a := b) (xs := xs) (PvX H2 rn RStr fun j y => (rs.map (·.1))[j]? = some y) (PvX.start hrn) (fun i H' _ v => v.same.seq (t2.seq (SqL.of hb))) (fun i x' H' hi v => ?_) fun H3 v => ?_⟩
    · obtain ⟨r, er, t, g, rfl, ht, _⟩ := hxs.left hi
      refine ⟨rfl, inYes (iteT ⟨_, rfl, t, _, _, .str r.1, rfl, rfl, SqT.of (v.same _ _ (t2 _ _ ht)), atI_nat (j := 0) rfl, ?_⟩)⟩
      exact v.next RStr.mono (Same.refl _) (show RStr _ _ r.1 from rfl) (get_map_of er) (by have := lt_get er; omega)
    obtain ⟨acc, ys, hD, hacc, hl, hg⟩ := v.acc
    have ey : ys = rs.map (·.1) := list_eq (by rw [hl, List.length_map, hxs.len]) hg
    rw [strs_of hacc, ey] at hD
    have t3 := t2.trans v.same
    -- if not all([is_door(..) ..]): raise
    refine ⟨_, rfl, c, rfl, ⟨_, SqL.of (t3 _ _ hc)⟩, fun p hp => lc_list (K := K) (a := c) (xs := zs) (PvX H3 p RTrue fun _ _ => True) (PvX.start hp) (fun i H' _ v => v.same.seq (t3.seq (SqL.of hc))) (fun i x' H' hi v => ?_) fun H4 v4 => ?_⟩
    · obtain ⟨d, ed, hd⟩ := hzs.left hi
      have tH := t3.trans v.same
      refine ⟨rfl, inYes (iteT ⟨_, rfl, _, rfl, _, rfl, x', a, rn, d, ws, rs.map (·.1), rfl, hd.mono tH, tH.seq (SqL.of ha), v.same.seq (SqL.of hD), hds d (List.mem_of_getElem? ed), fun H5 s5 => ?_⟩)⟩
      exact v.next RTrue.mono s5 (show RTrue _ _ () from rfl) trivial (by have := lt_get ed; omega)
    obtain ⟨bs, hbD, hbs⟩ := all_get v4
    have t4 := t3.trans v4.same
    refine ⟨p, bs, rfl, SqL.of hbD, true, congrArg V.bl hbs, iteF ?_⟩
    -- if len(rooms) > 64 or len(doors) > 200: raise
    refine ⟨_, rfl, b, xs, rfl, .inl (SqL.of (t4 _ _ hb)), _, _, rfl, rfl, false, blF (by rw [hxs.len]; omega), iteF ?_⟩
    refine ⟨_, rfl, c, zs, rfl, .inl (SqL.of (t4 _ _ hc)), _, _, rfl, rfl, false, blF (by rw [hzs.len]; omega), iteF ?_⟩
    -- self.watch_names = list(watches)
    refine ⟨_, rfl, a, _, rfl, .inl (SqL.of (t4 _ _ ha)), fun wn hwn => ?_⟩
    have hx4 := t4 _ _ hx
    have nxw : x ≠ wn := ne_of_none hx4 hwn
    refine ⟨_, rfl, x, M, dx, [], rfl, by rw [upd_ne nxw]; exact hx4, T.cM, T.nMw, by decide, ?_⟩
    -- self.room_names = names
    refine ⟨_, rfl, _, rfl, x, M, dx, _, rfl, upd_same, T.cM, T.nMr, Nat.lt_of_le_of_lt (put_len (Nat.zero_le 0)) (by decide), ?_⟩
    -- self.stay_looks = [list(room[1]) for room in rooms]
    rw [upd_upd]
    generalize hH5 : upd H4 wn (.lst (ws.map V.str)) = H5
    have s45 : Same H4 H5 := by rw [← hH5]; exact Same.new hwn
    have hw5 : H5 wn = some (.lst (ws.map V.str)) := by rw [← hH5]; exact upd_same
    generalize hH6 : upd H5 x (.ins M dx (putF "room_names" (.ref rn) (putF "watch_names" (.ref wn) []))) = H6
    have x56 : SX x H5 H6 := by rw [← hH6]; exact SX.upd
    have hx6 : H6 x = some (.ins M dx (putF "room_names" (.ref rn) (putF "watch_names" (.ref wn) []))) := by rw [← hH6]; exact upd_same
    have x06 : SX x H H6 := (SX.same (t4.trans s45)).trans x56
    have nbx : b ≠ x := ne_of hb hx (by intro q; cases q)
    have nax : a ≠ x := ne_of ha hx (by intro q; cases q)
    have ncx : c ≠ x := ne_of hc hx (by intro q; cases q)
    have hb6 : H6 b = some (.lst xs) := x06 _ _ hb nbx
    have free6 : ∀ q, H6 q = none → H q = none := fun q hq => by
      cases e : H q with
      | none => rfl
      | some o =>
        by_cases hqx : q = x
        · rw [hqx, hx6] at hq
          cases hq
        · rw [x06 _ _ e hqx] at hq
          cases hq
    refine ⟨_, rfl, b, rfl, ⟨_, SqL.of hb6⟩, fun sl hsl => lc_list (K := K) (a := b) (xs := xs) (PvX H6 sl (RGuard H) fun j y => (rs.map (·.2))[j]? = some y) (PvX.start hsl) (fun i H' _ v => v.same.seq (SqL.of hb6)) (fun i x' H' hi v => ?_) fun H7 v7 => ?_⟩
    · obtain ⟨r, er, t, g, rfl, ht, l, lxs, rfl, hl', hlx⟩ := hxs.left hi
      have ntx : t ≠ x := ne_of ht hx (by intro q; cases q)
      have nlx : l ≠ x := ne_of hl' hx (by intro q; cases q)
      refine ⟨rfl, inYes (iteT ⟨_, rfl, t, _, _, .ref l, rfl, rfl, SqT.of (v.same _ _ (x06 _ _ ht ntx)), atI_nat (j := 1) rfl, l, lxs, rfl, .inl (SqL.of (v.same _ _ (x06 _ _ hl' nlx))), fun q hq => ?_⟩)⟩
      exact v.next RGuard.mono (Same.new hq) ⟨q, lxs, rfl, neu_new hq, hlx⟩ (get_map_of er) (by have := lt_get er; omega)
    obtain ⟨s67, ss, gs, hsl7, hss, hgl, hgs⟩ := v7.done RGuard.mono
    have eg : gs = rs.map (·.2) := list_eq (by rw [hgl, List.length_map, hxs.len]) hgs
    subst eg
    have hx7 := s67 _ _ hx6
    refine ⟨_, rfl, x, M, dx, _, rfl, hx7, T.cM, T.nMs, Nat.lt_of_le_of_lt (put_len (put_len (Nat.zero_le 0))) (by decide), ?_⟩
    generalize hH8 : upd H7 x (.ins M dx (putF "stay_looks" (.ref sl) (putF "room_names" (.ref rn) (putF "watch_names" (.ref wn) [])))) = H8
    have x78 : SX x H7 H8 := by rw [← hH8]; exact SX.upd
    have hx8 : H8 x = some (.ins M dx (putF "stay_looks" (.ref sl) (putF "room_names" (.ref rn) (putF "watch_names" (.ref wn) [])))) := by rw [← hH8]; exact upd_same
    have x68 : SX x H6 H8 := (SX.same s67).trans x78
    have x08 := x06.trans x68
    have hc8 : H8 c = some (.lst zs) := x08 _ _ hc ncx
    refine ⟨_, rfl, c, zs, rfl, .inl (SqL.of hc8), fun dl hdl => ?_⟩
    have nxd : x ≠ dl := ne_of_none hx8 hdl
    refine ⟨_, rfl, x, M, dx, _, rfl, by rw [upd_ne nxd]; exact hx8, T.cM, T.nMd, Nat.lt_of_le_of_lt (put_len (put_len (put_len (Nat.zero_le 0)))) (by decide), ?_⟩
    generalize hH9 : upd H8 dl (.lst zs) = H9
    have s89 : Same H8 H9 := by rw [← hH9]; exact Same.new hdl
    have hd9 : H9 dl = some (.lst zs) := by rw [← hH9]; exact upd_same
    have x9 : ∀ {o : HO}, SX x H8 (upd H9 x o) := fun {o} => (SX.same s89).trans SX.upd
    have free8 : ∀ q, H8 q = none → H q = none := fun q hq => by
      cases e : H q with
      | none => rfl
      | some o =>
        by_cases hqx : q = x
        · rw [hqx, hx8] at hq
          cases hq
        · rw [x08 _ _ e hqx] at hq
          cases hq
    have nxr : rn ≠ x := fun q => by
      rw [q] at hrn
      have := t2 _ _ hx
      rw [hrn] at this
      cases this
    have hr4 : H4 rn = some (.lst ((rs.map (·.1)).map V.str)) := v4.same _ _ hD
    have n67 : ∀ q o, neu H6 H7 q = some o → neu H (upd H9 x (.ins M dx (mfs wn rn sl dl))) q = some o := fun q o e => by
      obtain ⟨e1, e2⟩ := neu_some e
      have nq : q ≠ x := fun z => by rw [z, hx6] at e1; cases e1
      rw [neu_at (free6 q e1)]
      exact x9 _ _ (x78 _ _ e2 nq) nq
    refine k _ wn rn sl dl ss (x08.trans x9) upd_same ?_ ?_ (n67 _ _ hsl7) (hss.mono fun v g q => RGuard.mono _ _ v g n67 q) ?_
    · rw [neu_at (t4.free hwn)]
      exact x9 _ _ (x68 _ _ (x56 _ _ hw5 nxw.symm) nxw.symm) nxw.symm
    · rw [neu_at (t2.free hrn)]
      exact x9 _ _ (x68 _ _ (x56 _ _ (s45 _ _ hr4) nxr) nxr) nxr
    · rw [neu_at (free8 _ hdl), upd_ne nxd.symm]
      exact hd9
end
end Zw

/-! Zh: the machine's methods. -/
namespace Zw
open PySem PySem.Spec PyProof.Rows L2
/-- a machine that tells these -/
def MachAt (M D : Addr) (H : Hp) (v : V) (ws : List Str) (rs : List RoomD) (ds : List DoorD) : Prop := ∃ (p dx wn rn sl dl : Addr) (ss zs : List V), v = .ref p ∧ H p = some (.ins M dx (mfs wn rn sl dl)) ∧
  H wn = some (.lst (ws.map V.str)) ∧ H rn = some (.lst ((rs.map (·.1)).map V.str)) ∧ H sl = some (.lst ss) ∧ All2 (GuardAt H) ss (rs.map (·.2)) ∧ H dl = some (.lst zs) ∧ All2 (DoorAt D H) zs ds
theorem MachAt.mono {M D : Addr} {H H' : Hp} {v : V} {ws : List Str} {rs : List RoomD} {ds : List DoorD} (s : Same H H') (h : MachAt M D H v ws rs ds) : MachAt M D H' v ws rs ds := by
  obtain ⟨p, dx, wn, rn, sl, dl, ss, zs, e, h1, h2, h3, h4, h5, h6, h7⟩ := h
  exact ⟨p, dx, wn, rn, sl, dl, ss, zs, e, s _ _ h1, s _ _ h2, s _ _ h3, s _ _ h4, h5.mono fun _ _ r => r.mono s, s _ _ h6, h7.mono fun _ _ r => r.mono s⟩
section
variable {P : Program} {w : World} {K : PySem.W.Frag} {mg : Str → Option Value} {base : Heap} {D M : Addr}
/-- nothing ahead of its place is the text -/
theorem not_ahead {ss : List Str} {s : Str} {j : Nat} (nd : ss.Nodup) (h : ss[j]? = some s) : ∀ (m : Nat) (z : V), m < j → (ss.map V.str)[m]? = some z → eqV z (.str s) = false := fun m z hm hz => by
  obtain ⟨y, ey, rfl⟩ := get_map hz
  show (y == s) = false
  exact beq_eq_false_iff_ne.mpr fun e => absurd (nd_ix nd (e ▸ ey) h) (by omega)
theorem eq_self (s : Str) : eqV (.str s) (.str s) = true := by
  show (s == s) = true
  exact beq_self_eq_true s
def spWatches (M D : Addr) : Sp := fun vs H Q _ => ∃ (v : V) (ws : List Str) (rs : List RoomD) (ds : List DoorD), vs = [v] ∧ MachAt M D H v ws rs ds ∧ ∀ p, H p = none → Q (.ref p) (upd H p (.lst (ws.map V.str)))
theorem d_watches (T : Txt K mg D M) : Mth P w K mg base M "watches" 1 ["self"] (spWatches M D) := by
  refine mth_of (N := ["self"]) T.watches ⟨rfl, rfl, rfl, by decide +kernel, rfl, by decide +kernel, by decide +kernel⟩ (fun _ _ _ _ _ _ us hl => match us, hl with | [_], _ => rfl) (fun vs H Q E h => ?_) (fun f cdv A outer s H vs Q E hr h => ?_)
  · obtain ⟨v, ws, rs, ds, rfl, _⟩ := h
    rfl
  · obtain ⟨v, ws, rs, ds, rfl, ⟨p, dx, wn, rn, sl, dl, ss, zs, rfl, hp, h2, h3, h4, h5, h6, h7⟩, k⟩ := h
    refine ⟨_, pss_one (ps_ret (pe_callTy call_list_of (by rfl) T.list boot_Tlist (pa_cons (pe_fld (pv 0) rfl) pa_nil))), ?_⟩
    exact ⟨_, rfl, p, M, dx, _, _, rfl, hp, T.cM, T.nMw, mfs_w .., wn, _, rfl, .inl (SqL.of h2), k⟩
def spMRooms (M D : Addr) : Sp := fun vs H Q _ => ∃ (v : V) (ws : List Str) (rs : List RoomD) (ds : List DoorD), vs = [v] ∧ MachAt M D H v ws rs ds ∧ ∀ p, H p = none → Q (.ref p) (upd H p (.lst ((rs.map (·.1)).map V.str)))
theorem d_mRooms (T : Txt K mg D M) : Mth P w K mg base M "rooms" 1 ["self"] (spMRooms M D) := by
  refine mth_of (N := ["self"]) T.mRooms ⟨rfl, rfl, rfl, by decide +kernel, rfl, by decide +kernel, by decide +kernel⟩ (fun _ _ _ _ _ _ us hl => match us, hl with | [_], _ => rfl) (fun vs H Q E h => ?_) (fun f cdv A outer s H vs Q E hr h => ?_)
  · obtain ⟨v, ws, rs, ds, rfl, _⟩ := h
    rfl
  · obtain ⟨v, ws, rs, ds, rfl, ⟨p, dx, wn, rn, sl, dl, ss, zs, rfl, hp, h2, h3, h4, h5, h6, h7⟩, k⟩ := h
    refine ⟨_, pss_one (ps_ret (pe_callTy call_list_of (by rfl) T.list boot_Tlist (pa_cons (pe_fld (pv 0) rfl) pa_nil))), ?_⟩
    exact ⟨_, rfl, p, M, dx, _, _, rfl, hp, T.cM, T.nMr, mfs_r .., rn, _, rfl, .inl (SqL.of h3), k⟩
def spMDoors (M D : Addr) : Sp := fun vs H Q _ => ∃ (v : V) (ws : List Str) (rs : List RoomD) (ds : List DoorD), vs = [v] ∧ MachAt M D H v ws rs ds ∧ ∀ p zs, H p = none → All2 (DoorAt D H) zs ds → Q (.ref p) (upd H p (.lst zs))
theorem d_mDoors (T : Txt K mg D M) : Mth P w K mg base M "doors" 1 ["self"] (spMDoors M D) := by
  refine mth_of (N := ["self"]) T.mDoors ⟨rfl, rfl, rfl, by decide +kernel, rfl, by decide +kernel, by decide +kernel⟩ (fun _ _ _ _ _ _ us hl => match us, hl with | [_], _ => rfl) (fun vs H Q E h => ?_) (fun f cdv A outer s H vs Q E hr h => ?_)
  · obtain ⟨v, ws, rs, ds, rfl, _⟩ := h
    rfl
  · obtain ⟨v, ws, rs, ds, rfl, ⟨p, dx, wn, rn, sl, dl, ss, zs, rfl, hp, h2, h3, h4, h5, h6, h7⟩, k⟩ := h
    refine ⟨_, pss_one (ps_ret (pe_callTy call_list_of (by rfl) T.list boot_Tlist (pa_cons (pe_fld (pv 0) rfl) pa_nil))), ?_⟩
    exact ⟨_, rfl, p, M, dx, _, _, rfl, hp, T.cM, T.nMd, mfs_d .., dl, _, rfl, .inl (SqL.of h6), fun q hq => k q zs hq h7⟩
def spStay (M D : Addr) : Sp := fun vs H Q _ => ∃ (v : V) (ws : List Str) (rs : List RoomD) (ds : List DoorD) (j : Nat) (r : RoomD), vs = [v, .str r.1] ∧ MachAt M D H v ws rs ds ∧ rs[j]? = some r ∧ (rs.map (·.1)).Nodup ∧
  ∀ p xs, H p = none → All2 (LookAt H) xs r.2 → Q (.ref p) (upd H p (.lst xs))
theorem d_stay (T : Txt K mg D M) : Mth P w K mg base M "stay" 1 ["self", "room"] (spStay M D) := by
  refine mth_of (N := ["self", "room"]) T.stay ⟨rfl, rfl, rfl, by decide +kernel, rfl, by decide +kernel, by decide +kernel⟩ (fun _ _ _ _ _ _ us hl => match us, hl with | [_, _], _ => rfl) (fun vs H Q E h => ?_) (fun f cdv A outer s H vs Q E hr h => ?_)
  · obtain ⟨v, ws, rs, ds, j, r, rfl, _⟩ := h
    rfl
  · obtain ⟨v, ws, rs, ds, j, r, rfl, ⟨p, dx, wn, rn, sl, dl, ss, zs, rfl, hp, h2, h3, h4, h5, h6, h7⟩, hj, nd, k⟩ := h
    refine ⟨_, pss_one (ps_ret (pe_callTy call_list_of (by rfl) T.list boot_Tlist (pa_cons (pe_ix ix_list (pe_fld (pv 0) rfl) (pe_bm PySem.F.plainAttrs_list PySem.F.slot_list_index PySem.F.type_list_index mt_index (pe_fld (pv 0) rfl) (pa_cons (pv 1) pa_nil)) (fun _ _ => rfl)) pa_nil))), ?_⟩
    obtain ⟨g, eg, l, xs, rfl, hl, hx⟩ := h5.right (get_map_of (f := (·.2)) hj)
    refine ⟨_, rfl, p, M, dx, _, _, rfl, hp, T.cM, T.nMs, mfs_s .., _, rfl, p, M, dx, _, _, rfl, hp, T.cM, T.nMr, mfs_r .., .inl ⟨rfl, _, SqL.of h3⟩, _, rfl, ?_⟩
    have hj1 : (rs.map (·.1))[j]? = some r.1 := get_map_of hj
    exact ⟨rn, _, .str r.1, j, .str r.1, rfl, rfl, SqL.of h3, rfl, flats _, get_map_of hj1, eq_self _, not_ahead nd hj1, sl, ss, _, .ref l, rfl, rfl, SqL.of h4, atI_nat eg, l, xs, rfl, .inl (SqL.of hl), fun q hq => k q xs hq hx⟩
def spWNum (M D : Addr) : Sp := fun vs H Q _ => ∃ (v : V) (ws : List Str) (rs : List RoomD) (ds : List DoorD) (j : Nat) (s : Str), vs = [v, .str s] ∧ MachAt M D H v ws rs ds ∧ ws[j]? = some s ∧ ws.Nodup ∧ Q (.int (1 + (j : Int))) H
theorem d_wnum (T : Txt K mg D M) : Mth P w K mg base M "watch_number" 1 ["self", "name"] (spWNum M D) := by
  refine mth_of (N := ["self", "name"]) T.wnum ⟨rfl, rfl, rfl, by decide +kernel, rfl, by decide +kernel, by decide +kernel⟩ (fun _ _ _ _ _ _ us hl => match us, hl with | [_, _], _ => rfl) (fun vs H Q E h => ?_) (fun f cdv A outer s H vs Q E hr h => ?_)
  · obtain ⟨v, ws, rs, ds, j, z, rfl, _⟩ := h
    rfl
  · obtain ⟨v, ws, rs, ds, j, z, rfl, ⟨p, dx, wn, rn, sl, dl, ss, zs, rfl, hp, h2, h3, h4, h5, h6, h7⟩, hj, nd, k⟩ := h
    refine ⟨_, pss_one (ps_ret (pe_op op_add pe_int (pe_bm PySem.F.plainAttrs_list PySem.F.slot_list_index PySem.F.type_list_index mt_index (pe_fld (pv 0) rfl) (pa_cons (pv 1) pa_nil)))), ?_⟩
    refine ⟨_, rfl, p, M, dx, _, _, rfl, hp, T.cM, T.nMw, mfs_w .., .inl ⟨rfl, _, SqL.of h2⟩, _, rfl, ?_⟩
    exact ⟨wn, _, .str z, j, .str z, rfl, rfl, SqL.of h2, rfl, flats _, get_map_of hj, eq_self _, not_ahead nd hj, _, _, rfl, rfl, k⟩
end
end Zw

/-! Zi: the law's draws: cell_at, stream, draws, looks. -/
namespace Zw
open PySem PySem.Spec PyProof.Rows L2
theorem PvX.grow {β : Type} {H0 H H4 : Hp} {D : Addr} {R : Hp → V → β → Prop} {G : Nat → β → Prop} {i : Nat} (p : PvX H0 D R G i H) (mono : ∀ (N N' : Hp) (v : V) (y : β), Same N N' → R N v y → R N' v y) (s : Same H H4) : PvX H0 D R G i H4 := by
  obtain ⟨free, same, acc, ys, hD, ha, hl, hg⟩ := p
  exact ⟨free, same.trans s, acc, ys, s _ _ hD, ha.mono fun a b q => mono _ _ a b (neu_mono (Same.refl _) s) q, hl, hg⟩
theorem sIx_int {n d : Nat} {v : Int} (h : 0 ≤ v) : HT.sIx n d (some v) = min v.toNat n := by
  show (if v < 0 then (v + (n : Int)).toNat else min v.toNat n) = min v.toNat n
  rw [if_neg (by omega)]
/-- xs[v:] -/
theorem cut_from {xs : List V} {v : Int} (h : 0 ≤ v) : cutV xs (some v) none = xs.drop v.toNat := by
  unfold cutV
  rw [sIx_int h, HT.sIx_none, List.take_of_length_le (by rw [List.length_drop]; omega)]
  by_cases hv : v.toNat ≤ xs.length
  · rw [Nat.min_eq_left hv]
  · rw [Nat.min_eq_right (by omega), List.drop_of_length_le (Nat.le_refl _), List.drop_of_length_le (by omega)]
/-- xs[u:v] -/
theorem cut_mid {xs : List V} {u v : Int} (h : 0 ≤ u) (h2 : 0 ≤ v) : cutV xs (some u) (some v) = (xs.drop (min u.toNat xs.length)).take (min v.toNat xs.length - min u.toNat xs.length) := by
  unfold cutV
  rw [sIx_int h, sIx_int h2]
/-- xs[:v] -/
theorem cut_to {xs : List V} {v : Int} (h : 0 ≤ v) : cutV xs none (some v) = xs.take v.toNat := by
  unfold cutV
  rw [sIx_int h, HT.sIx_none, Nat.sub_zero, List.drop_zero]
  by_cases hv : v.toNat ≤ xs.length
  · rw [Nat.min_eq_left hv]
  · rw [Nat.min_eq_right (by omega), List.take_of_length_le (Nat.le_refl _), List.take_of_length_le (by omega)]
section
variable {P : Program} {w : World} {K : PySem.W.Frag} {mg : Str → Option Value} {base : Heap} {D M : Addr}
/-! ### _law_cell_at -/
def spCell (K : PySem.W.Frag) : Sp := fun vs H Q _ => ∃ (a : Addr) (ns : List Int) (k : Int), vs = [.ref a, .int k] ∧ SqL K H a (ns.map V.int) ∧ 0 ≤ k ∧ ∀ n : Int, Q (.int n) H
theorem d_cell (T : Txt K mg D M) : Def P w K mg base "_law_cell_at" 1 ["_law_script", "_law_k"] (spCell K) := by
  refine def_of (N := ["_law_script", "_law_k"]) T.cell ⟨rfl, rfl, rfl, by decide +kernel, rfl, by decide +kernel, by decide +kernel⟩ (fun _ _ _ _ _ _ us hl => match us, hl with | [_, _], _ => rfl) (fun vs H Q E h => ?_) (fun f cdv A outer s H vs Q E hr h => ?_)
  · obtain ⟨a, ns, k, rfl, _⟩ := h
    rfl
  · obtain ⟨a, ns, i, rfl, ha, hi, k⟩ := h
    refine ⟨_, pss_cons (ps_if (pt_cmpR op_lt (pv 1) (pe_callB call_len_seq (by rfl) T.len PySem.boot_len (pa_cons (pv 0) pa_nil)) (nomark _)) (pss_one (ps_ret (pe_ix ix_list (pv 0) (pv 1) (fun _ _ => rfl)))) pss_nil) (pss_one (ps_ret pe_int)), ?_⟩
    refine ⟨_, rfl, _, rfl, a, _, rfl, .inl ha, _, _, rfl, rfl, _, rfl, iteD (fun c => ?_) fun c => k 0⟩
    rw [List.length_map] at c
    obtain ⟨n, hn⟩ := get_lt (xs := ns) (i := i.toNat) (by omega)
    exact ⟨_, rfl, _, rfl, a, _, i, .int n, rfl, rfl, ha, at_of (j := i.toNat) (by omega) (get_map_of hn), k n⟩
/-! ### _law_stream -/
def spStream : Sp := fun vs H Q _ => ∃ c m : Int, vs = [.int c, .int m] ∧ 0 ≤ m ∧ m ≤ 5000 ∧ ∀ (H' : Hp) (p : Addr) (ns : List Int), Same H H' → H p = none → H' p = some (.lst (ns.map V.int)) → ns.length = m.toNat → Q (.ref p) H'
theorem d_stream (T : Txt K mg D M) : Def P w K mg base "_law_stream" 1 ["_law_cell", "_law_many"] spStream := by
  have sc : FnScope ["_law_cell", "_law_many", "_law_found", "_law_rest", "_law_k", "_law_number"] ["_law_cell", "_law_many"] (defScope sStream) := ⟨rfl, rfl, rfl, by decide +kernel, rfl, by decide +kernel, by decide +kernel⟩
  refine def_of T.stream sc (fun _ _ _ _ _ _ us hl => match us, hl with | [_, _], _ => rfl) (fun vs H Q E h => ?_) (fun f cdv A outer s H vs Q E hr h => ?_)
  · obtain ⟨c, m, rfl, _⟩ := h
    rfl
  · obtain ⟨c, m, rfl, h0, h5, k⟩ := h
    refine ⟨_, pss_cons (ps_set (i := 2) sc.nd rfl (Or.inl rfl) (pe_lst pa_nil))
      (pss_cons (ps_if (pt_cmpR op_ge (pv 0) (pe_op op_pow pe_int pe_int) (nomark _))
        (pss_cons (ps_set (i := 3) sc.nd rfl (Or.inl rfl) (pe_op op_sub (pv 0) (pe_op op_pow pe_int pe_int)))
        (pss_cons (ps_for PassesOwn.never rfl (pi_range1 (by rfl) T.range (pa_cons (pv 1) pa_nil)) (pg_name (i := 4) sc.nd rfl (Or.inl rfl))
          (pss_cons (ps_expr (pe_bm PySem.F.plainAttrs_list PySem.F.slot_list_append PySem.F.type_list_append mt_append (pv 2) (pa_cons (pe_op op_mod (pv 3) pe_int) pa_nil)))
          (pss_one (ps_set (i := 3) sc.nd rfl (Or.inl rfl) (pe_op op_fdivW (pv 3) pe_int)))))
        (pss_one (ps_ret (pv 2))))) pss_nil)
      (pss_cons (ps_set (i := 5) sc.nd rfl (Or.inl rfl) (pe_op op_add (pe_op op_mod (pv 0) pe_int) pe_int))
      (pss_cons (ps_for PassesOwn.never rfl (pi_range1 (by rfl) T.range (pa_cons (pe_op op_add (pv 1) pe_int) pa_nil)) (pg_name (i := 4) sc.nd rfl (Or.inl rfl))
        (pss_cons (ps_set (i := 5) sc.nd rfl (Or.inl rfl) (pe_op op_mod (pe_op op_add (pe_op op_add (pe_op op_mul (pv 5) (pv 5)) (pe_op op_mul pe_int (pv 5))) (pv 4)) pe_int))
        (pss_one (ps_expr (pe_bm PySem.F.plainAttrs_list PySem.F.slot_list_append PySem.F.type_list_append mt_append (pv 2) (pa_cons (pv 5) pa_nil))))))
      (pss_one (ps_ret (pe_slice sl_list (pv 2) (po_some pe_int) po_none)))))), ?_⟩
    refine ⟨Nat.zero_le _, fun p hp => ?_⟩
    refine ⟨_, rfl, _, _, rfl, rfl, ⟨by decide, by decide, by decide⟩, _, _, rfl, rfl, _, rfl, ite2 (fun _ => ?_) (fun _ => ?_)⟩
    · refine ⟨_, rfl, _, _, rfl, rfl, ⟨by decide, by decide, by decide⟩, _, _, rfl, rfl, ?_⟩
      refine ⟨_, rfl, m, rfl, by omega, by omega, for_range (lo := 0) (n := m.toNat) (fun i σ H' => ∃ (r : Int) (v4 : Option V), σ = [some (.int c), some (.int m), some (.ref p), some (.int r), v4, none] ∧ PvX H p RInt (fun _ _ => True) i H') ⟨_, none, rfl, PvX.start hp⟩ ?_ ?_⟩
      · rintro i σ H' hi ⟨r, v4, rfl, v⟩
        obtain ⟨acc, hD, hlt, v'⟩ := v.next RInt.mono (Same.refl _) (show RInt _ _ (r % 2147483647) from rfl) trivial (by omega)
        refine ⟨_, rfl, .inl ⟨rfl, _, SqL.of hD⟩, _, rfl, _, _, rfl, rfl, (by show (0 : Int) < 2147483647; decide), p, acc, _, rfl, rfl, hD, hlt, ?_⟩
        refine ⟨_, rfl, _, _, rfl, rfl, ⟨by decide, by decide⟩, ?_⟩
        exact ⟨_, _, rfl, v'⟩
      · rintro σ H' ⟨r, v4, rfl, v⟩
        obtain ⟨acc, ys, hD, hacc, hl, _⟩ := v.acc
        rw [ints_of hacc] at hD
        exact ⟨_, rfl, k H' p ys v.same hp hD hl⟩
    · refine ⟨_, rfl, _, _, rfl, rfl, (by show (0 : Int) < 2147483647; decide), _, _, rfl, rfl, ?_⟩
      have b0 : 0 ≤ c % 2147483647 := Int.emod_nonneg _ (by decide)
      have b1 : c % 2147483647 < 2147483647 := Int.emod_lt_of_pos _ (by decide)
      refine ⟨_, rfl, _, _, rfl, rfl, m + 2, rfl, by omega, by omega, for_range (lo := 0) (n := (m + 2).toNat) (fun i σ H' => ∃ (r : Int) (v4 : Option V), σ = [some (.int c), some (.int m), some (.ref p), none, v4, some (.int r)] ∧ 0 ≤ r ∧ r < 4294967296 ∧ PvX H p RInt (fun _ _ => True) i H') ⟨_, none, rfl, by omega, by omega, PvX.start hp⟩ ?_ ?_⟩
      · rintro i σ H' hi ⟨r, v4, rfl, r0, r1, v⟩
        refine ⟨_, rfl, _, rfl, _, _, rfl, rfl, .inl ⟨by omega, by omega⟩, _, rfl, _, _, rfl, rfl, .inl ⟨by decide, by decide⟩, _, _, rfl, rfl, _, rfl, _, _, rfl, rfl, _, _, rfl, rfl, (by show (0 : Int) < 2147483647; decide), ?_⟩
        have z0 : 0 ≤ (r * r + 48271 * r + (0 + (i : Int))) % 2147483647 := Int.emod_nonneg _ (by decide)
        have z1 : (r * r + 48271 * r + (0 + (i : Int))) % 2147483647 < 2147483647 := Int.emod_lt_of_pos _ (by decide)
        obtain ⟨acc, hD, hlt, v'⟩ := v.next RInt.mono (Same.refl _) (show RInt _ _ ((r * r + 48271 * r + (0 + (i : Int))) % 2147483647) from rfl) trivial (by omega)
        refine ⟨_, rfl, .inl ⟨rfl, _, SqL.of hD⟩, _, rfl, p, acc, _, rfl, rfl, hD, hlt, ?_⟩
        exact ⟨_, _, rfl, z0, Int.lt_trans z1 (by decide), v'⟩
      · rintro σ H' ⟨r, v4, rfl, r0, r1, v⟩
        obtain ⟨acc, ys, hD, hacc, hl, _⟩ := v.acc
        rw [ints_of hacc] at hD
        refine ⟨_, rfl, _, rfl, p, _, rfl, SqL.of hD, fun q hq => ?_⟩
        have e : cutV (ys.map V.int) (some 2) none = (ys.drop 2).map V.int := by
          rw [cut_from (by decide), List.map_drop]
          rfl
        rw [e]
        exact k _ q (ys.drop 2) (v.same.trans (Same.new hq)) (v.same.free hq) upd_same (by rw [List.length_drop, hl]; omega)
/-! ### _law_draws -/
def spDraws : Sp := fun vs H Q _ => ∃ c i m : Int, vs = [.int c, .int i, .int m] ∧ 0 ≤ i ∧ i ≤ 200 ∧ 0 ≤ m ∧ m ≤ 5 ∧ ∀ (H' : Hp) (p : Addr) (ns : List Int), Same H H' → H p = none → H' p = some (.lst (ns.map V.int)) → ns.length = m.toNat → Q (.ref p) H'
theorem d_draws (T : Txt K mg D M) : Def P w K mg base "_law_draws" 2 ["_law_cell", "_law_k", "_law_many"] spDraws := by
  have F1 : Def P w K mg base "_law_stream" 1 _ _ := d_stream T
  have sc : FnScope ["_law_cell", "_law_k", "_law_many"] ["_law_cell", "_law_k", "_law_many"] (defScope sDraws) := ⟨rfl, rfl, rfl, by decide +kernel, rfl, by decide +kernel, by decide +kernel⟩
  refine def_of T.draws sc (fun _ _ _ _ _ _ us hl => match us, hl with | [_, _, _], _ => rfl) (fun vs H Q E h => ?_) (fun f cdv A outer s H vs Q E hr h => ?_)
  · obtain ⟨c, i, m, rfl, _⟩ := h
    rfl
  · obtain ⟨c, i, m, rfl, i0, i2, m0, m5, k⟩ := h
    refine ⟨_, pss_cons (ps_if (pt_cmpR op_ge (pv 0) (pe_op op_pow pe_int pe_int) (nomark _))
        (pss_one (ps_ret (pe_slice sl_list (pe_def F1 hr (ha := pa_cons (pv 0) (pa_cons (pe_op op_mul (pv 2) (pe_op op_add (pv 1) pe_int)) pa_nil))) (po_some (pe_op op_mul (pv 2) (pv 1))) po_none))) pss_nil)
      (pss_one (ps_ret (pe_def F1 hr (ha := pa_cons (pe_op op_add (pv 0) (pe_op op_mul pe_int (pv 1))) (pa_cons (pv 2) pa_nil))))), ?_⟩
    refine ⟨_, rfl, _, _, rfl, rfl, ⟨by decide, by decide, by decide⟩, _, _, rfl, rfl, _, rfl, ite2 (fun _ => ?_) (fun _ => ?_)⟩
    · have hm1 : 0 ≤ m * (i + 1) := Int.mul_nonneg m0 (by omega)
      have hm2 : m * (i + 1) ≤ 5 * (i + 1) := Int.mul_le_mul_of_nonneg_right m5 (by omega)
      have hm3 : 0 ≤ m * i := Int.mul_nonneg m0 i0
      have hm4 : m * (i + 1) = m * i + m := by rw [Int.mul_add, Int.mul_one]
      refine ⟨_, rfl, _, rfl, _, rfl, _, _, rfl, rfl, _, _, rfl, rfl, .inl ⟨by omega, by omega⟩, c, m * (i + 1), rfl, hm1, by omega, fun H' p ns s1 hp hn hl => ?_⟩
      refine ⟨_, rfl, _, rfl, _, _, rfl, rfl, .inl ⟨by omega, by omega⟩, m * i, rfl, p, _, rfl, SqL.of hn, fun q hq => ?_⟩
      have e : cutV (ns.map V.int) (some (m * i)) none = (ns.drop (m * i).toNat).map V.int := by
        rw [cut_from hm3, List.map_drop]
      rw [e]
      exact k _ q _ (s1.trans (Same.new hq)) (s1.free hq) upd_same (by rw [List.length_drop, hl]; omega)
    · exact ⟨_, rfl, _, rfl, _, _, rfl, rfl, .inl ⟨by decide, by decide⟩, _, _, rfl, rfl, _, rfl, _, m, rfl, m0, by omega, k⟩
/-! ### _law_looks -/
def spLooks (K : PySem.W.Frag) : Sp := fun vs H Q _ => ∃ (n most unit : Int) (a b : Addr) (ws wds : List Str), vs = [.int n, .ref a, .ref b, .int most, .int unit] ∧ SqL K H a (ws.map V.str) ∧ SqL K H b (wds.map V.str) ∧ wds ≠ [] ∧ (∀ s, s ∈ ws → OkS s) ∧ 0 ≤ most ∧ most ≤ 100 ∧ 0 ≤ unit ∧
  ∀ (H' : Hp) (v : V) (g : List Look), Same H H' → GuardAt (neu H H') v g → GuardOk ws wds g → Q v H'
theorem d_looks (T : Txt K mg D M) : Def P w K mg base "_law_looks" 1 ["_law_number", "_law_watches", "_law_words", "_law_most", "_law_unit"] (spLooks K) := by
  have sc : FnScope ["_law_number", "_law_watches", "_law_words", "_law_most", "_law_unit", "_law_looks_here", "_law_k", "_law_one", "_law_size"] ["_law_number", "_law_watches", "_law_words", "_law_most", "_law_unit"] (defScope sLooks) := ⟨rfl, rfl, rfl, by decide +kernel, rfl, by decide +kernel, by decide +kernel⟩
  refine def_of T.looks sc (fun _ _ _ _ _ _ us hl => match us, hl with | [_, _, _, _, _], _ => rfl) (fun vs H Q E h => ?_) (fun f cdv A outer s H vs Q E hr h => ?_)
  · obtain ⟨n, most, unit, a, b, ws, wds, rfl, _⟩ := h
    rfl
  · obtain ⟨n, most, unit, a, b, ws, wds, rfl, ha, hb, hne, okw, m0, m1, u0, k⟩ := h
    refine ⟨_, pss_cons (ps_set (i := 5) sc.nd rfl (Or.inl rfl) (pe_lst pa_nil))
      (pss_cons (ps_for PassesOwn.never rfl (pi_range1 (by rfl) T.range (pa_cons (pe_op op_mod (pv 0) (pe_op op_add (pv 3) pe_int)) pa_nil)) (pg_name (i := 6) sc.nd rfl (Or.inl rfl))
        (pss_one (ps_if (pt_cmpR (op_neD hr.units) (pv 1) (pe_lst pa_nil) (nomark _))
          (C8.pss_cut (ps_set (i := 7) sc.nd rfl (Or.inl rfl) (pe_op op_mod (pe_op op_mul (pe_op op_mod (pe_op op_fdiv (pv 0) (pe_op op_add pe_int (pe_op op_mul pe_int (pv 6)))) pe_int) pe_int) pe_int))
          (C8.pss_cut (ps_set (i := 8) sc.nd rfl (Or.inl rfl) (pe_op op_add (pe_op op_mul (pe_op op_mod (pe_op op_fdiv (pv 7) pe_int) pe_int) (pv 4)) (pe_op op_mod (pe_op op_fdiv (pv 7) pe_int) pe_int)))
          (pss_one (ps_expr (pe_bm PySem.F.plainAttrs_list PySem.F.slot_list_append PySem.F.type_list_append mt_append (pv 5) (pa_cons
            (pe_tup (pa_cons (pe_ix ix_list (pv 1) (pe_op op_mod (pv 7) (pe_callB call_len_seq (by rfl) T.len PySem.boot_len (pa_cons (pv 1) pa_nil))) (fun _ _ => rfl))
              (pa_cons (pe_ix ix_list (pv 2) (pe_op op_mod (pe_op op_fdiv (pv 7) pe_int) (pe_callB call_len_seq (by rfl) T.len PySem.boot_len (pa_cons (pv 2) pa_nil))) (fun _ _ => rfl)) (pa_cons (pv 8) pa_nil)))) pa_nil)))))) pss_nil)))
      (pss_one (ps_ret (pv 5)))), ?_⟩
    refine ⟨Nat.zero_le _, fun p hp => ?_⟩
    have q0 : 0 ≤ n % (most + 1) := Int.emod_nonneg _ (by omega)
    have q1 : n % (most + 1) < most + 1 := Int.emod_lt_of_pos _ (by omega)
    refine ⟨_, rfl, _, rfl, _, _, rfl, rfl, _, _, rfl, rfl, (by show (0 : Int) < most + 1; omega), n % (most + 1), rfl, by omega, by omega,
      for_range (lo := 0) (n := (n % (most + 1)).toNat) (fun i σ H' => ∃ (j : Nat) (v6 v7 v8 : Option V), σ = [some (.int n), some (.ref a), some (.ref b), some (.int most), some (.int unit), some (.ref p), v6, v7, v8] ∧ j ≤ i ∧ PvX H p LookAt (fun _ l => LookOk ws wds l) j H') ⟨0, none, none, none, rfl, Nat.le_refl _, PvX.start hp⟩ ?_ ?_⟩
    · rintro i σ H' hi ⟨j, v6, v7, v8, rfl, hj, v⟩
      have mono : ∀ (N N' : Hp) (v : V) (y : Look), Same N N' → LookAt N v y → LookAt N' v y := fun _ _ _ _ s h => h.mono s
      refine ⟨_, rfl, Nat.zero_le _, fun e he => ?_⟩
      have se : Same H' (upd H' e (.lst [])) := Same.new he
      have sH := v.same.trans se
      have ve := v.grow mono se
      refine ⟨dStrs ws, .list [], dp_strs (sH.seq ha), .lst (SqL.of upd_same) .nil, shaped_of (can_strs okw) (Nat.le_trans (dep_strs ws) (by decide)), shaped_of rfl (by decide), _, rfl, ?_⟩
      cases ws with
      | nil => exact iteF ⟨j, _, _, _, rfl, Nat.le_succ_of_le hj, ve⟩
      | cons w0 wr =>
        refine iteT ?_
        generalize hws : w0 :: wr = ws at *
        have wpos : 0 < ws.length := by rw [← hws]; simp
        have dpos : 0 < wds.length := by
          cases wds with
          | nil => exact absurd rfl hne
          | cons _ _ => simp
        refine ⟨fun σ' H2 => ∃ one : Int, σ' = [some (.int n), some (.ref a), some (.ref b), some (.int most), some (.int unit), some (.ref p), some (.int (0 + (i : Int))), some (.int one), v8] ∧ H2 = upd H' e (.lst []), ?_, ?_⟩
        · exact ⟨_, rfl, _, rfl, _, _, rfl, rfl, .inl ⟨by decide, by decide⟩, _, _, rfl, rfl, _, _, rfl, rfl, ⟨by omega, by omega⟩, _, _, rfl, rfl, (by show (0 : Int) < 2147483647; decide), _, _, rfl, rfl, .inr ⟨by decide, by decide⟩, _, _, rfl, rfl, (by show (0 : Int) < 2147483647; decide), _, rfl, rfl⟩
        rintro σ' H2 ⟨one, rfl, rfl⟩
        refine ⟨fun σ' H2 => ∃ z : Int, 0 ≤ z ∧ σ' = [some (.int n), some (.ref a), some (.ref b), some (.int most), some (.int unit), some (.ref p), some (.int (0 + (i : Int))), some (.int one), some (.int z)] ∧ H2 = upd H' e (.lst []), ?_, ?_⟩
        · have y0 : 0 ≤ one / 100 % 4 := Int.emod_nonneg _ (by decide)
          have y1 : one / 100 % 4 < 4 := Int.emod_lt_of_pos _ (by decide)
          have y2 : 0 ≤ one / 400 % 3 := Int.emod_nonneg _ (by decide)
          have y3 : 0 ≤ one / 100 % 4 * unit := Int.mul_nonneg y0 u0
          exact ⟨_, rfl, _, _, rfl, rfl, ⟨by decide, by decide⟩, _, _, rfl, rfl, (by show (0 : Int) < 4; decide), _, rfl, _, _, rfl, rfl, .inl ⟨Int.lt_of_lt_of_le (by decide) y0, Int.lt_trans y1 (by decide)⟩, _, rfl, _, _, rfl, rfl, ⟨by decide, by decide⟩, _, _, rfl, rfl, (by show (0 : Int) < 3; decide), _, _, rfl, rfl, _, Int.add_nonneg y3 y2, rfl, rfl⟩
        rintro σ' H2 ⟨z, hz, rfl, rfl⟩
        have aw0 : 0 ≤ one % ((ws.map V.str).length : Int) := Int.emod_nonneg _ (by rw [List.length_map]; omega)
        have aw1 : one % ((ws.map V.str).length : Int) < ((ws.map V.str).length : Int) := Int.emod_lt_of_pos _ (by rw [List.length_map]; omega)
        have bw0 : 0 ≤ one / 7 % ((wds.map V.str).length : Int) := Int.emod_nonneg _ (by rw [List.length_map]; omega)
        have bw1 : one / 7 % ((wds.map V.str).length : Int) < ((wds.map V.str).length : Int) := Int.emod_lt_of_pos _ (by rw [List.length_map]; omega)
        obtain ⟨x, hx⟩ := get_lt (xs := ws) (i := (one % ((ws.map V.str).length : Int)).toNat) (by rw [List.length_map] at *; omega)
        obtain ⟨y, hy⟩ := get_lt (xs := wds) (i := (one / 7 % ((wds.map V.str).length : Int)).toNat) (by rw [List.length_map] at *; omega)
        obtain ⟨acc0, ys0, hD0, _⟩ := ve.acc
        refine ⟨_, rfl, .inl ⟨rfl, _, SqL.of hD0⟩, _, rfl, _, rfl, _, rfl, a, _, rfl, .inl (sH.seq ha), _, _, rfl, rfl, (by show (0 : Int) < ((ws.map V.str).length : Int); rw [List.length_map]; omega), a, _, _, .str x, rfl, rfl, sH.seq ha, at_of (j := (one % ((ws.map V.str).length : Int)).toNat) (by omega) (get_map_of hx), ?_⟩
        refine ⟨_, rfl, _, rfl, _, _, rfl, rfl, ⟨by decide, by decide⟩, _, rfl, b, _, rfl, .inl (sH.seq hb), _, _, rfl, rfl, (by show (0 : Int) < ((wds.map V.str).length : Int); rw [List.length_map]; omega), b, _, _, .str y, rfl, rfl, sH.seq hb, at_of (j := (one / 7 % ((wds.map V.str).length : Int)).toNat) (by omega) (get_map_of hy), ?_⟩
        refine ⟨_, rfl, (by show 3 ≤ sizeLine; decide), fun t ht => ?_⟩
        obtain ⟨acc, hD, hlt, v'⟩ := ve.next mono (Same.new ht) (y := (x, y, z)) ⟨t, rfl, neu_new ht⟩ ⟨List.mem_of_getElem? hx, List.mem_of_getElem? hy, hz⟩ (by omega)
        exact ⟨p, acc, _, rfl, rfl, hD, hlt, j + 1, _, _, _, rfl, Nat.succ_le_succ hj, v'⟩
    · rintro σ H' ⟨j, v6, v7, v8, rfl, hj, v⟩
      obtain ⟨s1, acc, ys, hD, hacc, hl, hg⟩ := v.done fun _ _ _ _ s h => h.mono s
      refine ⟨_, rfl, k H' (.ref p) ys s1 ⟨p, acc, rfl, hD, hacc⟩ ⟨by omega, fun l hl => ?_⟩⟩
      obtain ⟨j, hj⟩ := List.getElem?_of_mem hl
      exact hg j l hj
end
end Zw

/-! Zj: the law's names. -/
namespace Zw
open PySem PySem.Spec PyProof.Rows L2
/-! ### what the names are -/
/-- the sign's number of the k-th name at j; z the size, a the place at which they differ -/
def sgn (c z a k j : Int) : Int := if j = (a + 1) % z then (if j = a then c / 6720 + j * (1 + c % 25) + k % 26 else c / 6720 + j * (1 + c % 25)) + k / 26 else (if j = a then c / 6720 + j * (1 + c % 25) + k % 26 else c / 6720 + j * (1 + c % 25))
def code (c z a k : Int) (j : Nat) : Nat := 97 + (sgn c z a k (0 + (j : Int)) % 26).toNat
/-- the first n signs of it -/
def nm (c z a k : Int) (n : Nat) : Str := ⟨((List.range n).map (code c z a k)).toArray⟩
theorem nm_list (c z a k : Int) (n : Nat) : (nm c z a k n).cps.toList = (List.range n).map (code c z a k) := rfl
theorem nm_len (c z a k : Int) (n : Nat) : (nm c z a k n).length = n := by
  rw [len_list, nm_list, List.length_map, List.length_range]
theorem nm_succ (c z a k : Int) (n : Nat) : nm c z a k n ++ sq (code c z a k n) = nm c z a k (n + 1) := by
  apply str_ext
  rw [app_list, nm_list, nm_list, List.range_succ, List.map_append]
  rfl
theorem nm_zero (c z a k : Int) : nm c z a k 0 = "" := by
  apply str_ext
  rw [nm_list]
  rfl
theorem nm_isNm (c z a k : Int) {n : Nat} (h1 : 1 ≤ n) (h8 : n ≤ 8) : IsNm (nm c z a k n) := by
  refine ⟨fun x hx => ?_, by rw [nm_len]; exact h1, by rw [nm_len]; exact h8⟩
  rw [nm_list] at hx
  obtain ⟨j, _, rfl⟩ := List.mem_map.mp hx
  unfold code
  have h0 := Int.emod_nonneg (sgn c z a k (0 + (j : Int))) (show (26 : Int) ≠ 0 by decide)
  have h2 := Int.emod_lt_of_pos (sgn c z a k (0 + (j : Int))) (show (0 : Int) < 26 by decide)
  omega
theorem next_ne {z a : Int} (hz : 2 ≤ z) (h0 : 0 ≤ a) (h1 : a < z) : (a + 1) % z ≠ a ∧ 0 ≤ (a + 1) % z ∧ (a + 1) % z < z := by
  refine ⟨?_, Int.emod_nonneg _ (by omega), Int.emod_lt_of_pos _ (by omega)⟩
  by_cases e : a + 1 = z
  · rw [e, Int.emod_self]
    omega
  · rw [Int.emod_eq_of_lt (by omega) (by omega)]
    omega
theorem nm_code {c z a k k' : Int} {n j : Nat} (h : nm c z a k n = nm c z a k' n) (hj : j < n) : sgn c z a k (j : Int) % 26 = sgn c z a k' (j : Int) % 26 := by
  have e : (List.range n).map (code c z a k) = (List.range n).map (code c z a k') := by rw [← nm_list, ← nm_list, h]
  have e2 : ((List.range n).map (code c z a k))[j]? = ((List.range n).map (code c z a k'))[j]? := by rw [e]
  rw [List.getElem?_map, List.getElem?_map, List.getElem?_range hj] at e2
  have e3 : code c z a k j = code c z a k' j := Option.some.inj e2
  unfold code at e3
  rw [Int.zero_add] at e3
  have h0 := Int.emod_nonneg (sgn c z a k (j : Int)) (show (26 : Int) ≠ 0 by decide)
  have h2 := Int.emod_nonneg (sgn c z a k' (j : Int)) (show (26 : Int) ≠ 0 by decide)
  omega
theorem nm_inj {c z a : Int} {k k' : Nat} (hz : 2 ≤ z) (h0 : 0 ≤ a) (h1 : a < z) (hk : k < 72) (hk' : k' < 72) (h : nm c z a (k : Int) z.toNat = nm c z a (k' : Int) z.toNat) : k = k' := by
  obtain ⟨n1, n2, n3⟩ := next_ne hz h0 h1
  have p1 := nm_code (j := a.toNat) h (by omega)
  have p2 := nm_code (j := ((a + 1) % z).toNat) h (by omega)
  rw [Int.toNat_of_nonneg h0] at p1
  rw [Int.toNat_of_nonneg n2] at p2
  have q1 : ∀ k : Int, sgn c z a k a = c / 6720 + a * (1 + c % 25) + k % 26 := fun k => by
    unfold sgn
    rw [if_neg (fun e => n1 e.symm), if_pos rfl]
  have q2 : ∀ k : Int, sgn c z a k ((a + 1) % z) = c / 6720 + (a + 1) % z * (1 + c % 25) + k / 26 := fun k => by
    unfold sgn
    rw [if_pos rfl, if_neg n1]
  rw [q1, q1] at p1
  rw [q2, q2] at p2
  generalize c / 6720 + a * (1 + c % 25) = x at p1
  generalize c / 6720 + (a + 1) % z * (1 + c % 25) = y at p2
  omega
theorem at_int {α : Type} {xs : List α} {z : Int} {v : α} (h0 : 0 ≤ z) (h : xs[z.toNat]? = some v) : atI xs z = some v := by
  have e := atI_nat h
  rw [Int.toNat_of_nonneg h0] at e
  exact e
theorem letter_at {i : Int} (h0 : 0 ≤ i) (h : i < 26) : atI letters.cps.toList i = some (97 + i.toNat) := by
  refine at_int h0 ?_
  rw [letters_list, List.getElem?_range' (by omega)]
  congr 1
  omega
/-- the names that a script has -/
def NamesOk (ss : List Str) : Prop := (∀ s, s ∈ ss → IsNm s) ∧ ss.Nodup
section
variable {P : Program} {w : World} {K : PySem.W.Frag} {mg : Str → Option Value} {base : Heap} {D M : Addr}
def spNames : Sp := fun vs H Q _ => ∃ c : Int, vs = [.int c, .int 72] ∧ ∀ (H' : Hp) (p : Addr) (ss : List Str), Same H H' → neu H H' p = some (.lst (ss.map V.str)) → ss.length = 72 → NamesOk ss → Q (.ref p) H'
theorem d_names (T : Txt K mg D M) : Def P w K mg base "_law_names" 1 ["_law_cell", "_law_many"] spNames := by
  have sc : FnScope ["_law_cell", "_law_many", "_law_letters", "_law_size", "_law_at", "_law_names_here", "_law_k", "_law_name", "_law_j", "_law_sign"] ["_law_cell", "_law_many"] (defScope sNames) := ⟨rfl, rfl, rfl, by decide +kernel, rfl, by decide +kernel, by decide +kernel⟩
  refine def_of T.names sc (fun _ _ _ _ _ _ us hl => match us, hl with | [_, _], _ => rfl) (fun vs H Q E h => ?_) (fun f cdv A outer s H vs Q E hr h => ?_)
  · obtain ⟨c, rfl, _⟩ := h
    rfl
  · obtain ⟨c, rfl, k⟩ := h
    refine ⟨_, pss_cons (ps_set (i := 2) sc.nd rfl (Or.inl rfl) pe_str)
      (C8.pss_cut (ps_set (i := 3) sc.nd rfl (Or.inl rfl) (pe_op op_add pe_int (pe_op op_mod (pv 0) pe_int)))
      (C8.pss_cut (ps_set (i := 4) sc.nd rfl (Or.inl rfl) (pe_op op_mod (pe_op op_mod (pe_op op_fdiv (pv 0) pe_int) pe_int) (pv 3)))
      (pss_cons (ps_set (i := 5) sc.nd rfl (Or.inl rfl) (pe_lst pa_nil))
      (pss_cons (ps_for PassesOwn.never rfl (pi_range1 (by rfl) T.range (pa_cons (pv 1) pa_nil)) (pg_name (i := 6) sc.nd rfl (Or.inl rfl))
        (pss_cons (ps_set (i := 7) sc.nd rfl (Or.inl rfl) pe_str)
        (pss_cons (ps_for PassesOwn.never rfl (pi_range1 (by rfl) T.range (pa_cons (pv 3) pa_nil)) (pg_name (i := 8) sc.nd rfl (Or.inl rfl))
          (pss_cons (ps_set (i := 9) sc.nd rfl (Or.inl rfl) (pe_op op_add (pe_op op_fdiv (pv 0) pe_int) (pe_op op_mul (pv 8) (pe_op op_add pe_int (pe_op op_mod (pv 0) pe_int)))))
          (C8.pss_cut (ps_if (pt_cmpR op_eq (pv 8) (pv 4) (nomark _)) (pss_one (ps_set (i := 9) sc.nd rfl (Or.inl rfl) (pe_op op_add (pv 9) (pe_op op_mod (pv 6) pe_int)))) pss_nil)
          (C8.pss_cut (ps_if (pt_cmpR op_eq (pv 8) (pe_op op_mod (pe_op op_add (pv 4) pe_int) (pv 3)) (nomark _)) (pss_one (ps_set (i := 9) sc.nd rfl (Or.inl rfl) (pe_op op_add (pv 9) (pe_op op_fdiv (pv 6) pe_int)))) pss_nil)
          (pss_one (ps_set (i := 7) sc.nd rfl (Or.inl rfl) (pe_op op_add_str (pv 7) (pe_ix ix_str (pv 2) (pe_op op_mod (pv 9) pe_int) (fun _ _ => rfl)))))))))
        (pss_one (ps_expr (pe_bm PySem.F.plainAttrs_list PySem.F.slot_list_append PySem.F.type_list_append mt_append (pv 5) (pa_cons (pv 7) pa_nil)))))))
      (pss_one (ps_ret (pv 5))))))), ?_⟩
    -- the size, the place
    refine ⟨fun σ' H2 => ∃ z : Int, 2 ≤ z ∧ z ≤ 8 ∧ σ' = [some (.int c), some (.int 72), some (.str letters), some (.int z), none, none, none, none, none, none] ∧ H2 = H, ⟨_, rfl, _, _, rfl, rfl, (by show (0 : Int) < 7; decide), _, _, rfl, rfl, 2 + c % 7, by omega, by omega, rfl, rfl⟩, ?_⟩
    rintro σ' H2 ⟨z, z2, z8, rfl, rfl⟩
    refine ⟨fun σ' H3 => ∃ a : Int, 0 ≤ a ∧ a < z ∧ σ' = [some (.int c), some (.int 72), some (.str letters), some (.int z), some (.int a), none, none, none, none, none] ∧ H3 = H2, ⟨_, rfl, _, _, rfl, rfl, ⟨by decide, by decide⟩, _, _, rfl, rfl, (by show (0 : Int) < 840; decide), _, rfl, _, _, rfl, rfl, (by show 0 < z; omega), _, Int.emod_nonneg _ (by omega), Int.emod_lt_of_pos _ (by omega), rfl, rfl⟩, ?_⟩
    rintro σ' H3 ⟨a, a0, a1, rfl, rfl⟩
    refine ⟨Nat.zero_le _, fun p hp => ?_⟩
    refine ⟨_, rfl, 72, rfl, by decide, by decide, for_range (lo := 0) (n := 72) (fun i σ H' => ∃ (v6 v7 v8 v9 : Option V), σ = [some (.int c), some (.int 72), some (.str letters), some (.int z), some (.int a), some (.ref p), v6, v7, v8, v9] ∧ PvX H3 p RStr (fun j y => y = nm c z a (j : Int) z.toNat) i H') ⟨none, none, none, none, rfl, PvX.start hp⟩ ?_ ?_⟩
    · rintro i σ H' hi ⟨v6, v7, v8, v9, rfl, v⟩
      refine ⟨_, rfl, z, rfl, by omega, by omega, for_range (lo := 0) (n := z.toNat) (fun j σ H4 => ∃ (v8 v9 : Option V), σ = [some (.int c), some (.int 72), some (.str letters), some (.int z), some (.int a), some (.ref p), some (.int (0 + (i : Int))), some (.str (nm c z a (0 + (i : Int)) j)), v8, v9] ∧ H4 = H') ⟨v8, v9, by rw [nm_zero]; rfl, rfl⟩ ?_ ?_⟩
      · rintro j σ H4 hj ⟨v8, v9, rfl, rfl⟩
        refine ⟨_, rfl, _, _, rfl, rfl, ⟨by decide, by decide⟩, _, rfl, _, rfl, _, _, rfl, rfl, (by show (0 : Int) < 25; decide), _, _, rfl, rfl, _, _, rfl, rfl, .inl ⟨by omega, by omega⟩, _, _, rfl, rfl, ?_⟩
        -- if j == at: sign = sign + k % 26
        refine ⟨fun σ' H5 => σ' = [some (.int c), some (.int 72), some (.str letters), some (.int z), some (.int a), some (.ref p), some (.int (0 + (i : Int))), some (.str (nm c z a (0 + (i : Int)) j)), some (.int (0 + (j : Int))),
          some (.int (if (0 + (j : Int)) = a then c / 6720 + (0 + (j : Int)) * (1 + c % 25) + (0 + (i : Int)) % 26 else c / 6720 + (0 + (j : Int)) * (1 + c % 25)))] ∧ H5 = H4, ?_, ?_⟩
        · refine ⟨_, rfl, _, rfl, rfl, _, rfl, iteD (fun e => ?_) fun e => ?_⟩
          · have e : (0 + (j : Int)) = a := V.int.inj e
            rw [if_pos e]
            exact ⟨_, rfl, _, rfl, _, _, rfl, rfl, (by show (0 : Int) < 26; decide), _, _, rfl, rfl, rfl, rfl⟩
          · have e : ¬ (0 + (j : Int)) = a := fun q => e (congrArg V.int q)
            rw [if_neg e]
            exact ⟨rfl, rfl⟩
        rintro σ' H5 ⟨rfl, rfl⟩
        -- if j == (at + 1) % size: sign = sign + k // 26
        refine ⟨fun σ' H6 => σ' = [some (.int c), some (.int 72), some (.str letters), some (.int z), some (.int a), some (.ref p), some (.int (0 + (i : Int))), some (.str (nm c z a (0 + (i : Int)) j)), some (.int (0 + (j : Int))), some (.int (sgn c z a (0 + (i : Int)) (0 + (j : Int))))] ∧ H6 = H5, ?_, ?_⟩
        · refine ⟨_, rfl, _, rfl, _, _, rfl, rfl, _, rfl, _, _, rfl, rfl, (by show 0 < z; omega), rfl, _, rfl, iteD (fun e => ?_) fun e => ?_⟩
          · have e : (0 + (j : Int)) = (a + 1) % z := V.int.inj e
            unfold sgn
            rw [if_pos e]
            exact ⟨_, rfl, _, rfl, _, _, rfl, rfl, ⟨by decide, by decide⟩, _, _, rfl, rfl, rfl, rfl⟩
          · have e : ¬ (0 + (j : Int)) = (a + 1) % z := fun q => e (congrArg V.int q)
            unfold sgn
            rw [if_neg e]
            exact ⟨rfl, rfl⟩
        rintro σ' H6 ⟨rfl, rfl⟩
        have h0 := Int.emod_nonneg (sgn c z a (0 + (i : Int)) (0 + (j : Int))) (show (26 : Int) ≠ 0 by decide)
        have h2 := Int.emod_lt_of_pos (sgn c z a (0 + (i : Int)) (0 + (j : Int))) (show (0 : Int) < 26 by decide)
        refine ⟨_, rfl, _, rfl, _, rfl, _, _, rfl, rfl, (by show (0 : Int) < 26; decide), letters, _, _, rfl, rfl, (by decide +kernel), letter_at h0 h2, _, _, rfl, rfl, ?_, ?_⟩
        · rw [nm_len]
          show j + 1 ≤ sizeLine
          rw [sizeLine_eq]
          omega
        · exact ⟨_, _, by rw [← nm_succ]; rfl, rfl⟩
      · rintro σ H4 ⟨v8, v9, rfl, rfl⟩
        obtain ⟨acc, hD, hlt, v'⟩ := v.next RStr.mono (Same.refl _) (show RStr _ _ (nm c z a (0 + (i : Int)) z.toNat) from rfl) (by rw [Int.zero_add]) (by omega)
        exact ⟨_, rfl, .inl ⟨rfl, _, SqL.of hD⟩, _, rfl, p, acc, _, rfl, rfl, hD, hlt, _, _, _, _, rfl, v'⟩
    · rintro σ H' ⟨v6, v7, v8, v9, rfl, v⟩
      obtain ⟨s1, acc, ys, hD, hacc, hl, hg⟩ := v.done RStr.mono
      rw [strs_of hacc] at hD
      refine ⟨_, rfl, k H' p ys s1 hD hl ⟨fun x hx => ?_, ?_⟩⟩
      · obtain ⟨j, hj⟩ := List.getElem?_of_mem hx
        rw [hg j x hj]
        exact nm_isNm _ _ _ _ (by omega) (by omega)
      · have e : ys = (List.range 72).map fun j : Nat => nm c z a ((j : Nat) : Int) z.toNat := list_eq (by rw [hl, List.length_map, List.length_range]) fun j x hj => by
          rw [List.getElem?_map, List.getElem?_range (by rw [← hl]; exact lt_get hj), hg j x hj]
          rfl
        rw [e]
        show List.Pairwise (· ≠ ·) _
        rw [List.pairwise_map]
        refine List.Pairwise.imp_of_mem (fun {k1 k2} m1 m2 hlt he => ?_) List.pairwise_lt_range
        have := nm_inj z2 a0 a1 (List.mem_range.mp m1) (List.mem_range.mp m2) he
        omega
end
end Zw

/-! Zk: the law's rooms and doors. -/
namespace Zw
open PySem PySem.Spec PyProof.Rows L2
section
variable {P : Program} {w : World} {K : PySem.W.Frag} {mg : Str → Option Value} {base : Heap} {D M : Addr}
/-! ### _law_rooms -/
def spLRooms (K : PySem.W.Frag) : Sp := fun vs H Q _ => ∃ (sa na wa : Addr) (unit : Int) (ns : List Int) (nms ws : List Str), vs = [.ref sa, .ref na, .ref wa, .int unit] ∧ SqL K H sa (ns.map V.int) ∧ SqL K H na (nms.map V.str) ∧ nms.length = 72 ∧ NamesOk nms ∧
  SqL K H wa (ws.map V.str) ∧ (∀ s, s ∈ ws → OkS s) ∧ 0 ≤ unit ∧ ∀ (H' : Hp) (v : V) (rs : List RoomD), Same H H' → RoomsAt (neu H H') v rs → RoomsOk ws rs → Q v H'
theorem d_rooms (T : Txt K mg D M) : Def P w K mg base "_law_rooms" 2 ["_law_script", "_law_names_here", "_law_watches", "_law_unit"] (spLRooms K) := by
  have F1 : Def P w K mg base "_law_cell_at" 1 _ _ := d_cell T
  have F2 : Def P w K mg base "_law_stream" 1 _ _ := d_stream T
  have F3 : Def P w K mg base "_law_looks" 1 _ _ := d_looks T
  have sc : FnScope ["_law_script", "_law_names_here", "_law_watches", "_law_unit", "_law_many", "_law_xs", "_law_k"] ["_law_script", "_law_names_here", "_law_watches", "_law_unit"] (defScope sLRooms) := ⟨rfl, rfl, rfl, by decide +kernel, rfl, by decide +kernel, by decide +kernel⟩
  refine def_of T.rooms sc (fun _ _ _ _ _ _ us hl => match us, hl with | [_, _, _, _], _ => rfl) (fun vs H Q E h => ?_) (fun f cdv A outer s H vs Q E hr h => ?_)
  · obtain ⟨sa, na, wa, unit, ns, nms, ws, rfl, _⟩ := h
    rfl
  · obtain ⟨sa, na, wa, unit, ns, nms, ws, rfl, hs, hn, h72, hnm, hw, okw, u0, k⟩ := h
    refine ⟨_, C8.pss_cut (ps_set (i := 4) sc.nd rfl (Or.inl rfl) (pe_op op_add pe_int (pe_op op_mod (pe_def F1 hr (ha := pa_cons (pv 0) (pa_cons pe_int pa_nil))) pe_int)))
      (C8.pss_cut (ps_if (pt_cmpR op_eq (pe_op op_mod (pe_def F1 hr (ha := pa_cons (pv 0) (pa_cons pe_int pa_nil))) pe_int) pe_int (nomark _)) (pss_one (ps_set (i := 4) sc.nd rfl (Or.inl rfl) pe_int)) pss_nil)
      (pss_cons (ps_set (i := 5) sc.nd rfl (Or.inr rfl) (pe_def F2 hr (ha := pa_cons (pe_def F1 hr (ha := pa_cons (pv 0) (pa_cons pe_int pa_nil))) (pa_cons (pv 4) pa_nil))))
      (pss_one (ps_ret (pe_lc (own := [("_law_k", 6)]) (g := gName 6) (tt := tYes) rfl sc.nd (pi_range1 (by rfl) T.range (pa_cons (pv 4) pa_nil)) (blkOk_by (N := ["_law_script", "_law_names_here", "_law_watches", "_law_unit", "_law_many", "_law_xs", "_law_k"]) (sc := defScope sLRooms) (by decide +kernel)) (fun _ _ _ _ _ => pg_name (i := 6) sc.nd rfl (Or.inl rfl)) (fun _ _ _ _ _ => pts_nil)
        (fun _ _ _ _ _ => pe_tup (pa_cons (pe_ix (r := rIxL K) ix_list (pv 1) (pv 6) (fun _ _ => rfl)) (pa_cons (pe_def F3 hr (ha := pa_cons (pe_ix (r := rIxL K) ix_list (pv 5) (pv 6) (fun _ _ => rfl)) (pa_cons (pv 2) (pa_cons (pe_lst (pa_cons pe_str (pa_cons pe_str pa_nil))) (pa_cons pe_int (pa_cons (pv 3) pa_nil)))))) pa_nil)))))))), ?_⟩
    refine ⟨fun σ' H' => ∃ m : Int, 1 ≤ m ∧ m ≤ 64 ∧ σ' = [some (.ref sa), some (.ref na), some (.ref wa), some (.int unit), some (.int m), none, none] ∧ H' = H, ?_, ?_⟩
    · exact ⟨_, rfl, sa, ns, 0, rfl, hs, by decide, fun n => ⟨_, _, rfl, rfl, (by show (0 : Int) < 8; decide), _, _, rfl, rfl, 1 + n % 8, by omega, by omega, rfl, rfl⟩⟩
    rintro σ' H1 ⟨m, m0, m1, rfl, rfl⟩
    refine ⟨fun σ' H' => ∃ m : Int, 1 ≤ m ∧ m ≤ 64 ∧ σ' = [some (.ref sa), some (.ref na), some (.ref wa), some (.int unit), some (.int m), none, none] ∧ H' = H1, ?_, ?_⟩
    · exact ⟨_, rfl, sa, ns, 2, rfl, hs, by decide, fun n => ⟨_, _, rfl, rfl, (by show (0 : Int) < 8; decide), rfl, _, rfl, iteD (fun _ => ⟨64, by decide, by decide, rfl, rfl⟩) fun _ => ⟨m, m0, m1, rfl, rfl⟩⟩⟩
    rintro σ' H' ⟨m, m0, m1, rfl, rfl⟩
    refine ⟨_, rfl, sa, ns, 3, rfl, hs, by decide, fun n => ⟨_, rfl, _, m, rfl, by omega, by omega, fun H1 xa xs s1 hxa hx1 hxl => ?_⟩⟩
    refine ⟨_, rfl, m, rfl, by omega, by omega, fun p hp => lc_range (lo := 0) (n := m.toNat) (PvX H1 p RoomAt fun j r => nms[j]? = some r.1 ∧ GuardOk ws wBelow r.2) (PvX.start hp) (fun i H' hi v => ?_) fun H' v => ?_⟩
    · obtain ⟨x, hx⟩ := get_lt (xs := nms) (i := i) (by omega)
      obtain ⟨y, hy⟩ := get_lt (xs := xs) (i := i) (by omega)
      have sH := s1.trans v.same
      refine ⟨rfl, inYes (iteT ⟨_, rfl, _, rfl, na, _, _, .str x, rfl, rfl, sH.seq hn, at_of (j := i) (by omega) (get_map_of hx), _, rfl, _, rfl, xa, _, _, .int y, rfl, rfl, SqL.of (v.same _ _ hx1), at_of (j := i) (by omega) (get_map_of hy), _, rfl, (by show 2 ≤ sizeLine; decide), fun q hq => ?_⟩)⟩
      have sq : Same H' (upd H' q (.lst (wBelow.map V.str))) := Same.new hq
      refine ⟨_, rfl, y, 2, unit, wa, q, ws, wBelow, rfl, (sH.trans sq).seq hw, SqL.of upd_same, by decide, okw, by decide, by decide, u0, fun H2 gv g s2 hg hok => ⟨(by show 2 ≤ sizeLine; decide), fun t ht => ?_⟩⟩
      have s02 := sq.trans s2
      exact v.next (fun _ _ _ _ s h => h.mono s) (s02.trans (Same.new ht)) (y := (x, g)) ⟨t, gv, rfl, by rw [neu_at (s02.free ht), upd_same], hg.mono (neu_mono sq (Same.new ht))⟩ ⟨hx, hok⟩ (by omega)
    · obtain ⟨s2, acc, rs, hD, hacc, hl, hg⟩ := v.done fun _ _ _ _ s h => h.mono s
      have em : rs.map (·.1) = nms.take m.toNat := list_eq (by rw [List.length_map, hl, List.length_take]; omega) fun j x hj => by
        obtain ⟨r, er, rfl⟩ := get_map hj
        rw [List.getElem?_take_of_lt (by rw [← hl]; exact lt_get er)]
        exact (hg j r er).1
      have nn := neu_mono s1 (Same.refl H')
      refine k H' (.ref p) rs (s1.trans s2) ⟨p, acc, rfl, nn _ _ hD, hacc.mono fun _ _ r => r.mono nn⟩ ⟨fun e => ?_, by omega, fun r hr => ?_, ?_⟩
      · rw [e] at hl
        simp at hl
        omega
      · obtain ⟨j, hj⟩ := List.getElem?_of_mem hr
        exact ⟨hnm.1 _ (List.mem_of_getElem? (hg j r hj).1), (hg j r hj).2⟩
      · rw [em]
        exact (List.take_sublist _ _).nodup hnm.2
/-! ### _law_doors -/
/-- a part of a list of texts, made by a test -/
structure PvS (H0 : Hp) (p : Addr) (ws : List Str) (i : Nat) (H : Hp) : Prop where
  free : H0 p = none
  same : Same H0 H
  acc : ∃ ys : List Str, H p = some (.lst (ys.map V.str)) ∧ ys.Sublist (ws.take i)
theorem PvS.start {H0 : Hp} {p : Addr} {ws : List Str} (h : H0 p = none) : PvS H0 p ws 0 (upd H0 p (.lst [])) := ⟨h, Same.new h, [], upd_same, List.nil_sublist _⟩
theorem PvS.skip {H0 H : Hp} {p : Addr} {ws : List Str} {i : Nat} (v : PvS H0 p ws i H) : PvS H0 p ws (i + 1) H := by
  obtain ⟨free, same, ys, h, k⟩ := v
  exact ⟨free, same, ys, h, k.trans (by rw [List.take_add_one]; exact List.sublist_append_left _ _)⟩
theorem PvS.put {H0 H : Hp} {p : Addr} {ws : List Str} {i : Nat} {x : Str} (v : PvS H0 p ws i H) (hx : ws[i]? = some x) (hi : i < 1000) : ∃ acc, H p = some (.lst acc) ∧ acc.length < sizeLine ∧ PvS H0 p ws (i + 1) (upd H p (.lst (acc ++ [.str x]))) := by
  obtain ⟨free, same, ys, h, k⟩ := v
  refine ⟨_, h, ?_, free, same_upd free same, ys ++ [x], by rw [List.map_append]; exact upd_same, ?_⟩
  · have := k.length_le
    rw [List.length_map]
    rw [List.length_take] at this
    rw [sizeLine_eq]
    omega
  · rw [List.take_add_one, hx]
    exact k.append (List.Sublist.refl _)
theorem isSg_of {n : Str} {c : Nat} (hn : IsNm n) (hc : c = 33 ∨ c = 63) : IsSg (n ++ sq c) := .inr ⟨n, c, hn, hc, rfl⟩
theorem go_nm : IsNm "go" := by
  refine ⟨fun c hc => ?_, by decide +kernel, by decide +kernel⟩
  have e : (Str.ofString "go").cps.toList = [103, 111] := by decide +kernel
  rw [e] at hc
  simp only [List.mem_cons, List.not_mem_nil, or_false] at hc
  omega
theorem cut8 {n : Str} (h : n.length ≤ 8) : cutS n none (some 8) = n := by
  apply str_ext
  unfold cutS
  rw [sIx_int (by decide), HT.sIx_none, Nat.sub_zero, List.drop_zero]
  show (n.cps.toList.take (min (8 : Int).toNat n.length)).toArray.toList = n.cps.toList
  rw [List.take_of_length_le (by rw [← len_list]; show n.length ≤ min 8 n.length; omega)]
/-- the signs to choose from -/
def signs (n : Str) : List Str := ["", "", "go!", "go?", n ++ sq 33, ""]
theorem signs_ok {n : Str} (hn : IsNm n) : ∀ s, s ∈ signs n → IsSg s := by
  intro s hs
  simp only [signs, List.mem_cons, List.not_mem_nil, or_false] at hs
  rcases hs with rfl | rfl | rfl | rfl | rfl | rfl
  · exact .inl rfl
  · exact .inl rfl
  · have e : Str.ofString "go!" = Str.ofString "go" ++ sq 33 := by decide +kernel
    rw [e]
    exact isSg_of go_nm (.inl rfl)
  · have e : Str.ofString "go?" = Str.ofString "go" ++ sq 63 := by decide +kernel
    rw [e]
    exact isSg_of go_nm (.inr rfl)
  · exact isSg_of hn (.inl rfl)
  · exact .inl rfl
def spLDoors (K : PySem.W.Frag) : Sp := fun vs H Q _ => ∃ (sa wa : Addr) (rv : V) (unit : Int) (ns : List Int) (rs : List RoomD) (ws : List Str), vs = [.ref sa, rv, .ref wa, .int unit] ∧ SqL K H sa (ns.map V.int) ∧ RoomsAt H rv rs ∧ RoomsOk ws rs ∧
  SqL K H wa (ws.map V.str) ∧ WatchesOk ws ∧ 0 ≤ unit ∧ ∀ (H' : Hp) (v : V) (ds : List DoorD), Same H H' → RowsAt (neu H H') v ds → ds.length ≤ 200 → (∀ d, d ∈ ds → DoorOk ws (rs.map (·.1)) d) → Q v H'
theorem d_doors (T : Txt K mg D M) : Def P w K mg base "_law_doors" 3 ["_law_script", "_law_rooms_here", "_law_watches", "_law_unit"] (spLDoors K) := by
  have F1 : Def P w K mg base "_law_cell_at" 1 _ _ := d_cell T
  have F2 : Def P w K mg base "_law_draws" 2 _ _ := d_draws T
  have F3 : Def P w K mg base "_law_looks" 1 _ _ := d_looks T
  have sc : FnScope ["_law_script", "_law_rooms_here", "_law_watches", "_law_unit", "_law_many", "_law_doors_here", "_law_k", "_law_xs", "_law_guard", "_law_noughts", "_law_sign", "_law_j"] ["_law_script", "_law_rooms_here", "_law_watches", "_law_unit"] (defScope sLDoors) := ⟨rfl, rfl, rfl, by decide +kernel, rfl, by decide +kernel, by decide +kernel⟩
  refine def_of T.doors sc (fun _ _ _ _ _ _ us hl => match us, hl with | [_, _, _, _], _ => rfl) (fun vs H Q E h => ?_) (fun f cdv A outer s H vs Q E hr h => ?_)
  · obtain ⟨sa, wa, rv, unit, ns, rs, ws, rfl, _⟩ := h
    rfl
  · obtain ⟨sa, wa, rv, unit, ns, rs, ws, rfl, hs, ⟨ra, rxs, rfl, hra, hrx⟩, hrs, hw, hws, u0, k⟩ := h
    have okw : ∀ s, s ∈ ws → OkS s := fun s h => (hws.2.1 s h).ok
    refine ⟨_, C8.pss_cut (ps_set (i := 4) sc.nd rfl (Or.inl rfl) (pe_op op_mod (pe_def F1 hr (ha := pa_cons (pv 0) (pa_cons pe_int pa_nil))) pe_int))
      (C8.pss_cut (ps_if (pt_cmpR op_eq (pe_op op_mod (pe_op op_fdiv (pe_def F1 hr (ha := pa_cons (pv 0) (pa_cons pe_int pa_nil))) pe_int) pe_int) pe_int (nomark _)) (pss_one (ps_set (i := 4) sc.nd rfl (Or.inl rfl) pe_int)) pss_nil)
      (pss_cons (ps_set (i := 5) sc.nd rfl (Or.inl rfl) (pe_lst pa_nil))
      (pss_cons (ps_for PassesOwn.never rfl (pi_range1 (by rfl) T.range (pa_cons (pv 4) pa_nil)) (pg_name (i := 6) sc.nd rfl (Or.inl rfl))
        (C8.pss_cut (ps_set (i := 7) sc.nd rfl (Or.inr rfl) (pe_def F2 hr (ha := pa_cons (pe_def F1 hr (ha := pa_cons (pv 0) (pa_cons (pe_op op_add pe_int (pe_op op_mod (pv 6) pe_int)) pa_nil))) (pa_cons (pv 6) (pa_cons pe_int pa_nil)))))
        (C8.pss_cut (ps_set (i := 8) sc.nd rfl (Or.inl rfl) (pe_def F3 hr (ha := pa_cons (pe_ix ix_list (pv 7) pe_int (fun _ _ => rfl)) (pa_cons (pv 2) (pa_cons (pe_lst (pa_cons pe_str (pa_cons pe_str (pa_cons pe_str (pa_cons pe_str (pa_cons pe_str pa_nil)))))) (pa_cons pe_int (pa_cons (pv 3) pa_nil)))))))
        (C8.pss_cut (ps_setLc (i := 9) (own := [("_law_j", 11)]) (g := gName 11) rfl sc.nd rfl rfl (sw_true rfl rfl rfl (by decide +kernel)) (pi_range1 (by rfl) T.range (pa_cons (pe_callB call_len_seq (by rfl) T.len PySem.boot_len (pa_cons (pv 2) pa_nil)) pa_nil)) (blkOk_by (N := ["_law_script", "_law_rooms_here", "_law_watches", "_law_unit", "_law_many", "_law_doors_here", "_law_k", "_law_xs", "_law_guard", "_law_noughts", "_law_sign", "_law_j"]) (sc := defScope sLDoors) (by decide +kernel)) (fun _ _ _ _ _ => pg_name (i := 11) sc.nd rfl (Or.inl rfl))
            (fun _ _ _ _ _ => pts_one (pt_cmpR op_eq (pe_op op_mod (pe_op op_fdiv (pe_ix (r := rIxL K) ix_list (pv 7) pe_int (fun _ _ => rfl)) (pe_op op_add pe_int (pe_op op_mul pe_int (pv 11)))) pe_int) pe_int (nomark _))) (fun _ _ _ _ _ => pe_ix (r := rIxL K) ix_list (pv 2) (pv 11) (fun _ _ => rfl)))
        (C8.pss_cut (ps_set (i := 10) sc.nd rfl (Or.inl rfl) (pe_ix ix_list (pe_lst (pa_cons pe_str (pa_cons pe_str (pa_cons pe_str (pa_cons pe_str (pa_cons (pe_op op_add_str (pe_slice sl_str (pe_ix ix_tup (pe_ix ix_list (pv 1) pe_int (fun _ _ => rfl)) pe_int (fun _ _ => rfl)) po_none (po_some pe_int)) pe_str) (pa_cons pe_str pa_nil))))))) (pe_op op_mod (pe_ix ix_list (pv 7) pe_int (fun _ _ => rfl)) pe_int) (fun _ _ => rfl)))
        (C8.pss_cut (ps_if (pt_cmpR op_eq (pe_op op_mod (pe_op op_fdiv (pe_ix ix_list (pv 7) pe_int (fun _ _ => rfl)) pe_int) pe_int) pe_int (nomark _)) (pss_one (ps_set (i := 9) sc.nd rfl (Or.inl rfl) (pe_revL (pv 9)))) pss_nil)
        (pss_one (ps_expr (pe_bm PySem.F.plainAttrs_list PySem.F.slot_list_append PySem.F.type_list_append mt_append (pv 5) (pa_cons (pe_tup
          (pa_cons (pe_ix ix_tup (pe_ix ix_list (pv 1) (pe_op op_mod (pe_ix ix_list (pv 7) pe_int (fun _ _ => rfl)) (pe_callB call_len_seq (by rfl) T.len PySem.boot_len (pa_cons (pv 1) pa_nil))) (fun _ _ => rfl)) pe_int (fun _ _ => rfl))
          (pa_cons (pe_ix ix_tup (pe_ix ix_list (pv 1) (pe_op op_mod (pe_ix ix_list (pv 7) pe_int (fun _ _ => rfl)) (pe_callB call_len_seq (by rfl) T.len PySem.boot_len (pa_cons (pv 1) pa_nil))) (fun _ _ => rfl)) pe_int (fun _ _ => rfl))
          (pa_cons (pv 8) (pa_cons (pv 9) (pa_cons (pv 10) pa_nil)))))) pa_nil)))))))))
      ) (pss_one (ps_ret (pv 5)))))), ?_⟩
    refine ⟨fun σ' H' => ∃ m : Int, 0 ≤ m ∧ m ≤ 200 ∧ σ' = [some (.ref sa), some (.ref ra), some (.ref wa), some (.int unit), some (.int m), none, none, none, none, none, none, none] ∧ H' = H, ?_, ?_⟩
    · exact ⟨_, rfl, sa, ns, 4, rfl, hs, by decide, fun n => ⟨_, _, rfl, rfl, (by show (0 : Int) < 10; decide), n % 10, by omega, by omega, rfl, rfl⟩⟩
    rintro σ' H1 ⟨m, m0, m1, rfl, rfl⟩
    refine ⟨fun σ' H' => ∃ m : Int, 0 ≤ m ∧ m ≤ 200 ∧ σ' = [some (.ref sa), some (.ref ra), some (.ref wa), some (.int unit), some (.int m), none, none, none, none, none, none, none] ∧ H' = H1, ?_, ?_⟩
    · exact ⟨_, rfl, sa, ns, 2, rfl, hs, by decide, fun n => ⟨_, _, rfl, rfl, ⟨by decide, by decide⟩, _, _, rfl, rfl, (by show (0 : Int) < 8; decide), rfl, _, rfl, iteD (fun _ => ⟨200, by decide, by decide, rfl, rfl⟩) fun _ => ⟨m, m0, m1, rfl, rfl⟩⟩⟩
    rintro σ' H0 ⟨m, m0, m1, rfl, rfl⟩
    refine ⟨Nat.zero_le _, fun p hp => ?_⟩
    refine ⟨_, rfl, m, rfl, by omega, by omega, for_range (lo := 0) (n := m.toNat) (fun i σ H' => ∃ (v6 v7 v8 v9 v10 : Option V), σ = [some (.ref sa), some (.ref ra), some (.ref wa), some (.int unit), some (.int m), some (.ref p), v6, v7, v8, v9, v10, none] ∧ PvX H0 p RowAt (fun _ d => DoorOk ws (rs.map (·.1)) d) i H') ⟨none, none, none, none, none, rfl, PvX.start hp⟩ ?_ ?_⟩
    · rintro i σ H' hi ⟨v6, v7, v8, v9, v10, rfl, v⟩
      have s0 := v.same
      -- xs
      refine ⟨fun σ' H1 => ∃ (xa : Addr) (x0 x1 x2 x3 x4 : Int), σ' = [some (.ref sa), some (.ref ra), some (.ref wa), some (.int unit), some (.int m), some (.ref p), some (.int (0 + (i : Int))), some (.ref xa), v8, v9, v10, none] ∧ Same H' H1 ∧ H1 xa = some (.lst ([x0, x1, x2, x3, x4].map V.int)), ?_, ?_⟩
      · refine ⟨_, rfl, _, rfl, _, _, rfl, rfl, (by show (0 : Int) < 9; decide), _, _, rfl, rfl, sa, ns, _, rfl, s0.seq hs, ?_, fun n => ⟨_, rfl, _, _, 5, rfl, by omega, by omega, by decide, by decide, fun H1 xa xs s1 hx hx1 hl => ?_⟩⟩
        · have := Int.emod_nonneg (0 + (i : Int)) (show (9 : Int) ≠ 0 by decide)
          omega
        · match xs, hl with
          | [x0, x1, x2, x3, x4], _ => exact ⟨xa, x0, x1, x2, x3, x4, rfl, s1, hx1⟩
      rintro σ' H1 ⟨xa, x0, x1, x2, x3, x4, rfl, s1, hx1⟩
      -- guard
      refine ⟨fun σ' H2 => ∃ (gv : V) (g : List Look), σ' = [some (.ref sa), some (.ref ra), some (.ref wa), some (.int unit), some (.int m), some (.ref p), some (.int (0 + (i : Int))), some (.ref xa), some gv, v9, v10, none] ∧ Same H1 H2 ∧ GuardAt (neu H' H2) gv g ∧ GuardOk ws wAll g, ?_, ?_⟩
      · refine ⟨_, rfl, xa, _, _, .int x2, rfl, rfl, SqL.of hx1, atI_nat (j := 2) rfl, _, rfl, (by show 5 ≤ sizeLine; decide), fun q hq => ?_⟩
        have sq : Same H1 (upd H1 q (.lst (wAll.map V.str))) := Same.new hq
        exact ⟨_, rfl, x2, 3, unit, wa, q, ws, wAll, rfl, ((s0.trans s1).trans sq).seq hw, SqL.of upd_same, by decide, okw, by decide, by decide, u0, fun H2 gv g s2 hg hok => ⟨gv, g, rfl, sq.trans s2, hg.mono (neu_mono (s1.trans sq) (Same.refl _)), hok⟩⟩
      rintro σ' H2 ⟨gv, g, rfl, s2, hg, hgok⟩
      have s02 := s1.trans s2
      have hx2 := s2 _ _ hx1
      have hw2 : SqL K H2 wa (ws.map V.str) := (s0.trans s02).seq hw
      -- noughts
      refine ⟨fun σ' H3 => ∃ (na : Addr) (ys : List Str), σ' = [some (.ref sa), some (.ref ra), some (.ref wa), some (.int unit), some (.int m), some (.ref p), some (.int (0 + (i : Int))), some (.ref xa), some gv, some (.ref na), v10, none] ∧ Same H2 H3 ∧ neu H' H3 na = some (.lst (ys.map V.str)) ∧ (∀ s, s ∈ ys → s ∈ ws) ∧ ys.Nodup ∧ ys.length ≤ 7, ?_, ?_⟩
      · refine ⟨_, rfl, wa, _, rfl, .inl hw2, _, rfl, by omega, by rw [List.length_map]; have := hws.1; omega, fun na hna => lc_range (lo := 0) (n := (((ws.map V.str).length : Nat) : Int).toNat) (PvS H2 na ws) (PvS.start hna) (fun j H3 hj u => ?_) fun H3 u => ?_⟩
        · have hjl : j < ws.length := by
            rw [List.length_map] at hj
            omega
          have h7 := hws.1
          obtain ⟨x, hx⟩ := get_lt hjl
          refine ⟨rfl, _, rfl, xa, _, _, .int x3, rfl, rfl, SqL.of (u.same _ _ hx2), atI_nat (j := 3) rfl, _, rfl, _, _, rfl, rfl, .inl ⟨by decide, by decide⟩, _, _, rfl, rfl, _, _, rfl, rfl, ⟨by omega, by omega⟩, _, _, rfl, rfl, (by show (0 : Int) < 2; decide), rfl, _, rfl, iteD (fun _ => ?_) fun _ => u.skip⟩
          exact ⟨_, rfl, _, rfl, wa, _, _, .str x, rfl, rfl, u.same.seq hw2, at_of (j := j) (by omega) (get_map_of hx), u.put hx (by omega)⟩
        · obtain ⟨free, same, ys, hD, hsub⟩ := u
          have hsub2 : ys.Sublist ws := hsub.trans (List.take_sublist _ _)
          exact ⟨na, ys, rfl, same, by rw [neu_at (s02.free free)]; exact hD, fun s hs => hsub2.subset hs, hsub2.nodup hws.2.2, Nat.le_trans hsub2.length_le hws.1⟩
      rintro σ' H3 ⟨na, ys, rfl, s3, hna, yw, ynd, y7⟩
      have s03 := s02.trans s3
      have hx3 := s3 _ _ hx2
      -- sign
      refine ⟨fun σ' H4 => ∃ sg : Str, σ' = [some (.ref sa), some (.ref ra), some (.ref wa), some (.int unit), some (.int m), some (.ref p), some (.int (0 + (i : Int))), some (.ref xa), some gv, some (.ref na), some (.str sg), none] ∧ Same H3 H4 ∧ IsSg sg, ?_, ?_⟩
      · obtain ⟨r0, hr0⟩ := get_lt (xs := rs) (i := 0) (by
          cases rs with
          | nil => exact absurd rfl hrs.1
          | cons _ _ => simp)
        obtain ⟨e0, he0, t0, g0, rfl, ht0, _⟩ := hrx.right hr0
        have sR := s0.trans s03
        have hnm0 : IsNm r0.1 := (hrs.2.2.1 r0 (List.mem_of_getElem? hr0)).1
        have h8 := hnm0.2.2
        have hT0 : SqT K H3 t0 [.str r0.1, g0] := SqT.of (sR _ _ ht0)
        have ebang : Str.ofString "!" = sq 33 := by decide +kernel
        refine ⟨_, rfl, ra, _, _, .ref t0, rfl, rfl, SqL.of (sR _ _ hra), atI_nat (j := 0) he0, t0, _, _, .str r0.1, rfl, rfl, hT0, atI_nat (j := 0) rfl, _, rfl, r0.1, rfl, by rw [sizeLine_eq]; omega, _, _, rfl, rfl, ?_, (by show 6 ≤ sizeLine; decide), fun q hq => ?_⟩
        · rw [cut8 h8, sizeLine_eq]
          have : (Str.ofString "!").length = 1 := by decide +kernel
          omega
        rw [cut8 h8, ebang] at *
        have s4 : Same H3 (upd H3 q (.lst ((signs r0.1).map V.str))) := Same.new hq
        have z0 := Int.emod_nonneg x4 (show (6 : Int) ≠ 0 by decide)
        have z1 := Int.emod_lt_of_pos x4 (show (0 : Int) < 6 by decide)
        obtain ⟨sg, hsg⟩ := get_lt (xs := signs r0.1) (i := (x4 % 6).toNat) (by show (x4 % 6).toNat < 6; omega)
        exact ⟨_, rfl, xa, _, _, .int x4, rfl, rfl, SqL.of (s4 _ _ hx3), atI_nat (j := 4) rfl, _, _, rfl, rfl, (by show (0 : Int) < 6; decide), q, (signs r0.1).map V.str, _, .str sg, rfl, rfl, SqL.of upd_same, at_int z0 (get_map_of hsg), sg, rfl, s4, signs_ok hnm0 sg (List.mem_of_getElem? hsg)⟩
      rintro σ' H4 ⟨sg, rfl, s4, hsg⟩
      have s04 := s03.trans s4
      have hx4 := s4 _ _ hx3
      -- if xs[4] // 6 % 2 == 1
      refine ⟨fun σ' H5 => ∃ (nb : Addr) (zs : List Str), σ' = [some (.ref sa), some (.ref ra), some (.ref wa), some (.int unit), some (.int m), some (.ref p), some (.int (0 + (i : Int))), some (.ref xa), some gv, some (.ref nb), some (.str sg), none] ∧ Same H4 H5 ∧ neu H' H5 nb = some (.lst (zs.map V.str)) ∧ (∀ s, s ∈ zs → s ∈ ws) ∧ zs.Nodup ∧ zs.length ≤ 7, ?_, ?_⟩
      · have hna4 : neu H' H4 na = some (.lst (ys.map V.str)) := neu_mono (Same.refl _) s4 _ _ hna
        refine ⟨_, rfl, xa, _, _, .int x4, rfl, rfl, SqL.of hx4, atI_nat (j := 4) rfl, _, _, rfl, rfl, ⟨by decide, by decide⟩, _, _, rfl, rfl, (by show (0 : Int) < 2; decide), rfl, _, rfl, iteD (fun _ => ?_) fun _ => ⟨na, ys, rfl, Same.refl _, hna4, yw, ynd, y7⟩⟩
        refine ⟨_, rfl, na, _, rfl, SqL.of (neu_some hna4).2, fun nb hnb => ⟨nb, ys.reverse, rfl, Same.new hnb, ?_, fun s hs => yw s (List.mem_reverse.mp hs), List.pairwise_reverse.mpr (ynd.imp fun h => Ne.symm h), by rw [List.length_reverse]; exact y7⟩⟩
        rw [neu_at (s04.free hnb), upd_same, List.map_reverse]
      rintro σ' H5 ⟨nb, zs, rfl, s5, hnb, zw, znd, z7⟩
      have s05 := s04.trans s5
      have hx5 := s5 _ _ hx4
      have sR := s0.trans s05
      have ra5 := sR _ _ hra
      have rpos : 0 < rxs.length := by
        rw [hrx.len]
        cases rs with
        | nil => exact absurd rfl hrs.1
        | cons _ _ => simp
      have p0 := Int.emod_nonneg x0 (show ((rxs.length : Nat) : Int) ≠ 0 by omega)
      have p1 := Int.emod_lt_of_pos x0 (show (0 : Int) < ((rxs.length : Nat) : Int) by omega)
      have q0 := Int.emod_nonneg x1 (show ((rxs.length : Nat) : Int) ≠ 0 by omega)
      have q1 := Int.emod_lt_of_pos x1 (show (0 : Int) < ((rxs.length : Nat) : Int) by omega)
      obtain ⟨e1, he1⟩ := get_lt (xs := rxs) (i := (x0 % ((rxs.length : Nat) : Int)).toNat) (by omega)
      obtain ⟨e2, he2⟩ := get_lt (xs := rxs) (i := (x1 % ((rxs.length : Nat) : Int)).toNat) (by omega)
      obtain ⟨r1, hr1, t1, g1, rfl, ht1, _⟩ := hrx.left he1
      obtain ⟨r2, hr2, t2, g2, rfl, ht2, _⟩ := hrx.left he2
      obtain ⟨acc0, ys0, hD0, _⟩ := (v.grow (fun _ _ _ _ s h => h.mono s) s05).acc
      refine ⟨_, rfl, .inl ⟨rfl, _, SqL.of hD0⟩, _, rfl, _, rfl, xa, _, _, .int x0, rfl, rfl, SqL.of hx5, atI_nat (j := 0) rfl, _, rfl, ra, _, rfl, .inl (SqL.of ra5), _, _, rfl, rfl, (by show (0 : Int) < ((rxs.length : Nat) : Int); omega), ra, _, _, .ref t1, rfl, rfl, SqL.of ra5, at_int p0 he1, t1, _, _, .str r1.1, rfl, rfl, SqT.of (sR _ _ ht1), atI_nat (j := 0) rfl, ?_⟩
      refine ⟨_, rfl, _, rfl, xa, _, _, .int x1, rfl, rfl, SqL.of hx5, atI_nat (j := 1) rfl, _, rfl, ra, _, rfl, .inl (SqL.of ra5), _, _, rfl, rfl, (by show (0 : Int) < ((rxs.length : Nat) : Int); omega), ra, _, _, .ref t2, rfl, rfl, SqL.of ra5, at_int q0 he2, t2, _, _, .str r2.1, rfl, rfl, SqT.of (sR _ _ ht2), atI_nat (j := 0) rfl, ?_⟩
      refine ⟨_, rfl, _, rfl, _, rfl, (by show 5 ≤ sizeLine; decide), fun t ht => ?_⟩
      have st : Same H5 (upd H5 t (.tup [.str r1.1, .str r2.1, gv, .ref nb, .str sg])) := Same.new ht
      obtain ⟨acc, hD, hlt, v'⟩ := v.next (fun _ _ _ _ s h => h.mono s) (s05.trans st) (y := ⟨r1.1, r2.1, g, zs, sg⟩)
        ⟨t, gv, .ref nb, rfl, by rw [neu_at (s05.free ht), upd_same], hg.mono (neu_mono (Same.refl _) (((s3.trans s4).trans s5).trans st)), nb, rfl, neu_mono (Same.refl _) st _ _ hnb⟩
        ⟨List.mem_map_of_mem (f := (·.1)) (List.mem_of_getElem? hr1), List.mem_map_of_mem (f := (·.1)) (List.mem_of_getElem? hr2), hgok, zw, znd, z7, hsg⟩ (by omega)
      exact ⟨p, acc, _, rfl, rfl, hD, hlt, _, _, _, _, _, rfl, v'⟩
    · rintro σ H' ⟨v6, v7, v8, v9, v10, rfl, v⟩
      obtain ⟨s1, acc, ds, hD, hacc, hl, hg⟩ := v.done fun _ _ _ _ s h => h.mono s
      refine ⟨_, rfl, k H' (.ref p) ds s1 ⟨p, acc, rfl, hD, hacc⟩ (by omega) fun d hd => ?_⟩
      obtain ⟨j, hj⟩ := List.getElem?_of_mem hd
      exact hg j d hj
end
end Zw

/-! Zl: _law_door, _law_same, _law_tells, _law_spoil. -/
namespace Zw
open PySem PySem.Spec PyProof.Rows L2
theorem _root_.L2.Same.tup {K : PySem.W.Frag} {H H' : Hp} {a : Addr} {xs : List V} (e : Same H H') (h : SqT K H a xs) : SqT K H' a xs := by
  rcases h with (h | ⟨o, h⟩) | h
  · exact .inl (.inl (e _ _ h))
  · exact .inl (.inr ⟨o, e _ _ h⟩)
  · exact .inr h
def dInts (ns : List Int) : PyData := .list (ns.map .int)
theorem dp_ints {K : PySem.W.Frag} {H : Hp} {a : Addr} {ns : List Int} (h : SqL K H a (ns.map V.int)) : Dp K H (.ref a) (dInts ns) := .lst h (dpAll (All2.ofMap fun y _ => .int y))
theorem can_ints (ns : List Int) : (dInts ns).canLay0 = true := canAll fun _ _ => rfl
theorem dep_ints (ns : List Int) : (dInts ns).depth ≤ 1 := Nat.succ_le_succ (depAll fun _ _ => Nat.le_refl 0)
theorem okL_of {ws wds : List Str} {g : List Look} (hw : ∀ s, s ∈ ws → OkS s) (hd : ∀ s, s ∈ wds → OkS s) (h : GuardOk ws wds g) : ∀ l, l ∈ g → OkL l := fun l hl => ⟨hw _ (h.2 l hl).1, hd _ (h.2 l hl).2.1⟩
/-- the parts of «!= of the same data» -/
theorem neq_false {d : PyData} (h : d.canLay0 = true) : V.bl (!PyData.eqv d d) = V.bl false := by rw [SeqAt.eqv_refl d h]; rfl
theorem eq_true {d : PyData} (h : d.canLay0 = true) : V.bl (PyData.eqv d d) = V.bl true := by rw [SeqAt.eqv_refl d h]
section
variable {P : Program} {w : World} {K : PySem.W.Frag} {mg : Str → Option Value} {base : Heap} {D M : Addr}
/-! ### _law_door -/
def spLDoor (D : Addr) : Sp := fun vs H Q _ => ∃ (t g b : Addr) (st en sg : Str) (gv bv : V) (xs ys : List V), vs = [.ref t, .ref g, .ref b] ∧ H t = some (.tup [.str st, .str en, gv, bv, .str sg]) ∧ H g = some (.lst xs) ∧ H b = some (.lst ys) ∧
  ∀ (H' : Hp) (v : V), Same H H' → DoorRaw D (neu H H') v st en sg xs ys → Q v H'
theorem d_door (T : Txt K mg D M) : Def P w K mg base "_law_door" 4 ["_law_one", "_law_guard", "_law_noughts"] (spLDoor D) := by
  obtain ⟨fi, fdi, MD, FI⟩ := T.dInit
  have G : FnOk P w K mg base CX0 2 fi fdi ["self", "start", "end", "guard", "noughts", "sign"] (spDInit D) := d_dInit T FI
  obtain ⟨ds, vd, b5⟩ := dInit_b5 FI
  have b6 := dInit_b6 FI
  refine def_of (N := ["_law_one", "_law_guard", "_law_noughts"]) T.door ⟨rfl, rfl, rfl, by decide +kernel, rfl, by decide +kernel, by decide +kernel⟩ (fun _ _ _ _ _ _ us hl => match us, hl with | [_, _, _], _ => rfl) (fun vs H Q E h => ?_) (fun f cdv A outer s H vs Q E hr h => ?_)
  · obtain ⟨t, g, b, st, en, sg, gv, bv, xs, ys, rfl, _⟩ := h
    rfl
  · obtain ⟨t, g, b, st, en, sg, gv, bv, xs, ys, rfl, ht, hg, hb, k⟩ := h
    have hT : SqT K H t [.str st, .str en, gv, bv, .str sg] := SqT.of ht
    refine ⟨_, pss_cons (ps_if (pt_cmpR op_eq (pe_ix ix_tup (pv 0) pe_int (fun _ _ => rfl)) pe_str (nomark _)) (pss_one (ps_ret (pe_make MD G hr rfl T.gD b5 vd pass0
        (pa_cons (pe_ix ix_tup (pv 0) pe_int (fun _ _ => rfl)) (pa_cons (pe_ix ix_tup (pv 0) pe_int (fun _ _ => rfl)) (pa_cons (pv 1) (pa_cons (pv 2) pa_nil))))))) pss_nil)
      (pss_one (ps_ret (pe_make MD G hr rfl T.gD b6 .nil pass0
        (pa_cons (pe_ix ix_tup (pv 0) pe_int (fun _ _ => rfl)) (pa_cons (pe_ix ix_tup (pv 0) pe_int (fun _ _ => rfl)) (pa_cons (pv 1) (pa_cons (pv 2) (pa_cons (pe_ix ix_tup (pv 0) pe_int (fun _ _ => rfl)) pa_nil)))))))), ?_⟩
    have fin : ∀ (x dx : Addr), H x = none → H dx = none → dx ≠ x → ∀ (H' : Hp) (lk bk : Addr), (∀ a o, (upd (upd H dx (.own x)) x (.ins D dx [])) a = some o → a ≠ x → H' a = some o) → H' x = some (.ins D dx (dfs st en sg lk bk)) →
        (upd (upd H dx (.own x)) x (.ins D dx [])) lk = none → (upd (upd H dx (.own x)) x (.ins D dx [])) bk = none → H' lk = some (.lst xs) → H' bk = some (.lst ys) → Q (.ref x) H' := fun x dx nx nd ne H' lk bk kp hx hlk hbk h1 h2 => by
      have free : ∀ a, (upd (upd H dx (.own x)) x (.ins D dx [])) a = none → H a = none := fun a e => by
        cases q : H a with
        | none => rfl
        | some o =>
          rw [upd_ne (ne_of_none q nx), upd_ne (ne_of_none q nd), q] at e
          cases e
      exact k H' (.ref x) (Same.made nx nd kp) ⟨x, dx, lk, bk, rfl, by rw [neu_at nx]; exact hx, by rw [neu_at (free lk hlk)]; exact h1, by rw [neu_at (free bk hbk)]; exact h2⟩
    have old : ∀ (x dx : Addr), H x = none → H dx = none → ∀ a o, H a = some o → (upd (upd H dx (.own x)) x (.ins D dx [])) a = some o := fun x dx nx nd a o e => by
      rw [upd_ne (ne_of_none e nx), upd_ne (ne_of_none e nd)]
      exact e
    refine ⟨_, rfl, t, _, _, .str sg, rfl, rfl, hT, atI_nat (j := 4) rfl, rfl, _, rfl, iteD (fun e => ?_) fun e => ?_⟩
    · have es : sg = "" := V.str.inj e
      subst es
      exact ⟨_, rfl, t, _, _, .str st, rfl, rfl, hT, atI_nat (j := 0) rfl, _, rfl, t, _, _, .str en, rfl, rfl, hT, atI_nat (j := 1) rfl, _, rfl, _, rfl, fun x dx nx nd ne => ⟨x, g, b, dx, st, en, _, xs, ys, rfl, upd_same, old x dx nx nd _ _ hg, old x dx nx nd _ _ hb, fun H' lk bk kp hx hlk hbk h1 h2 => ⟨rfl, fin x dx nx nd ne H' lk bk kp hx hlk hbk h1 h2⟩⟩⟩
    · exact ⟨_, rfl, t, _, _, .str st, rfl, rfl, hT, atI_nat (j := 0) rfl, _, rfl, t, _, _, .str en, rfl, rfl, hT, atI_nat (j := 1) rfl, _, rfl, _, rfl, _, rfl, t, _, _, .str sg, rfl, rfl, hT, atI_nat (j := 4) rfl, fun x dx nx nd ne => ⟨x, g, b, dx, st, en, sg, xs, ys, rfl, upd_same, old x dx nx nd _ _ hg, old x dx nx nd _ _ hb, fun H' lk bk kp hx hlk hbk h1 h2 => ⟨rfl, fin x dx nx nd ne H' lk bk kp hx hlk hbk h1 h2⟩⟩⟩
/-! ### _law_same -/
def spSame (D : Addr) : Sp := fun vs H Q _ => ∃ (v u : V) (d : DoorD), vs = [v, u] ∧ DoorAt D H v d ∧ RowAt H u d ∧ (∀ l, l ∈ d.gd → OkL l) ∧ (∀ s, s ∈ d.nt → OkS s) ∧ ∀ H', Same H H' → Q (.bl true) H'
theorem d_same (T : Txt K mg D M) : Def P w K mg base "_law_same" 3 ["_law_door_here", "_law_one"] (spSame D) := by
  obtain ⟨fa, fda, ma, Fa, ba⟩ : Mth P w K mg base D "asks" 2 ["self"] (spAsks D) := d_asks T
  obtain ⟨fs, fds, ms, Fs, bs⟩ : Mth P w K mg base D "sets" 2 ["self"] (spSets D) := d_sets T
  refine def_of (N := ["_law_door_here", "_law_one"]) T.same ⟨rfl, rfl, rfl, by decide +kernel, rfl, by decide +kernel, by decide +kernel⟩ (fun _ _ _ _ _ _ us hl => match us, hl with | [_, _], _ => rfl) (fun vs H Q E h => ?_) (fun f cdv A outer s H vs Q E hr h => ?_)
  · obtain ⟨v, u, d, rfl, _⟩ := h
    rfl
  · obtain ⟨v, u, d, rfl, hd, ⟨t, g, b, rfl, ht, hg, hb⟩, okl, oks, k⟩ := h
    obtain ⟨xs, hraw, hx⟩ := id hd
    obtain ⟨p, dx, lk, bk, rfl, hp, hlk, hbk⟩ := id hraw
    refine ⟨_, pss_cons (ps_if (PW.pt (pw_or (pt_not (pt_val (pe_callB (C8.call_isC T.iD) (by rfl) T.isi boot_isi (pa_cons (pv 0) (pa_cons (pe_glob (v := .ref D) rfl T.gD rfl) pa_nil)))))
          (pw_or (pt_cmpR op_ne (pe_fld (pv 0) rfl) (pe_ix ix_tup (pv 1) pe_int (fun _ _ => rfl)) (nomark _)) (pw_or (pt_cmpR op_ne (pe_fld (pv 0) rfl) (pe_ix ix_tup (pv 1) pe_int (fun _ _ => rfl)) (nomark _)) (pw_or1 (pt_cmpR op_ne (pe_fld (pv 0) rfl) (pe_ix ix_tup (pv 1) pe_int (fun _ _ => rfl)) (nomark _))))))) (pss_one (ps_ret pe_bl)) pss_nil)
      (pss_one (ps_ret (pe_and (pe_cmpR (op_eqD hr.units) (pe_meth0 (pv 0) T.iD.cl ma Fa hr ba .nil pass0) (pe_ix ix_tup (pv 1) pe_int (fun _ _ => rfl)) (nomark _))
        (pe_and (pe_cmpR (op_eqD hr.units) (pe_meth0 (pv 0) T.iD.cl ms Fs hr bs .nil pass0) (pe_ix ix_tup (pv 1) pe_int (fun _ _ => rfl)) (nomark _)) (pe_one (pe_isi T.isi T.list boot_Tlist (pe_meth0 (pv 0) T.iD.cl ms Fs hr bs .nil pass0))))))), ?_⟩
    have hT : SqT K H t [.str d.st, .str d.en, g, b, .str d.sg] := SqT.of ht
    have no1 : (dfs d.st d.en d.sg lk bk).lookup ("asks" : Str) = none := dfs_no _ _ _ _ _ (by decide +kernel) (by decide +kernel) (by decide +kernel) (by decide +kernel) (by decide +kernel)
    have no2 : (dfs d.st d.en d.sg lk bk).lookup ("sets" : Str) = none := dfs_no _ _ _ _ _ (by decide +kernel) (by decide +kernel) (by decide +kernel) (by decide +kernel) (by decide +kernel)
    refine ⟨_, rfl, p, dx, _, rfl, hp, true, rfl, iteF ?_⟩
    refine ⟨_, rfl, p, D, dx, _, _, rfl, hp, T.iD.cl, T.nDstart, dfs_start .., _, rfl, t, _, _, .str d.st, rfl, rfl, hT, atI_nat (j := 0) rfl, rfl, false, nblT rfl, iteF ?_⟩
    refine ⟨_, rfl, p, D, dx, _, _, rfl, hp, T.iD.cl, T.nDend, dfs_end .., _, rfl, t, _, _, .str d.en, rfl, rfl, hT, atI_nat (j := 1) rfl, rfl, false, nblT rfl, iteF ?_⟩
    refine ⟨_, rfl, p, D, dx, _, _, rfl, hp, T.iD.cl, T.nDsign, dfs_sign .., _, rfl, t, _, _, .str d.sg, rfl, rfl, hT, atI_nat (j := 4) rfl, rfl, false, nblT rfl, iteF ?_⟩
    have cg := can_guard okl
    have cs := can_strs oks
    refine ⟨_, rfl, p, dx, _, rfl, hp, no1, _, _, _, _, _, _, rfl, hraw, fun q hq => ?_⟩
    have s1 : Same H (upd H q (.lst xs)) := Same.new hq
    refine ⟨_, rfl, t, _, _, g, rfl, rfl, s1.tup hT, atI_nat (j := 2) rfl, dGuard d.gd, dGuard d.gd, GuardAt.dp ⟨q, xs, rfl, upd_same, hx.mono fun _ _ r => r.mono s1⟩, (hg.mono s1).dp, shaped_of cg (Nat.le_trans (dep_guard _) (by decide)), shaped_of cg (Nat.le_trans (dep_guard _) (by decide)), true, eq_true cg, iteT ?_⟩
    refine ⟨_, rfl, p, dx, _, rfl, s1 _ _ hp, no2, _, _, _, _, _, _, rfl, hraw.mono s1, fun n hn => ?_⟩
    have s2 := s1.trans (Same.new (o := .lst (d.nt.map V.str)) hn)
    refine ⟨_, rfl, t, _, _, b, rfl, rfl, s2.tup hT, atI_nat (j := 3) rfl, dStrs d.nt, dStrs d.nt, dp_strs (SqL.of upd_same), (hb.mono s2).dp, shaped_of cs (Nat.le_trans (dep_strs _) (by decide)), shaped_of cs (Nat.le_trans (dep_strs _) (by decide)), true, eq_true cs, iteT ?_⟩
    refine ⟨_, rfl, p, dx, _, rfl, s2 _ _ hp, no2, _, _, _, _, _, _, rfl, hraw.mono s2, fun n2 hn2 => ?_⟩
    exact ⟨_, _, "list", true, rfl, .base (.lst upd_same), kit_list_list, k _ (s2.trans (Same.new hn2))⟩
end
end Zw

/-! Zm: _law_tells, _law_spoil. -/
namespace Zw
open PySem PySem.Spec PyProof.Rows L2
section
variable {P : Program} {w : World} {K : PySem.W.Frag} {mg : Str → Option Value} {base : Heap} {D M : Addr}
def spTells (K : PySem.W.Frag) (M D : Addr) : Sp := fun vs H Q _ => ∃ (mv rv dv : V) (wa : Addr) (ws : List Str) (rs : List RoomD) (ds : List DoorD), vs = [mv, .ref wa, rv, dv] ∧ MachAt M D H mv ws rs ds ∧ SqL K H wa (ws.map V.str) ∧ RoomsAt H rv rs ∧ RowsAt H dv ds ∧
  WatchesOk ws ∧ RoomsOk ws rs ∧ (∀ d, d ∈ ds → DoorOk ws (rs.map (·.1)) d) ∧ ds.length ≤ 200 ∧ ∀ H', Same H H' → Q (.bl true) H'
theorem mfs_meth (wn rn sl dl : Addr) {m : Str} (h : decide (m = "door_list") = false ∧ decide (m = "stay_looks") = false ∧ decide (m = "room_names") = false ∧ decide (m = "watch_names") = false) : (mfs wn rn sl dl).lookup m = none :=
  mfs_no _ _ _ _ (of_decide_eq_false h.1) (of_decide_eq_false h.2.1) (of_decide_eq_false h.2.2.1) (of_decide_eq_false h.2.2.2)
theorem d_tells (T : Txt K mg D M) : Def P w K mg base "_law_tells" 4 ["_law_machine", "_law_watches", "_law_rooms_here", "_law_doors_here"] (spTells K M D) := by
  have F1 : Def P w K mg base "_law_same" 3 _ _ := d_same T
  obtain ⟨f1, g1, m1, G1, b1⟩ : Mth P w K mg base M "watches" 1 ["self"] (spWatches M D) := d_watches T
  obtain ⟨f2, g2, m2, G2, b2⟩ : Mth P w K mg base M "rooms" 1 ["self"] (spMRooms M D) := d_mRooms T
  obtain ⟨f3, g3, m3, G3, b3⟩ : Mth P w K mg base M "doors" 1 ["self"] (spMDoors M D) := d_mDoors T
  obtain ⟨f4, g4, m4, G4, b4⟩ : Mth P w K mg base M "stay" 1 ["self", "room"] (spStay M D) := d_stay T
  obtain ⟨f5, g5, m5, G5, b5⟩ : Mth P w K mg base M "watch_number" 1 ["self", "name"] (spWNum M D) := d_wnum T
  have sc : FnScope ["_law_machine", "_law_watches", "_law_rooms_here", "_law_doors_here", "_law_k", "_law_told", "_law_room", "_law_watch", "_law_door_here", "_law_one"] ["_law_machine", "_law_watches", "_law_rooms_here", "_law_doors_here"] (defScope sTells) := ⟨rfl, rfl, rfl, by decide +kernel, rfl, by decide +kernel, by decide +kernel⟩
  refine def_of T.tells sc (fun _ _ _ _ _ _ us hl => match us, hl with | [_, _, _, _], _ => rfl) (fun vs H Q E h => ?_) (fun f cdv A outer s H vs Q E hr h => ?_)
  · obtain ⟨mv, rv, dv, wa, ws, rs, ds, rfl, _⟩ := h
    rfl
  · obtain ⟨mv, rv, dv, wa, ws, rs, ds, rfl, hM, hw, ⟨ra, rxs, rfl, hra, hrx⟩, ⟨da, dxs, rfl, hda, hdx⟩, hws, hrs, hds, h200, k⟩ := h
    obtain ⟨p, dx, wn, rn, sl, dl, ss, zs, rfl, hp, hM'⟩ := id hM
    have hr1 : Room 1 _ := hr.mono (by decide)
    have okw : ∀ s, s ∈ ws → OkS s := fun s h => (hws.2.1 s h).ok
    have okn : ∀ s, s ∈ rs.map (·.1) → OkS s := fun s h => by
      obtain ⟨r, hr, rfl⟩ := List.mem_map.mp h
      exact (hrs.2.2.1 r hr).1.ok
    have noM : ∀ {m : Str}, (decide (m = "door_list") = false ∧ decide (m = "stay_looks") = false ∧ decide (m = "room_names") = false ∧ decide (m = "watch_names") = false) → (mfs wn rn sl dl).lookup m = none := fun h => mfs_meth _ _ _ _ h
    have no1 : (mfs wn rn sl dl).lookup ("watches" : Str) = none := noM (by decide +kernel)
    have no2 : (mfs wn rn sl dl).lookup ("rooms" : Str) = none := noM (by decide +kernel)
    have no3 : (mfs wn rn sl dl).lookup ("doors" : Str) = none := noM (by decide +kernel)
    have no4 : (mfs wn rn sl dl).lookup ("stay" : Str) = none := noM (by decide +kernel)
    have no5 : (mfs wn rn sl dl).lookup ("watch_number" : Str) = none := noM (by decide +kernel)
    refine ⟨_, pss_cons (ps_if (PW.pt (pw_or (pt_cmpR (op_neD hr.units) (pe_meth0 (pv 0) T.cM m1 G1 hr1 b1 .nil pass0) (pv 1) (nomark _))
          (pw_or1 (pt_cmpR (op_neD hr.units) (pe_meth0 (pv 0) T.cM m2 G2 hr1 b2 .nil pass0)
            (pe_lc (own := [("_law_room", 6)]) (g := gName 6) (tt := tYes) rfl sc.nd (pi_list (pv 2)) (blkOk_by (N := ["_law_machine", "_law_watches", "_law_rooms_here", "_law_doors_here", "_law_k", "_law_told", "_law_room", "_law_watch", "_law_door_here", "_law_one"]) (sc := defScope sTells) (by decide +kernel)) (fun _ _ _ _ _ => pg_name (i := 6) sc.nd rfl (Or.inl rfl)) (fun _ _ _ _ _ => pts_nil)
              (fun _ _ _ _ _ => pe_ix (r := rIxT K) ix_tup (pv 6) pe_int (fun _ _ => rfl))) (nomark _))))) (pss_one (ps_ret pe_bl)) pss_nil)
      (pss_cons (ps_for PassesOwn.never rfl (pi_range1 (by rfl) T.range (pa_cons (pe_callB call_len_seq (by rfl) T.len PySem.boot_len (pa_cons (pv 2) pa_nil)) pa_nil)) (pg_name (i := 4) sc.nd rfl (Or.inl rfl))
        (pss_one (ps_if (PW.pt (pw_or (pt_cmpR (op_neD hr.units) (pe_meth (pv 0) T.cM m4 G4 hr1 b4 .nil pass0 (pa_cons (pe_ix ix_tup (pe_ix ix_list (pv 2) (pv 4) (fun _ _ => rfl)) pe_int (fun _ _ => rfl)) pa_nil)) (pe_ix ix_tup (pe_ix ix_list (pv 2) (pv 4) (fun _ _ => rfl)) pe_int (fun _ _ => rfl)) (nomark _))
          (pw_or1 (pt_not (pt_val (pe_isi T.isi T.list boot_Tlist (pe_meth (pv 0) T.cM m4 G4 hr1 b4 .nil pass0 (pa_cons (pe_ix ix_tup (pe_ix ix_list (pv 2) (pv 4) (fun _ _ => rfl)) pe_int (fun _ _ => rfl)) pa_nil)))))))) (pss_one (ps_ret pe_bl)) pss_nil)))
      (pss_cons (ps_if (pt_cmpR (op_neD hr.units)
          (pe_lc (own := [("_law_watch", 7)]) (g := gName 7) (tt := tYes) rfl sc.nd (pi_list (pv 1)) (blkOk_by (N := ["_law_machine", "_law_watches", "_law_rooms_here", "_law_doors_here", "_law_k", "_law_told", "_law_room", "_law_watch", "_law_door_here", "_law_one"]) (sc := defScope sTells) (by decide +kernel)) (fun _ _ _ _ _ => pg_name (i := 7) sc.nd rfl (Or.inl rfl)) (fun _ _ _ _ _ => pts_nil)
            (fun _ _ _ _ _ => pe_meth (pv 0) T.cM m5 G5 hr1 b5 .nil pass0 (pa_cons (pv 7) pa_nil)))
          (pe_listRg rfl (by rfl) T.list (prg_2 (by rfl) T.range pe_int (pe_op op_add (pe_callB call_len_seq (by rfl) T.len PySem.boot_len (pa_cons (pv 1) pa_nil)) pe_int))) (nomark _)) (pss_one (ps_ret pe_bl)) pss_nil)
      (pss_cons (ps_set (i := 5) sc.nd rfl (Or.inl rfl) (pe_meth0 (pv 0) T.cM m3 G3 hr1 b3 .nil pass0))
      (pss_cons (ps_if (PW.pt (pw_or (pt_not (pt_val (pe_isi T.isi T.list boot_Tlist (pv 5)))) (pw_or1 (pt_cmpR op_ne (pe_callB call_len_seq (by rfl) T.len PySem.boot_len (pa_cons (pv 5) pa_nil)) (pe_callB call_len_seq (by rfl) T.len PySem.boot_len (pa_cons (pv 3) pa_nil)) (nomark _))))) (pss_one (ps_ret pe_bl)) pss_nil)
      (pss_one (ps_ret (pe_callB (cr_all rfl) (by rfl) T.all boot_Ball
        (pa_cons (pe_lc (own := [("_law_door_here", 8), ("_law_one", 9)]) (g := gTup K 2 (gCons (gName 8) (gCons (gName 9) gNil))) (tt := tYes) rfl sc.nd (pi_zip (by rfl) T.zip (pa_cons (pv 5) (pa_cons (pv 3) pa_nil))) (blkOk_by (N := ["_law_machine", "_law_watches", "_law_rooms_here", "_law_doors_here", "_law_k", "_law_told", "_law_room", "_law_watch", "_law_door_here", "_law_one"]) (sc := defScope sTells) (by decide +kernel))
          (fun _ _ _ _ _ => pg_tup rfl (pgs_cons (pg_name (i := 8) sc.nd rfl (Or.inl rfl)) (pgs_cons (pg_name (i := 9) sc.nd rfl (Or.inl rfl)) pgs_nil))) (fun _ _ _ _ _ => pts_nil)
          (fun _ _ _ _ _ => pe_def F1 hr (ha := pa_cons (pv 8) (pa_cons (pv 9) pa_nil)))) pa_nil)))))))), ?_⟩
    have cw := can_strs okw
    have cn := can_strs okn
    -- machine.watches() != watches or machine.rooms() != [..]
    refine ⟨_, rfl, p, dx, _, rfl, hp, no1, _, ws, rs, ds, rfl, hM, fun q1 hq1 => ?_⟩
    have s1 : Same H (upd H q1 (.lst (ws.map V.str))) := Same.new hq1
    refine ⟨_, rfl, dStrs ws, dStrs ws, dp_strs (SqL.of upd_same), dp_strs (s1.seq hw), shaped_of cw (Nat.le_trans (dep_strs _) (by decide)), shaped_of cw (Nat.le_trans (dep_strs _) (by decide)), false, neq_false cw, iteF ?_⟩
    refine ⟨_, rfl, p, dx, _, rfl, s1 _ _ hp, no2, _, ws, rs, ds, rfl, hM.mono s1, fun q2 hq2 => ?_⟩
    generalize hH2 : upd (upd H q1 (.lst (ws.map V.str))) q2 (.lst ((rs.map (·.1)).map V.str)) = H2
    have hq2' : H2 q2 = some (.lst ((rs.map (·.1)).map V.str)) := by rw [← hH2]; exact upd_same
    have s2 : Same H H2 := by rw [← hH2]; exact s1.trans (Same.new hq2)
    refine ⟨_, rfl, ra, rfl, ⟨_, SqL.of (s2 _ _ hra)⟩, fun q3 hq3 => lc_list (K := K) (a := ra) (xs := rxs) (PvX H2 q3 RStr fun j y => (rs.map (·.1))[j]? = some y) (PvX.start hq3) (fun i H' _ v => v.same.seq (s2.seq (SqL.of hra))) (fun i x H' hi v => ?_) fun H3 v3 => ?_⟩
    · obtain ⟨r, er, t, g, rfl, ht, _⟩ := hrx.left hi
      refine ⟨rfl, inYes (iteT ⟨_, rfl, t, _, _, .str r.1, rfl, rfl, SqT.of (v.same _ _ (s2 _ _ ht)), atI_nat (j := 0) rfl, ?_⟩)⟩
      exact v.next RStr.mono (Same.refl _) (show RStr _ _ r.1 from rfl) (get_map_of er) (by have := lt_get er; have := hrs.2.1; omega)
    obtain ⟨acc, ys, hD3, hacc, hl, hg⟩ := v3.acc
    have ey : ys = rs.map (·.1) := list_eq (by rw [hl, List.length_map, hrx.len]) hg
    rw [strs_of hacc, ey] at hD3
    have s3 := s2.trans v3.same
    refine ⟨dStrs (rs.map (·.1)), dStrs (rs.map (·.1)), dp_strs (SqL.of (v3.same _ _ hq2')), dp_strs (SqL.of hD3), shaped_of cn (Nat.le_trans (dep_strs _) (by decide)), shaped_of cn (Nat.le_trans (dep_strs _) (by decide)), false, neq_false cn, iteF ?_⟩
    -- for k in range(len(rooms_here))
    have h64 := hrs.2.1
    have hrl := hrx.len
    refine ⟨_, rfl, ra, _, rfl, .inl (SqL.of (s3 _ _ hra)), ((rxs.length : Nat) : Int), rfl, by omega, by omega, for_range (lo := 0) (n := ((rxs.length : Nat) : Int).toNat) (fun i σ H' => ∃ v4 : Option V, σ = [some (.ref p), some (.ref wa), some (.ref ra), some (.ref da), v4, none, none, none, none, none] ∧ Same H H') ⟨none, rfl, s3⟩ ?_ ?_⟩
    · rintro i σ H4 hi ⟨v4, rfl, s4⟩
      have hil : i < rxs.length := by omega
      obtain ⟨x, hx⟩ := get_lt hil
      obtain ⟨r, er, t, g, rfl, ht, hg⟩ := hrx.left hx
      have cg := can_guard (okL_of okw wBelow_ok (hrs.2.2.1 r (List.mem_of_getElem? er)).2)
      have at0 : atI rxs (0 + (i : Int)) = some (.ref t) := at_of (j := i) (by omega) hx
      refine ⟨_, rfl, p, dx, _, rfl, s4 _ _ hp, no4, _, rfl, _, rfl, ra, _, _, .ref t, rfl, rfl, SqL.of (s4 _ _ hra), at0, t, _, _, .str r.1, rfl, rfl, SqT.of (s4 _ _ ht), atI_nat (j := 0) rfl, _, ws, rs, ds, i, r, rfl, hM.mono s4, er, hrs.2.2.2, fun q xs hq hxs => ?_⟩
      have s5 : Same H4 (upd H4 q (.lst xs)) := Same.new hq
      have s45 := s4.trans s5
      refine ⟨_, rfl, _, rfl, ra, _, _, .ref t, rfl, rfl, SqL.of (s45 _ _ hra), at0, t, _, _, g, rfl, rfl, SqT.of (s45 _ _ ht), atI_nat (j := 1) rfl, dGuard r.2, dGuard r.2, GuardAt.dp ⟨q, xs, rfl, upd_same, hxs.mono fun _ _ r => r.mono s5⟩, (hg.mono s45).dp, shaped_of cg (Nat.le_trans (dep_guard _) (by decide)), shaped_of cg (Nat.le_trans (dep_guard _) (by decide)), false, neq_false cg, iteF ?_⟩
      refine ⟨_, rfl, p, dx, _, rfl, s45 _ _ hp, no4, _, rfl, _, rfl, ra, _, _, .ref t, rfl, rfl, SqL.of (s45 _ _ hra), at0, t, _, _, .str r.1, rfl, rfl, SqT.of (s45 _ _ ht), atI_nat (j := 0) rfl, _, ws, rs, ds, i, r, rfl, hM.mono s45, er, hrs.2.2.2, fun q' xs' hq' hxs' => ?_⟩
      exact ⟨_, _, "list", true, rfl, .base (.lst upd_same), kit_list_list, true, rfl, iteF ⟨_, rfl, s45.trans (Same.new hq')⟩⟩
    rintro σ H4 ⟨v4, rfl, s4⟩
    -- [machine.watch_number(watch) ..] != list(range(1, len(watches) + 1))
    have h7 := hws.1
    refine ⟨_, rfl, wa, rfl, ⟨_, s4.seq hw⟩, fun q5 hq5 => lc_list (K := K) (a := wa) (xs := ws.map V.str) (PvX H4 q5 RInt fun j y => y = 1 + (j : Int)) (PvX.start hq5) (fun i H' _ v => (s4.trans v.same).seq hw) (fun i x H' hi v => ?_) fun H5 v5 => ?_⟩
    · obtain ⟨y, ey, rfl⟩ := get_map hi
      have sH := s4.trans v.same
      refine ⟨rfl, inYes (iteT ⟨_, rfl, p, dx, _, rfl, sH _ _ hp, no5, _, rfl, _, ws, rs, ds, i, y, rfl, hM.mono sH, ey, hws.2.2, ?_⟩)⟩
      exact v.next RInt.mono (Same.refl _) (show RInt _ _ (1 + (i : Int)) from rfl) rfl (by have := lt_get ey; omega)
    obtain ⟨acc5, ys5, hD5, hacc5, hl5, hg5⟩ := v5.acc
    rw [ints_of hacc5] at hD5
    have s5 := s4.trans v5.same
    have erg : rgV 1 (((ws.map V.str).length : Int) + 1) = ys5.map V.int := by
      refine list_eq (by rw [rgV_length, List.length_map (as := ys5), hl5]; omega) fun j x hj => ?_
      obtain ⟨i, hi, rfl⟩ := get_map hj
      have hjr : j < ((((ws.map V.str).length : Int) + 1) - 1).toNat := by
        have := lt_get hj
        rw [rgV_length] at this
        exact this
      rw [List.getElem?_range hjr] at hi
      obtain rfl := Option.some.inj hi
      obtain ⟨y, hy⟩ := get_lt (xs := ys5) (i := j) (by rw [hl5]; omega)
      rw [get_map_of hy, hg5 j y hy]
    have ci := can_ints ys5
    refine ⟨_, rfl, wa, _, rfl, .inl (s5.seq hw), _, _, rfl, rfl, _, _, rfl, rfl, RgOk.of_le (by decide) (by rw [List.length_map]; omega) (by decide) (by omega), fun q6 hq6 => ?_⟩
    rw [erg]
    have s6 := s5.trans (Same.new (o := .lst (ys5.map V.int)) hq6)
    have n56 : q5 ≠ q6 := ne_of_none hD5 hq6
    refine ⟨dInts ys5, dInts ys5, dp_ints (SqL.of (by rw [upd_ne n56]; exact hD5)), dp_ints (SqL.of upd_same), shaped_of ci (Nat.le_trans (dep_ints _) (by decide)), shaped_of ci (Nat.le_trans (dep_ints _) (by decide)), false, neq_false ci, iteF ?_⟩
    -- told = machine.doors()
    refine ⟨_, rfl, p, dx, _, rfl, s6 _ _ hp, no3, _, ws, rs, ds, rfl, hM.mono s6, fun q7 us hq7 hus => ?_⟩
    have s67 := Same.new (o := .lst us) hq7
    have s7 := s6.trans s67
    have hq7' := upd_same (H := upd H5 q6 (.lst (ys5.map V.int))) (a := q7) (o := .lst us)
    refine ⟨_, rfl, _, _, "list", true, rfl, .base (.lst hq7'), kit_list_list, true, rfl, iteF ?_⟩
    refine ⟨_, rfl, q7, us, rfl, .inl (SqL.of hq7'), _, rfl, da, dxs, rfl, .inl (SqL.of (s7 _ _ hda)), rfl, false, nblT (by rw [hus.len, hdx.len]), iteF ?_⟩
    -- all([..])
    generalize hH7 : upd (upd H5 q6 (.lst (ys5.map V.int))) q7 (.lst us) = H7 at *
    have hdl := hdx.len
    have hul := hus.len
    refine ⟨_, rfl, _, rfl, q7, da, us, dxs, rfl, SqL.of hq7', SqL.of (s7 _ _ hda), fun q8 hq8 => lc_it (walk_zip (K := K) (a := q7) (b := da) (xs := us) (ys := dxs) (n := us.length) (by omega)) (PvX H7 q8 RTrue fun _ _ => True) (PvX.start hq8) (fun i H' _ v => ⟨v.same.seq (SqL.of hq7'), v.same.seq (SqL.of (s7 _ _ hda))⟩) (fun i x H' H'' hi v hy => ?_) fun H8 v8 => ?_⟩
    · obtain ⟨t, a, b, rfl, hT0, rfl, ha, hb⟩ := hy
      obtain ⟨d, ed, hd⟩ := hus.left ha
      have hrow := hdx.at_ i b d hb ed
      have st : Same H' (upd H' t (.tup [a, b])) := Same.new hT0
      have sH := (s7.trans v.same).trans st
      obtain ⟨o1, o2, o3, o4, o5, o6, o7⟩ := hds d (List.mem_of_getElem? ed)
      refine ⟨t, _, rfl, SqT.of upd_same, rfl, a, _, rfl, b, _, rfl, rfl, rfl, inYes (iteT ⟨_, rfl, _, rfl, a, b, d, rfl, (hd.mono (s67.trans (v.same.trans st))), hrow.mono sH, okL_of okw wAll_ok o3, fun s h => okw s (o4 s h), fun H9 s9 => ?_⟩)⟩
      exact v.next RTrue.mono (st.trans s9) (show RTrue _ _ () from rfl) trivial (by omega)
    · obtain ⟨bs, hD8, hb8⟩ := all_get v8
      refine ⟨q8, bs, rfl, SqL.of hD8, ?_⟩
      show Q (.bl (bs.all id)) H8
      rw [hb8]
      exact k H8 (s7.trans v8.same)
end
end Zw

/-! Zn: _law_spoil. -/
namespace Zw
open PySem PySem.Spec PyProof.Rows L2
theorem same_upd2 {H0 H : Hp} {p : Addr} {o u : HO} (s : Same H0 H) (h : H p = none) : Same H0 (upd (upd H p o) p u) := same_upd (s.free h) (s.trans (Same.new h))
section
variable {P : Program} {w : World} {K : PySem.W.Frag} {mg : Str → Option Value} {base : Heap} {D M : Addr}
def spSpoil (M D : Addr) : Sp := fun vs H Q _ => ∃ (mv rv : V) (ws : List Str) (rs : List RoomD) (ds : List DoorD), vs = [mv, rv] ∧ MachAt M D H mv ws rs ds ∧ RoomsAt H rv rs ∧
  ws.length ≤ 7 ∧ RoomsOk ws rs ∧ ds.length ≤ 200 ∧ (∀ d, d ∈ ds → d.gd.length ≤ 1000 ∧ d.nt.length ≤ 7) ∧ ∀ H', Same H H' → Q .non H'
theorem d_spoil (T : Txt K mg D M) : Def P w K mg base "_law_spoil" 3 ["_law_machine", "_law_rooms_here"] (spSpoil M D) := by
  obtain ⟨f1, g1, m1, G1, b1⟩ : Mth P w K mg base M "watches" 1 ["self"] (spWatches M D) := d_watches T
  obtain ⟨f2, g2, m2, G2, b2⟩ : Mth P w K mg base M "rooms" 1 ["self"] (spMRooms M D) := d_mRooms T
  obtain ⟨f3, g3, m3, G3, b3⟩ : Mth P w K mg base M "doors" 1 ["self"] (spMDoors M D) := d_mDoors T
  obtain ⟨f4, g4, m4, G4, b4⟩ : Mth P w K mg base M "stay" 1 ["self", "room"] (spStay M D) := d_stay T
  obtain ⟨fa, fda, ma, Fa, ba⟩ : Mth P w K mg base D "asks" 2 ["self"] (spAsks D) := d_asks T
  obtain ⟨fs, fds, ms, Fs, bs⟩ : Mth P w K mg base D "sets" 2 ["self"] (spSets D) := d_sets T
  have sc : FnScope ["_law_machine", "_law_rooms_here", "_law_door_here"] ["_law_machine", "_law_rooms_here"] (defScope sSpoil) := ⟨rfl, rfl, rfl, by decide +kernel, rfl, by decide +kernel, by decide +kernel⟩
  refine def_of T.spoil sc (fun _ _ _ _ _ _ us hl => match us, hl with | [_, _], _ => rfl) (fun vs H Q E h => ?_) (fun f cdv A outer s H vs Q E hr h => ?_)
  · obtain ⟨mv, rv, ws, rs, ds, rfl, _⟩ := h
    rfl
  · obtain ⟨mv, rv, ws, rs, ds, rfl, hM, ⟨ra, rxs, rfl, hra, hrx⟩, h7, hrs, h200, hds, k⟩ := h
    obtain ⟨p, dx, wn, rn, sl, dl, ss, zs, rfl, hp, hM'⟩ := id hM
    have hr1 : Room 1 _ := hr.mono (by decide)
    have no1 : (mfs wn rn sl dl).lookup ("watches" : Str) = none := mfs_meth _ _ _ _ (by decide +kernel)
    have no2 : (mfs wn rn sl dl).lookup ("rooms" : Str) = none := mfs_meth _ _ _ _ (by decide +kernel)
    have no3 : (mfs wn rn sl dl).lookup ("doors" : Str) = none := mfs_meth _ _ _ _ (by decide +kernel)
    have no4 : (mfs wn rn sl dl).lookup ("stay" : Str) = none := mfs_meth _ _ _ _ (by decide +kernel)
    refine ⟨_, pss_cons (ps_expr (pe_bm PySem.F.plainAttrs_list PySem.F.slot_list_append PySem.F.type_list_append mt_append (pe_meth0 (pv 0) T.cM m1 G1 hr1 b1 .nil pass0) (pa_cons pe_str pa_nil)))
      (pss_cons (ps_expr (pe_bm0 PySem.F.plainAttrs_list PySem.F.slot_list_clear PySem.F.type_list_clear mt_clear (pe_meth0 (pv 0) T.cM m2 G2 hr1 b2 .nil pass0)))
      (pss_cons (ps_expr (pe_bm PySem.F.plainAttrs_list PySem.F.slot_list_append PySem.F.type_list_append mt_append (pe_meth0 (pv 0) T.cM m3 G3 hr1 b3 .nil pass0) (pa_cons pe_non pa_nil)))
      (pss_cons (ps_expr (pe_bm PySem.F.plainAttrs_list PySem.F.slot_list_append PySem.F.type_list_append mt_append (pe_meth (pv 0) T.cM m4 G4 hr1 b4 .nil pass0 (pa_cons (pe_ix ix_tup (pe_ix ix_list (pv 1) pe_int (fun _ _ => rfl)) pe_int (fun _ _ => rfl)) pa_nil)) (pa_cons (pe_tup (pa_cons pe_str (pa_cons pe_str (pa_cons pe_int pa_nil)))) pa_nil)))
      (pss_one (ps_for PassesOwn.never rfl (pi_list (pe_meth0 (pv 0) T.cM m3 G3 hr1 b3 .nil pass0)) (pg_name (i := 2) sc.nd rfl (Or.inl rfl))
        (pss_cons (ps_expr (pe_bm PySem.F.plainAttrs_list PySem.F.slot_list_append PySem.F.type_list_append mt_append (pe_meth0 (pv 2) T.iD.cl ma Fa hr ba .nil pass0) (pa_cons (pe_tup (pa_cons pe_str (pa_cons pe_str (pa_cons pe_int pa_nil)))) pa_nil)))
        (pss_one (ps_expr (pe_bm PySem.F.plainAttrs_list PySem.F.slot_list_append PySem.F.type_list_append mt_append (pe_meth0 (pv 2) T.iD.cl ms Fs hr bs .nil pass0) (pa_cons pe_str pa_nil)))))))))), ?_⟩
    -- machine.watches().append('z')
    refine ⟨_, rfl, p, dx, _, rfl, hp, no1, _, ws, rs, ds, rfl, hM, fun q1 hq1 => ⟨.inl ⟨rfl, _, SqL.of upd_same⟩, q1, _, _, rfl, rfl, upd_same, by rw [List.length_map, sizeLine_eq]; omega, ?_⟩⟩
    generalize hH1 : upd (upd H q1 (.lst (ws.map V.str))) q1 _ = H1
    have s1 : Same H H1 := by rw [← hH1]; exact same_upd2 (Same.refl _) hq1
    -- machine.rooms().clear()
    refine ⟨_, rfl, p, dx, _, rfl, s1 _ _ hp, no2, _, ws, rs, ds, rfl, hM.mono s1, fun q2 hq2 => ⟨.inl ⟨rfl, _, SqL.of upd_same⟩, q2, _, rfl, rfl, upd_same, ?_⟩⟩
    generalize hH2 : upd (upd H1 q2 (.lst ((rs.map (·.1)).map V.str))) q2 _ = H2
    have s2 : Same H H2 := by rw [← hH2]; exact same_upd2 s1 hq2
    -- machine.doors().append(None)
    refine ⟨_, rfl, p, dx, _, rfl, s2 _ _ hp, no3, _, ws, rs, ds, rfl, hM.mono s2, fun q3 us3 hq3 hus3 => ⟨.inl ⟨rfl, _, SqL.of upd_same⟩, q3, _, _, rfl, rfl, upd_same, by rw [hus3.len, sizeLine_eq]; omega, ?_⟩⟩
    generalize hH3 : upd (upd H2 q3 (.lst us3)) q3 _ = H3
    have s3 : Same H H3 := by rw [← hH3]; exact same_upd2 s2 hq3
    -- machine.stay(rooms_here[0][0]).append(('z', '<', 1))
    obtain ⟨r0, hr0⟩ := get_lt (xs := rs) (i := 0) (by
      cases rs with
      | nil => exact absurd rfl hrs.1
      | cons _ _ => simp)
    obtain ⟨e0, he0, t0, g0, rfl, ht0, _⟩ := hrx.right hr0
    have hT0 : SqT K H3 t0 [.str r0.1, g0] := SqT.of (s3 _ _ ht0)
    have hl0 := (hrs.2.2.1 r0 (List.mem_of_getElem? hr0)).2.1
    refine ⟨_, rfl, p, dx, _, rfl, s3 _ _ hp, no4, _, rfl, ra, _, _, .ref t0, rfl, rfl, SqL.of (s3 _ _ hra), atI_nat (j := 0) he0, t0, _, _, .str r0.1, rfl, rfl, hT0, atI_nat (j := 0) rfl, _, ws, rs, ds, 0, r0, rfl, hM.mono s3, hr0, hrs.2.2.2, fun q4 xs4 hq4 hxs4 => ⟨.inl ⟨rfl, _, SqL.of upd_same⟩, (by show 3 ≤ sizeLine; decide), fun t4 ht4 => ?_⟩⟩
    have n44 : q4 ≠ t4 := fun e => by rw [← e, upd_same] at ht4; cases ht4
    refine ⟨q4, xs4, _, rfl, rfl, by rw [upd_ne n44]; exact upd_same, by rw [hxs4.len, sizeLine_eq]; omega, ?_⟩
    generalize hH4 : upd (upd (upd H3 q4 (.lst xs4)) t4 _) q4 _ = H4
    have s4 : Same H H4 := by
      rw [← hH4]
      exact same_upd (s3.free hq4) ((s3.trans (Same.new hq4)).trans (Same.new ht4))
    -- for door_here in machine.doors()
    refine ⟨_, rfl, p, dx, _, rfl, s4 _ _ hp, no3, _, ws, rs, ds, rfl, hM.mono s4, fun q5 us hq5 hus => ?_⟩
    have s5 : Same H (upd H4 q5 (.lst us)) := s4.trans (Same.new hq5)
    have hus5 := hus.mono fun _ _ r => r.mono (Same.new (o := .lst us) hq5)
    refine ⟨q5, rfl, ⟨_, SqL.of upd_same⟩, for_list (K := K) (a := q5) (xs := us) (fun i σ H' => ∃ v2 : Option V, σ = [some (.ref p), some (.ref ra), v2] ∧ Same (upd H4 q5 (.lst us)) H') ⟨none, rfl, Same.refl _⟩ (fun i σ H' _ ⟨_, _, e⟩ => SqL.of (e _ _ upd_same)) ?_ ?_⟩
    · rintro i x σ H6 hi ⟨v2, rfl, s6⟩
      obtain ⟨d, ed, hd⟩ := hus5.left hi
      have hd6 := hd.mono s6
      obtain ⟨xs, hraw, hx⟩ := id hd6
      obtain ⟨pd, dd, lk, bk, rfl, hpd, hlk, hbk⟩ := id hraw
      have na : (dfs d.st d.en d.sg lk bk).lookup ("asks" : Str) = none := dfs_no _ _ _ _ _ (by decide +kernel) (by decide +kernel) (by decide +kernel) (by decide +kernel) (by decide +kernel)
      have ns : (dfs d.st d.en d.sg lk bk).lookup ("sets" : Str) = none := dfs_no _ _ _ _ _ (by decide +kernel) (by decide +kernel) (by decide +kernel) (by decide +kernel) (by decide +kernel)
      obtain ⟨l1, l2⟩ := hds d (List.mem_of_getElem? ed)
      refine ⟨_, rfl, pd, dd, _, rfl, hpd, na, _, _, _, _, _, _, rfl, hraw, fun q6 hq6 => ⟨.inl ⟨rfl, _, SqL.of upd_same⟩, (by show 3 ≤ sizeLine; decide), fun t6 ht6 => ?_⟩⟩
      have n66 : q6 ≠ t6 := fun e => by rw [← e, upd_same] at ht6; cases ht6
      refine ⟨q6, xs, _, rfl, rfl, by rw [upd_ne n66]; exact upd_same, by rw [hx.len, sizeLine_eq]; omega, ?_⟩
      generalize hH7 : upd (upd (upd H6 q6 (.lst xs)) t6 _) q6 _ = H7
      have s67 : Same H6 H7 := by
        rw [← hH7]
        exact same_upd hq6 ((Same.new hq6).trans (Same.new ht6))
      refine ⟨_, rfl, pd, dd, _, rfl, s67 _ _ hpd, ns, _, _, _, _, _, _, rfl, hraw.mono s67, fun q7 hq7 => ⟨.inl ⟨rfl, _, SqL.of upd_same⟩, q7, _, _, rfl, rfl, upd_same, by rw [List.length_map, sizeLine_eq]; omega, ?_⟩⟩
      exact ⟨_, rfl, same_upd2 (s6.trans s67) hq7⟩
    · rintro σ H6 ⟨v2, rfl, s6⟩
      exact k H6 (s5.trans s6)
end
end Zw

/-! Zo: the law's own body, first half: what is built. -/
namespace Zw
open PySem PySem.Spec PyProof.Rows L2
/-- the watches, with / amid -/
theorem watches_ok {nms ws : List Str} (h : NamesOk nms) (s : ws.Sublist nms) (h6 : ws.length ≤ 6) : WatchesOk ws ∧ WatchesOk (ws.take 3 ++ [slash] ++ ws.drop 3) := by
  have nd := s.nodup h.2
  have hn : ∀ x, x ∈ ws → IsNm x := fun x hx => h.1 x (s.subset hx)
  have no : slash ∉ ws := fun hx => by
    have := (hn _ hx).1 47 (by rw [slash_list]; simp)
    omega
  refine ⟨⟨by omega, fun x hx => .inr (hn x hx), nd⟩, ?_, fun x hx => ?_, ?_⟩
  · simp only [List.length_append, List.length_take, List.length_drop, List.length_cons, List.length_nil]
    omega
  · rw [List.append_assoc, List.mem_append, List.mem_append] at hx
    rcases hx with hx | hx | hx
    · exact .inr (hn x (List.mem_of_mem_take hx))
    · exact .inl (by simpa using hx)
    · exact .inr (hn x (List.mem_of_mem_drop hx))
  · have p : (ws.take 3 ++ [slash] ++ ws.drop 3).Perm (slash :: ws) := by
      have e := List.perm_middle (a := slash) (l₁ := ws.take 3) (l₂ := ws.drop 3)
      rw [List.take_append_drop] at e
      rw [List.append_assoc]
      exact e
    exact p.nodup_iff.mpr (List.nodup_cons.mpr ⟨no, nd⟩)
/-- a heap less what L names -/
theorem restrict (L : Addr → Prop) (H : Hp) : ∃ C : Hp, (∀ a, L a → C a = none) ∧ (∀ a o, H a = some o → ¬ L a → C a = some o) ∧ Same C H := by
  classical
  refine ⟨fun a => if L a then none else H a, fun a h => if_pos h, fun a o e h => (if_neg h).trans e, fun a o e => ?_⟩
  have e : (if L a then none else H a) = some o := e
  by_cases h : L a
  · rw [if_pos h] at e
    cases e
  · rw [if_neg h] at e
    exact e
abbrev lawN : List Str := ["_law_script", "_law_names_here", "_law_first", "_law_watches", "_law_unit", "_law_rooms_here", "_law_doors_here", "_law_guards", "_law_backs", "_law_k", "_law_made", "_law_name", "_law_stay", "_law_handed", "_law_machine", "_law_one"]
/-- what is drawn: the watches, the rooms, the doors -/
structure Drawn (ws : List Str) (rs : List RoomD) (ds : List DoorD) : Prop where
  w : WatchesOk ws
  r : RoomsOk ws rs
  d : ∀ d, d ∈ ds → DoorOk ws (rs.map (·.1)) d
  n : ds.length ≤ 200
/-- a copy of a door's guard -/
def RG (B : Hp) : Hp → V → DoorD → Prop := fun N v d => RGuard B N v d.gd
theorem RG.mono {B : Hp} (N N' : Hp) (v : V) (d : DoorD) (s : Same N N') (h : RG B N v d) : RG B N' v d := RGuard.mono N N' v _ s h
/-- a copy of a door's noughts -/
def RB : Hp → V → DoorD → Prop := fun N v d => StrsAt N v d.nt
theorem RB.mono (N N' : Hp) (v : V) (d : DoorD) (s : Same N N') (h : RB N v d) : RB N' v d := StrsAt.mono s h
/-- a door made, of copies -/
def RD (D : Addr) (B : Hp) : Hp → V → DoorD → Prop := fun N v d => ∃ xs, DoorRaw D N v d.st d.en d.sg xs (d.nt.map V.str) ∧ All2 (LookAt B) xs d.gd
theorem RD.mono {D : Addr} {B : Hp} (N N' : Hp) (v : V) (d : DoorD) (s : Same N N') (h : RD D B N v d) : RD D B N' v d := by
  obtain ⟨xs, h, k⟩ := h
  exact ⟨xs, h.mono s, k⟩
/-- a room's copy: its stay is a new list -/
def RC (B : Hp) : Hp → V → RoomD → Prop := fun N v r => ∃ (t s : Addr) (xs : List V), v = .ref t ∧ N t = some (.tup [.str r.1, .ref s]) ∧ N s = some (.lst xs) ∧ All2 (LookAt B) xs r.2
theorem RC.mono {B : Hp} (N N' : Hp) (v : V) (r : RoomD) (s : Same N N') (h : RC B N v r) : RC B N' v r := by
  obtain ⟨t, st, xs, e, h1, h2, h3⟩ := h
  exact ⟨t, st, xs, e, s _ _ h1, s _ _ h2, h3⟩
/-- the base: what stands behind the draws -/
structure Bas (K : PySem.W.Frag) (B : Hp) (sa wa ra da : Addr) (ns : List Int) (ws : List Str) (rs : List RoomD) (ds : List DoorD) (rxs dxs : List V) : Prop where
  dr : Drawn ws rs ds
  s : SqL K B sa (ns.map V.int)
  w : B wa = some (.lst (ws.map V.str))
  ra : B ra = some (.lst rxs)
  rx : All2 (RoomAt B) rxs rs
  da : B da = some (.lst dxs)
  dx : All2 (RowAt B) dxs ds
/-- the copies: guards, noughts, doors -/
structure Cop (D : Addr) (B H8 H9 H10 : Hp) (ga ba ma : Addr) (ds : List DoorD) (gs bs zs : List V) : Prop where
  s8 : Same B H8
  s9 : Same H8 H9
  s10 : Same H9 H10
  g0 : B ga = none
  g : H8 ga = some (.lst gs)
  gx : All2 (RG B (neu (upd B ga (.lst [])) H8)) gs ds
  b0 : H8 ba = none
  b : H9 ba = some (.lst bs)
  bx : All2 (RB (neu (upd H8 ba (.lst [])) H9)) bs ds
  m0 : H9 ma = none
  m : H10 ma = some (.lst zs)
  mx : All2 (RD D B (neu (upd H9 ma (.lst [])) H10)) zs ds
/-- the lists handed in -/
structure Hnd (B H10 H11 H12 H13 : Hp) (hw hr ma ha : Addr) (ws : List Str) (rs : List RoomD) (cs : List V) : Prop where
  s11 : Same H10 H11
  s12 : Same H11 H12
  s13 : Same H12 H13
  w0 : H10 hw = none
  w : H11 hw = some (.lst (ws.map V.str))
  r0 : H11 hr = none
  r : H12 hr = some (.lst cs)
  rx : All2 (RC B (neu (upd H11 hr (.lst [])) H12)) cs rs
  a0 : H12 ha = none
  a : H13 ha = some (.lst [.ref hw, .ref hr, .ref ma])
/-- the machine made at x -/
structure Mac (M : Addr) (H13 H14 : Hp) (x dx wn rn sl dl : Addr) (ws : List Str) (rs : List RoomD) (ss zs : List V) : Prop where
  s14 : Same H13 H14
  x0 : H13 x = none
  x : H14 x = some (.ins M dx (mfs wn rn sl dl))
  w0 : H13 wn = none
  w : H14 wn = some (.lst (ws.map V.str))
  r0 : H13 rn = none
  r : H14 rn = some (.lst ((rs.map (·.1)).map V.str))
  l0 : H13 sl = none
  l : H14 sl = some (.lst ss)
  lx : All2 (fun v g => ∃ a xs, v = .ref a ∧ H13 a = none ∧ H14 a = some (.lst xs) ∧ All2 (LookAt H13) xs g) ss (rs.map (·.2))
  d0 : H13 dl = none
  d : H14 dl = some (.lst zs)
/-- what may be spoilt behind the machine: a list that C leaves out -/
def Spo (C H : Hp) (m : Addr) : Prop := C m = none ∧ ∃ xs, H m = some (.lst xs) ∧ xs.length ≤ 1000
/-- the heart: what the machine tells lies apart from all lists that are changed behind -/
structure Core (K : PySem.W.Frag) (M D : Addr) (C1 C2 H14 : Hp) (sa wa ra da ga ba hw hr ma ha x : Addr) (ns : List Int) (ws : List Str) (rs : List RoomD) (ds : List DoorD) (gs bs cs : List V) : Prop where
  s1 : Same C1 H14
  s2 : Same C2 C1
  cga : C1 ga = some (.lst gs)
  cgs : ∀ (i : Nat) (v : V), gs[i]? = some v → ∃ m, v = .ref m ∧ Spo C1 H14 m
  cba : C1 ba = some (.lst bs)
  cbs : ∀ (i : Nat) (v : V), bs[i]? = some v → ∃ m, v = .ref m ∧ Spo C1 H14 m
  chr : C1 hr = some (.lst cs)
  ccs : ∀ (i : Nat) (v : V), cs[i]? = some v → ∃ (t s : Addr) (nm : Str), v = .ref t ∧ C1 t = some (.tup [.str nm, .ref s]) ∧ Spo C1 H14 s
  chw : ∃ xs, C1 hw = some (.lst xs)
  cma : ∃ xs, C1 ma = some (.lst xs)
  w0 : C2 hw = none
  r0 : C2 hr = none
  m0 : C2 ma = none
  cha : C2 ha = some (.lst [.ref hw, .ref hr, .ref ma])
  mach : MachAt M D C2 (.ref x) ws rs ds
  cw : C2 wa = some (.lst (ws.map V.str))
  crr : RoomsAt C2 (.ref ra) rs
  cd : RowsAt C2 (.ref da) ds
theorem some_of_none {H H' : Hp} {a : Addr} {o : HO} (s : Same H H') (h : H' a = none) (e : H a = some o) : False := by
  rw [s _ _ e] at h
  cases h
theorem upd_none {H : Hp} {a p : Addr} {o : HO} (h : upd H p o a = none) : H a = none ∧ a ≠ p := by
  by_cases e : a = p
  · rw [e, upd_same] at h
    cases h
  · rw [upd_ne e] at h
    exact ⟨h, e⟩
theorem core {K : PySem.W.Frag} {M D : Addr} {B H8 H9 H10 H11 H12 H13 H14 : Hp} {sa wa ra da ga ba hw hr ma ha x dx wn rn sl dl : Addr} {ns : List Int} {ws : List Str} {rs : List RoomD} {ds : List DoorD} {rxs dxs gs bs zs cs ss : List V}
    (b : Bas K B sa wa ra da ns ws rs ds rxs dxs) (c : Cop D B H8 H9 H10 ga ba ma ds gs bs zs) (h : Hnd B H10 H11 H12 H13 hw hr ma ha ws rs cs) (m : Mac M H13 H14 x dx wn rn sl dl ws rs ss zs) :
    ∃ C1 C2 : Hp, Core K M D C1 C2 H14 sa wa ra da ga ba hw hr ma ha x ns ws rs ds gs bs cs := by
  have s10 : Same H8 H10 := c.s9.trans c.s10
  have s12 : Same H10 H12 := h.s11.trans h.s12
  have s13 : Same H10 H13 := s12.trans h.s13
  have s14 : Same H10 H14 := s13.trans m.s14
  have sB : Same B H14 := (c.s8.trans s10).trans s14
  obtain ⟨C1, n1, k1, e1⟩ := restrict (fun a => (upd B ga (.lst []) a = none ∧ ∃ xs, H8 a = some (.lst xs) ∧ xs.length ≤ 1000) ∨ (upd H8 ba (.lst []) a = none ∧ ∃ xs, H9 a = some (.lst xs) ∧ xs.length ≤ 1000) ∨ (upd H11 hr (.lst []) a = none ∧ ∃ xs, H12 a = some (.lst xs) ∧ xs.length ≤ 1000)) H14
  obtain ⟨C2, n2, k2, e2⟩ := restrict (fun a => a = hw ∨ a = hr ∨ a = ma) C1
  -- what is no list, or of another time, stands
  have kind1 : ∀ a o, H14 a = some o → (∀ xs, o ≠ .lst xs) → C1 a = some o := fun a o e q => k1 a o e fun z => by
    rcases z with ⟨_, xs, e', _⟩ | ⟨_, xs, e', _⟩ | ⟨_, xs, e', _⟩
    · rw [s14 _ _ (s10 _ _ e')] at e
      exact q xs (Option.some.inj e).symm
    · rw [s14 _ _ (c.s10 _ _ e')] at e
      exact q xs (Option.some.inj e).symm
    · rw [m.s14 _ _ (h.s13 _ _ e')] at e
      exact q xs (Option.some.inj e).symm
  have lw14 := s14
  have hw14 : H14 hw = some (.lst (ws.map V.str)) := m.s14 _ _ (h.s13 _ _ (h.s12 _ _ h.w))
  have hr14 : H14 hr = some (.lst cs) := m.s14 _ _ (h.s13 _ _ h.r)
  have ma14 : H14 ma = some (.lst zs) := s14 _ _ c.m
  have kind2 : ∀ a o, H14 a = some o → (∀ xs, o ≠ .lst xs) → C2 a = some o := fun a o e q => k2 a o (kind1 a o e q) fun z => by
    rcases z with rfl | rfl | rfl
    · rw [hw14] at e
      exact q _ (Option.some.inj e).symm
    · rw [hr14] at e
      exact q _ (Option.some.inj e).symm
    · rw [ma14] at e
      exact q _ (Option.some.inj e).symm
  -- of the base
  have oldB : ∀ a o, B a = some o → C2 a = some o := fun a o e => k2 a o (k1 a o (sB _ _ e) fun z => by
      rcases z with ⟨z, _⟩ | ⟨z, _⟩ | ⟨z, _⟩
      · rw [(upd_none z).1] at e
        cases e
      · exact some_of_none c.s8 (upd_none z).1 e
      · exact some_of_none ((c.s8.trans s10).trans h.s11) (upd_none z).1 e) fun z => by
    rcases z with rfl | rfl | rfl
    · exact some_of_none (c.s8.trans s10) h.w0 e
    · exact some_of_none ((c.s8.trans s10).trans h.s11) h.r0 e
    · exact some_of_none (c.s8.trans c.s9) c.m0 e
  have sBC : Same B C2 := oldB
  -- made with the doors
  have newD : ∀ a o, neu (upd H9 ma (.lst [])) H10 a = some o → C2 a = some o := fun a o e => by
    obtain ⟨q, e⟩ := neu_some e
    obtain ⟨q, ne⟩ := upd_none q
    refine k2 a o (k1 a o (s14 _ _ e) fun z => ?_) fun z => ?_
    · rcases z with ⟨_, xs, z, _⟩ | ⟨_, xs, z, _⟩ | ⟨z, _⟩
      · exact some_of_none c.s9 q z
      · rw [z] at q
        cases q
      · exact some_of_none h.s11 (upd_none z).1 e
    · rcases z with rfl | rfl | z
      · rw [h.w0] at e
        cases e
      · exact some_of_none h.s11 h.r0 e
      · exact ne z
  -- made with the machine
  have newM : ∀ a o, H13 a = none → H14 a = some o → C2 a = some o := fun a o q e => by
    refine k2 a o (k1 a o e fun z => ?_) fun z => ?_
    · rcases z with ⟨_, xs, z, _⟩ | ⟨_, xs, z, _⟩ | ⟨_, xs, z, _⟩
      · exact some_of_none (s10.trans s13) q z
      · exact some_of_none (c.s10.trans s13) q z
      · exact some_of_none h.s13 q z
    · rcases z with rfl | rfl | rfl
      · exact some_of_none (h.s12.trans h.s13) q h.w
      · exact some_of_none h.s13 q h.r
      · exact some_of_none s13 q c.m
  have gaH : H14 ga = some (.lst gs) := s14 _ _ (s10 _ _ c.g)
  have baH : H14 ba = some (.lst bs) := s14 _ _ (c.s10 _ _ c.b)
  have haH : H14 ha = some (.lst [.ref hw, .ref hr, .ref ma]) := m.s14 _ _ h.a
  have ga1 : C1 ga = some (.lst gs) := k1 _ _ gaH fun z => by
    rcases z with ⟨z, _⟩ | ⟨z, _⟩ | ⟨z, _⟩
    · exact (upd_none z).2 rfl
    · have := c.g
      rw [(upd_none z).1] at this
      cases this
    · exact some_of_none (s10.trans h.s11) (upd_none z).1 c.g
  have ba1 : C1 ba = some (.lst bs) := k1 _ _ baH fun z => by
    rcases z with ⟨_, xs, z, _⟩ | ⟨z, _⟩ | ⟨z, _⟩
    · rw [c.b0] at z
      cases z
    · exact (upd_none z).2 rfl
    · exact some_of_none (c.s10.trans h.s11) (upd_none z).1 c.b
  have hr1 : C1 hr = some (.lst cs) := k1 _ _ hr14 fun z => by
    rcases z with ⟨_, xs, z, _⟩ | ⟨_, xs, z, _⟩ | ⟨z, _⟩
    · exact some_of_none (s10.trans h.s11) h.r0 z
    · exact some_of_none (c.s10.trans h.s11) h.r0 z
    · exact (upd_none z).2 rfl
  have hw1 : C1 hw = some (.lst (ws.map V.str)) := k1 _ _ hw14 fun z => by
    rcases z with ⟨_, xs, z, _⟩ | ⟨_, xs, z, _⟩ | ⟨z, _⟩
    · exact some_of_none s10 h.w0 z
    · exact some_of_none c.s10 h.w0 z
    · have q := (upd_none z).1
      rw [h.w] at q
      cases q
  have ma1 : C1 ma = some (.lst zs) := k1 _ _ ma14 fun z => by
    rcases z with ⟨_, xs, z, _⟩ | ⟨_, xs, z, _⟩ | ⟨z, _⟩
    · exact some_of_none c.s9 c.m0 z
    · rw [c.m0] at z
      cases z
    · exact some_of_none h.s11 (upd_none z).1 c.m
  have ha2 : C2 ha = some (.lst [.ref hw, .ref hr, .ref ma]) := by
    refine k2 _ _ (k1 _ _ haH fun z => ?_) fun z => ?_
    · rcases z with ⟨_, xs, z, _⟩ | ⟨_, xs, z, _⟩ | ⟨_, xs, z, _⟩
      · exact some_of_none (s10.trans s12) h.a0 z
      · exact some_of_none (c.s10.trans s12) h.a0 z
      · rw [h.a0] at z
        cases z
    · have q := h.a0
      rcases z with z | z | z
      · rw [z] at q
        exact some_of_none h.s12 q h.w
      · rw [z, h.r] at q
        cases q
      · rw [z] at q
        exact some_of_none s12 q c.m
  have look2 : ∀ (H : Hp), Same H H14 → ∀ v l, LookAt H v l → LookAt C2 v l := fun H s v l hl => by
    obtain ⟨a, e, q⟩ := hl
    exact ⟨a, e, kind2 _ _ (s _ _ q) fun xs z => by cases z⟩
  have len1 : ∀ {H : Hp} {xs : List V} {g : List Look}, All2 (LookAt H) xs g → g.length ≤ 1000 → xs.length ≤ 1000 := fun k q => by rw [k.len]; exact q
  refine ⟨C1, C2, ⟨e1, e2, ga1, fun i v hv => ?_, ba1, fun i v hv => ?_, hr1, fun i v hv => ?_, ⟨_, hw1⟩, ⟨_, ma1⟩, n2 _ (.inl rfl), n2 _ (.inr (.inl rfl)), n2 _ (.inr (.inr rfl)), ha2, ?_, oldB _ _ b.w, RoomsAt.mono sBC ⟨ra, rxs, rfl, b.ra, b.rx⟩, RowsAt.mono sBC ⟨da, dxs, rfl, b.da, b.dx⟩⟩⟩
  · obtain ⟨d, ed, a, xs, rfl, q, k⟩ := c.gx.left hv
    obtain ⟨q1, q2⟩ := neu_some q
    have hl := len1 k (b.dr.d d (List.mem_of_getElem? ed)).2.2.1.1
    exact ⟨a, rfl, n1 _ (.inl ⟨q1, xs, q2, hl⟩), xs, s14 _ _ (s10 _ _ q2), hl⟩
  · obtain ⟨d, ed, a, rfl, q⟩ := c.bx.left hv
    obtain ⟨q1, q2⟩ := neu_some q
    have hl : (d.nt.map V.str).length ≤ 1000 := by
      rw [List.length_map]
      have := (b.dr.d d (List.mem_of_getElem? ed)).2.2.2.2.2.1
      omega
    exact ⟨a, rfl, n1 _ (.inr (.inl ⟨q1, _, q2, hl⟩)), _, s14 _ _ (c.s10 _ _ q2), hl⟩
  · obtain ⟨r, er, t, s, xs, rfl, q, u, k⟩ := h.rx.left hv
    obtain ⟨u1, u2⟩ := neu_some u
    have hl := len1 k (b.dr.r.2.2.1 r (List.mem_of_getElem? er)).2.1
    exact ⟨t, s, r.1, rfl, kind1 _ _ (m.s14 _ _ (h.s13 _ _ (neu_some q).2)) (fun xs z => by cases z), n1 _ (.inr (.inr ⟨u1, xs, u2, hl⟩)), xs, m.s14 _ _ (h.s13 _ _ u2), hl⟩
  · refine ⟨x, dx, wn, rn, sl, dl, ss, zs, rfl, kind2 _ _ m.x (fun xs z => (nomatch z)), newM _ _ m.w0 m.w, newM _ _ m.r0 m.r, newM _ _ m.l0 m.l, m.lx.mono fun v g ⟨a, xs, e, q, u, k⟩ => ⟨a, xs, e, newM _ _ q u, k.mono (look2 _ m.s14)⟩, newM _ _ m.d0 m.d, c.mx.mono fun v d ⟨xs, ⟨p, dd, lk, bk, e, q1, q2, q3⟩, k⟩ => ?_⟩
    exact ⟨xs, ⟨p, dd, lk, bk, e, newD _ _ q1, newD _ _ q2, newD _ _ q3⟩, k.mono (look2 _ sB)⟩
end Zw

/-! Zq: the law's own body. -/
namespace Zw
open PySem PySem.Spec PyProof.Rows L2
section
variable {P : Program} {w : World} {K : PySem.W.Frag} {mg : Str → Option Value} {base : Heap} {D M : Addr}
def spLaw (K : PySem.W.Frag) : Sp := fun vs H Q _ => ∃ (a : Addr) (ns : List Int), vs = [.ref a] ∧ SqL K H a (ns.map V.int) ∧ ns.length ≤ 63 ∧ ∀ H', Q (.bl true) H'
/-- a new instance -/
theorem SX.made {x dx : Addr} {H : Hp} {o u : HO} (nd : H dx = none) : SX x H (L2.upd (L2.upd H dx o) x u) := fun a v e n => by
  rw [upd_ne n, upd_ne (ne_of_none e nd)]
  exact e
/-- the spoilt lists stay lists -/
def Lsts (C H14 : Hp) (n : Nat) (H : Hp) : Prop := ∀ m, Spo C H14 m → ∃ xs, H m = some (.lst xs) ∧ xs.length ≤ 1000 + n
theorem Lsts.grow {C H14 H H' : Hp} {n : Nat} (h : Lsts C H14 n H) (s : Same H H') : Lsts C H14 n H' := fun m hm => by
  obtain ⟨xs, e, l⟩ := h m hm
  exact ⟨xs, s _ _ e, l⟩
theorem Lsts.put {C H14 H : Hp} {n : Nat} {m : Addr} {xs : List V} {v : V} (h : Lsts C H14 n H) (l : xs.length ≤ 1000 + n) : Lsts C H14 (n + 1) (upd H m (.lst (xs ++ [v]))) := fun m' hm => by
  by_cases e : m' = m
  · subst e
    exact ⟨_, upd_same, by rw [List.length_append]; simp only [List.length_cons, List.length_nil]; omega⟩
  · obtain ⟨ys, e2, l2⟩ := h m' hm
    exact ⟨ys, by rw [upd_ne e]; exact e2, by omega⟩
theorem law_ok (T : Txt K mg D M) {f : Addr} {fd : FuncData} (F : FnP K "law" "law" sLaw f fd) : FnOk P w K mg base CX0 8 f fd ["_law_script"] (spLaw K) := by
  have fNames : Def P w K mg base "_law_names" 1 _ _ := d_names T
  have fCell : Def P w K mg base "_law_cell_at" 1 _ _ := d_cell T
  have fRooms : Def P w K mg base "_law_rooms" 2 _ _ := d_rooms T
  have fDoors : Def P w K mg base "_law_doors" 3 _ _ := d_doors T
  have fDoor : Def P w K mg base "_law_door" 4 _ _ := d_door T
  have fTells : Def P w K mg base "_law_tells" 4 _ _ := d_tells T
  have fSpoil : Def P w K mg base "_law_spoil" 3 _ _ := d_spoil T
  obtain ⟨fm, fdm, MM, FM⟩ := T.mInit
  have GM : FnOk P w K mg base CX0 6 fm fdm ["self", "watches", "rooms", "doors"] (spMInit D M) := d_mInit T FM
  have bM : Binds K fdm ["self", "watches", "rooms", "doors"] [] := FM.bindsN fun _ _ _ _ _ _ us hl => match us, hl with | [_, _, _, _], _ => rfl
  have sc : FnScope lawN ["_law_script"] (defScope sLaw) := ⟨rfl, rfl, rfl, by decide +kernel, rfl, by decide +kernel, by decide +kernel⟩
  refine FnP.okN F sc (fun vs H Q E h => ?_) (fun cdv A outer s H vs Q E hr h => ?_)
  · obtain ⟨a, ns, rfl, _⟩ := h
    rfl
  · obtain ⟨sa, ns, rfl, hs, h63, k⟩ := h
    have cR : ∀ {X : Cx}, X.K = K → CallR X (.type "list") (fun xs H Q => ∃ p ys, xs = [.ref p] ∧ (SqL K H p ys ∨ SqT K H p ys) ∧ ∀ l, H l = none → Q (.ref l) (upd H l (.lst ys))) := fun {X} e => by
      rw [← e]
      exact call_list_of
    refine ⟨_, C8.pss_cut (ps_set (i := 1) sc.nd rfl (Or.inl rfl) (pe_def fNames hr (ha := pa_cons (pe_def fCell hr (ha := pa_cons (pv 0) (pa_cons pe_int pa_nil))) (pa_cons pe_int pa_nil))))
      (C8.pss_cut (ps_set (i := 2) sc.nd rfl (Or.inl rfl) (pe_ix ix_list (pe_lst (pa_cons pe_int (pa_cons pe_int pa_nil))) (pe_op op_mod (pe_op op_fdiv (pe_def fCell hr (ha := pa_cons (pv 0) (pa_cons pe_int pa_nil))) pe_int) pe_int) (fun _ _ => rfl)))
      (C8.pss_cut (ps_set (i := 3) sc.nd rfl (Or.inl rfl) (pe_slice sl_list (pv 1) (po_some (pv 2)) (po_some (pe_op op_add (pv 2) (pe_op op_mod (pe_op op_fdiv (pe_def fCell hr (ha := pa_cons (pv 0) (pa_cons pe_int pa_nil))) pe_int) pe_int)))))
      (C8.pss_cut (ps_if (pt_cmpR op_eq (pe_op op_mod (pe_op op_fdiv (pe_def fCell hr (ha := pa_cons (pv 0) (pa_cons pe_int pa_nil))) pe_int) pe_int) pe_int (nomark _))
          (pss_one (ps_set (i := 3) sc.nd rfl (Or.inl rfl) (pe_op op_cat (pe_op op_cat (pe_slice sl_list (pv 3) po_none (po_some pe_int)) (pe_lst (pa_cons pe_str pa_nil))) (pe_slice sl_list (pv 3) (po_some pe_int) po_none)))) pss_nil)
      (C8.pss_cut (ps_set (i := 4) sc.nd rfl (Or.inl rfl) (pe_op op_add pe_int (pe_op op_mod (pe_def fCell hr (ha := pa_cons (pv 0) (pa_cons pe_int pa_nil))) (pe_op op_pow pe_int pe_int))))
      (C8.pss_cut (ps_set (i := 5) sc.nd rfl (Or.inl rfl) (pe_def fRooms hr (ha := pa_cons (pv 0) (pa_cons (pv 1) (pa_cons (pv 3) (pa_cons (pv 4) pa_nil))))))
      (C8.pss_cut (ps_set (i := 6) sc.nd rfl (Or.inr rfl) (pe_def fDoors hr (ha := pa_cons (pv 0) (pa_cons (pv 5) (pa_cons (pv 3) (pa_cons (pv 4) pa_nil))))))
      -- guards, backs, made
      (C8.pss_cut (ps_set (i := 7) sc.nd rfl (Or.inr rfl) (pe_lc (own := [("_law_one", 15)]) (g := gName 15) (tt := tYes) rfl sc.nd (pi_list (pv 6)) (blkOk_by (N := lawN) (sc := defScope sLaw) (by decide +kernel)) (fun _ _ _ _ _ => pg_name (i := 15) sc.nd rfl (Or.inl rfl)) (fun _ _ _ _ _ => pts_nil)
          (fun _ _ _ _ _ => pe_callTy (cR rfl) (by rfl) T.list boot_Tlist (pa_cons (pe_ix (r := rIxT K) ix_tup (pv 15) pe_int (fun _ _ => rfl)) pa_nil))))
      (C8.pss_cut (ps_set (i := 8) sc.nd rfl (Or.inr rfl) (pe_lc (own := [("_law_one", 15)]) (g := gName 15) (tt := tYes) rfl sc.nd (pi_list (pv 6)) (blkOk_by (N := lawN) (sc := defScope sLaw) (by decide +kernel)) (fun _ _ _ _ _ => pg_name (i := 15) sc.nd rfl (Or.inl rfl)) (fun _ _ _ _ _ => pts_nil)
          (fun _ _ _ _ _ => pe_callTy (cR rfl) (by rfl) T.list boot_Tlist (pa_cons (pe_ix (r := rIxT K) ix_tup (pv 15) pe_int (fun _ _ => rfl)) pa_nil))))
      (C8.pss_cut (ps_setLc (i := 10) (own := [("_law_k", 9)]) (g := gName 9) (tt := tYes) rfl sc.nd rfl rfl (sw_true rfl rfl rfl (by decide +kernel)) (pi_range1 (by rfl) T.range (pa_cons (pe_callB call_len_seq (by rfl) T.len PySem.boot_len (pa_cons (pv 6) pa_nil)) pa_nil)) (blkOk_by (N := lawN) (sc := defScope sLaw) (by decide +kernel)) (fun _ _ _ _ _ => pg_name (i := 9) sc.nd rfl (Or.inl rfl)) (fun _ _ _ _ _ => pts_nil)
          (fun _ _ _ _ _ => pe_def fDoor hr (ha := pa_cons (pe_ix (r := rIxL K) ix_list (pv 6) (pv 9) (fun _ _ => rfl)) (pa_cons (pe_ix (r := rIxL K) ix_list (pv 7) (pv 9) (fun _ _ => rfl)) (pa_cons (pe_ix (r := rIxL K) ix_list (pv 8) (pv 9) (fun _ _ => rfl)) pa_nil)))))
      -- handed, machine
      (C8.pss_cut (ps_set (i := 13) sc.nd rfl (Or.inl rfl) (pe_lst (pa_cons (pe_callTy call_list_of (by rfl) T.list boot_Tlist (pa_cons (pv 3) pa_nil))
          (pa_cons (pe_lc (own := [("_law_name", 11), ("_law_stay", 12)]) (g := gTup K 2 (gCons (gName 11) (gCons (gName 12) gNil))) (tt := tYes) rfl sc.nd (pi_list (pv 5)) (blkOk_by (N := lawN) (sc := defScope sLaw) (by decide +kernel)) (fun _ _ _ _ _ => pg_tup rfl (pgs_cons (pg_name (i := 11) sc.nd rfl (Or.inl rfl)) (pgs_cons (pg_name (i := 12) sc.nd rfl (Or.inl rfl)) pgs_nil))) (fun _ _ _ _ _ => pts_nil)
            (fun _ _ _ _ _ => pe_tup (pa_cons (pv 11) (pa_cons (pe_callTy (cR rfl) (by rfl) T.list boot_Tlist (pa_cons (pv 12) pa_nil)) pa_nil))))
          (pa_cons (pv 10) pa_nil)))))
      (C8.pss_cut (ps_set (i := 14) sc.nd rfl (Or.inl rfl) (pe_make MM GM hr rfl T.gM bM .nil pass0 (pa_cons (pe_ix ix_list (pv 13) pe_int (fun _ _ => rfl)) (pa_cons (pe_ix ix_list (pv 13) pe_int (fun _ _ => rfl)) (pa_cons (pe_ix ix_list (pv 13) pe_int (fun _ _ => rfl)) pa_nil)))))
      -- what was handed in stands; what is told
      (C8.pss_cut (ps_if (PW.pt (pw_or (pt_cmpR (op_neD hr.units) (pe_ix ix_list (pv 13) pe_int (fun _ _ => rfl)) (pv 3) (nomark _)) (pw_or (pt_cmpR (op_neD hr.units) (pe_ix ix_list (pv 13) pe_int (fun _ _ => rfl)) (pv 5) (nomark _))
          (pw_or1 (pt_cmpR (op_neD hr.units) (pv 7) (pe_lc (own := [("_law_one", 15)]) (g := gName 15) (tt := tYes) rfl sc.nd (pi_list (pv 6)) (blkOk_by (N := lawN) (sc := defScope sLaw) (by decide +kernel)) (fun _ _ _ _ _ => pg_name (i := 15) sc.nd rfl (Or.inl rfl)) (fun _ _ _ _ _ => pts_nil)
            (fun _ _ _ _ _ => pe_ix (r := rIxT K) ix_tup (pv 15) pe_int (fun _ _ => rfl))) (nomark _)))))) (pss_one (ps_ret pe_bl)) pss_nil)
      (C8.pss_cut (ps_if (PW.pt (pw_or (pt_cmpR (op_neD hr.units) (pv 8) (pe_lc (own := [("_law_one", 15)]) (g := gName 15) (tt := tYes) rfl sc.nd (pi_list (pv 6)) (blkOk_by (N := lawN) (sc := defScope sLaw) (by decide +kernel)) (fun _ _ _ _ _ => pg_name (i := 15) sc.nd rfl (Or.inl rfl)) (fun _ _ _ _ _ => pts_nil)
            (fun _ _ _ _ _ => pe_ix (r := rIxT K) ix_tup (pv 15) pe_int (fun _ _ => rfl))) (nomark _))
          (pw_or1 (pt_not (pt_val (pe_def fTells hr (ha := pa_cons (pv 14) (pa_cons (pv 3) (pa_cons (pv 5) (pa_cons (pv 6) pa_nil)))))))))) (pss_one (ps_ret pe_bl)) pss_nil)
      -- spoilt behind
      (C8.pss_cut (ps_for PassesOwn.never rfl (pi_range1 (by rfl) T.range (pa_cons (pe_callB call_len_seq (by rfl) T.len PySem.boot_len (pa_cons (pv 6) pa_nil)) pa_nil)) (pg_name (i := 9) sc.nd rfl (Or.inl rfl))
          (pss_cons (ps_expr (pe_bm PySem.F.plainAttrs_list PySem.F.slot_list_append PySem.F.type_list_append mt_append (pe_ix ix_list (pv 7) (pv 9) (fun _ _ => rfl)) (pa_cons (pe_tup (pa_cons pe_str (pa_cons pe_str (pa_cons pe_int pa_nil)))) pa_nil)))
          (pss_one (ps_expr (pe_bm PySem.F.plainAttrs_list PySem.F.slot_list_append PySem.F.type_list_append mt_append (pe_ix ix_list (pv 8) (pv 9) (fun _ _ => rfl)) (pa_cons pe_str pa_nil))))))
      (C8.pss_cut (ps_for PassesOwn.never rfl (pi_list (pe_ix ix_list (pv 13) pe_int (fun _ _ => rfl))) (pg_tup rfl (pgs_cons (pg_name (i := 11) sc.nd rfl (Or.inl rfl)) (pgs_cons (pg_name (i := 12) sc.nd rfl (Or.inl rfl)) pgs_nil)))
          (pss_one (ps_expr (pe_bm PySem.F.plainAttrs_list PySem.F.slot_list_append PySem.F.type_list_append mt_append (pv 12) (pa_cons (pe_tup (pa_cons pe_str (pa_cons pe_str (pa_cons pe_int pa_nil)))) pa_nil)))))
      (C8.pss_cut (ps_for PassesOwn.never rfl (pi_range1 (by rfl) T.range (pa_cons pe_int pa_nil)) (pg_name (i := 9) sc.nd rfl (Or.inl rfl))
          (pss_one (ps_expr (pe_bm0 PySem.F.plainAttrs_list PySem.F.slot_list_clear PySem.F.type_list_clear mt_clear (pe_ix ix_list (pv 13) (pv 9) (fun _ _ => rfl))))))
      (C8.pss_cut (ps_expr (pe_def fSpoil hr (ha := pa_cons (pv 14) (pa_cons (pv 5) pa_nil))))
      (pss_one (ps_ret (pe_def fTells hr (ha := pa_cons (pv 14) (pa_cons (pv 3) (pa_cons (pv 5) (pa_cons (pv 6) pa_nil)))))))))))))))))))))))), ?_⟩
    -- the names
    refine ⟨fun σ' H1 => ∃ (na : Addr) (nms : List Str), σ' = [some (.ref sa), some (.ref na), none, none, none, none, none, none, none, none, none, none, none, none, none, none] ∧ Same H H1 ∧ H1 na = some (.lst (nms.map V.str)) ∧ nms.length = 72 ∧ NamesOk nms, ?_, ?_⟩
    · exact ⟨_, rfl, sa, ns, 1, rfl, hs, by decide, fun c => ⟨c, rfl, fun H1 na nms s1 hna hl hok => ⟨na, nms, rfl, s1, (neu_some hna).2, hl, hok⟩⟩⟩
    rintro σ' H1 ⟨na, nms, rfl, s1, hna, h72, hok⟩
    -- the first
    refine ⟨fun σ' H2 => ∃ fi : Int, (0 ≤ fi ∧ fi ≤ 64) ∧ σ' = [some (.ref sa), some (.ref na), some (.int fi), none, none, none, none, none, none, none, none, none, none, none, none, none] ∧ Same H1 H2, ?_, ?_⟩
    · refine ⟨(by show 2 ≤ sizeLine; decide), fun q hq => ?_⟩
      have sq : Same H1 (upd H1 q (.lst (([64, 0] : List Int).map V.int))) := Same.new hq
      refine ⟨_, rfl, sa, ns, 0, rfl, (s1.trans sq).seq hs, by decide, fun c => ?_⟩
      have z0 := Int.emod_nonneg (c / 224) (show (2 : Int) ≠ 0 by decide)
      have z1 := Int.emod_lt_of_pos (c / 224) (show (0 : Int) < 2 by decide)
      obtain ⟨fi, hfi⟩ := get_lt (xs := ([64, 0] : List Int)) (i := (c / 224 % 2).toNat) (by show (c / 224 % 2).toNat < 2; omega)
      have hf : 0 ≤ fi ∧ fi ≤ 64 := by
        have := List.mem_of_getElem? hfi
        simp only [List.mem_cons, List.not_mem_nil, or_false] at this
        omega
      exact ⟨_, _, rfl, rfl, ⟨by decide, by decide⟩, _, _, rfl, rfl, (by show (0 : Int) < 2; decide), q, ([64, 0] : List Int).map V.int, _, .int fi, rfl, rfl, SqL.of upd_same, at_int z0 (get_map_of hfi), fi, hf, rfl, sq⟩
    rintro σ' H2 ⟨fi, ⟨f0, f1⟩, rfl, s2⟩
    -- the watches
    refine ⟨fun σ' H3 => ∃ (wa : Addr) (ws : List Str), σ' = [some (.ref sa), some (.ref na), some (.int fi), some (.ref wa), none, none, none, none, none, none, none, none, none, none, none, none] ∧ Same H2 H3 ∧ H3 wa = some (.lst (ws.map V.str)) ∧ ws.Sublist nms ∧ ws.length ≤ 6, ?_, ?_⟩
    · refine ⟨_, rfl, _, rfl, _, rfl, _, rfl, _, rfl, sa, ns, 0, rfl, (s1.trans s2).seq hs, by decide, fun c => ?_⟩
      have z0 := Int.emod_nonneg (c / 8) (show (7 : Int) ≠ 0 by decide)
      have z1 := Int.emod_lt_of_pos (c / 8) (show (0 : Int) < 7 by decide)
      refine ⟨_, _, rfl, rfl, ⟨by decide, by decide⟩, _, _, rfl, rfl, (by show (0 : Int) < 7; decide), _, _, rfl, rfl, _, rfl, na, _, rfl, SqL.of (s2 _ _ hna), fun wa hwa => ⟨wa, (nms.drop (min fi.toNat nms.length)).take (min (fi + c / 8 % 7).toNat nms.length - min fi.toNat nms.length), rfl, Same.new hwa, ?_, (List.take_sublist _ _).trans (List.drop_sublist _ _), ?_⟩⟩
      · rw [cut_mid f0 (by omega), List.length_map, upd_same, List.map_take, List.map_drop]
      · rw [List.length_take]
        omega
    rintro σ' H3 ⟨wa0, ws0, rfl, s3, hwa0, hsub, h6⟩
    obtain ⟨ok0, ok1⟩ := watches_ok hok hsub h6
    have s03 := (s1.trans s2).trans s3
    refine ⟨fun σ' H4 => ∃ (wa : Addr) (ws : List Str), σ' = [some (.ref sa), some (.ref na), some (.int fi), some (.ref wa), none, none, none, none, none, none, none, none, none, none, none, none] ∧ Same H3 H4 ∧ H4 wa = some (.lst (ws.map V.str)) ∧ WatchesOk ws, ?_, ?_⟩
    · refine ⟨_, rfl, sa, ns, 0, rfl, s03.seq hs, by decide, fun c => ⟨_, _, rfl, rfl, ⟨by decide, by decide⟩, _, _, rfl, rfl, (by show (0 : Int) < 4; decide), rfl, _, rfl, iteD (fun _ => ?_) fun _ => ⟨wa0, ws0, rfl, Same.refl _, hwa0, ok0⟩⟩⟩
      have c3 : cutV (ws0.map V.str) none (some 3) = (ws0.take 3).map V.str := by
        rw [cut_to (by decide), List.map_take]
        rfl
      have c4 : cutV (ws0.map V.str) (some 3) none = (ws0.drop 3).map V.str := by
        rw [cut_from (by decide), List.map_drop]
        rfl
      have l3 : ((ws0.take 3).map V.str).length ≤ 6 := by rw [List.length_map, List.length_take]; omega
      have l4 : ((ws0.drop 3).map V.str).length ≤ 6 := by rw [List.length_map, List.length_drop]; omega
      refine ⟨_, rfl, _, rfl, wa0, _, rfl, SqL.of hwa0, ?_⟩
      rw [c3]
      refine fun q1 hq1 => ⟨(by show 1 ≤ sizeLine; decide), fun q2 hq2 => ?_⟩
      have n12 : q1 ≠ q2 := fun e => by rw [← e, upd_same] at hq2; cases hq2
      have sq := (Same.new (o := .lst ((ws0.take 3).map V.str)) hq1).trans (Same.new (o := .lst ([slash].map V.str)) hq2)
      refine ⟨q1, q2, _, [slash].map V.str, rfl, rfl, by rw [upd_ne n12, upd_same], upd_same, by rw [sizeLine_eq]; simp only [List.length_map, List.length_cons, List.length_nil] at *; omega, fun q3 hq3 => ?_⟩
      have sq3 := sq.trans (Same.new (o := .lst ((ws0.take 3).map V.str ++ [slash].map V.str)) hq3)
      refine ⟨_, rfl, _, rfl, wa0, _, rfl, SqL.of (sq3 _ _ hwa0), fun q4 hq4 => ?_⟩
      have n34 : q3 ≠ q4 := fun e => by rw [← e, upd_same] at hq4; cases hq4
      have sq4 := sq3.trans (Same.new (o := .lst (cutV (ws0.map V.str) (some 3) none)) hq4)
      refine ⟨q3, q4, _, _, rfl, rfl, by rw [upd_ne n34, upd_same], upd_same, by rw [c4, List.length_append, sizeLine_eq]; simp only [List.length_map, List.length_cons, List.length_nil] at *; omega, fun q5 hq5 => ?_⟩
      exact ⟨q5, ws0.take 3 ++ [slash] ++ ws0.drop 3, rfl, sq4.trans (Same.new hq5), by rw [upd_same, c4, List.map_append, List.map_append], ok1⟩
    rintro σ' H4 ⟨wa, ws, rfl, s4, hwa, hws⟩
    have s04 := s03.trans s4
    have okw : ∀ s, s ∈ ws → OkS s := fun s h => (hws.2.1 s h).ok
    -- the unit
    refine ⟨fun σ' H5 => ∃ unit : Int, 0 ≤ unit ∧ σ' = [some (.ref sa), some (.ref na), some (.int fi), some (.ref wa), some (.int unit), none, none, none, none, none, none, none, none, none, none, none] ∧ H5 = H4, ?_, ?_⟩
    · refine ⟨_, rfl, sa, ns, 14, rfl, s04.seq hs, by decide, fun c => ?_⟩
      have hpow : (0 : Int) < 10 ^ (40 : Int).toNat := by decide
      have z0 := Int.emod_nonneg c (show (10 : Int) ^ (40 : Int).toNat ≠ 0 by decide)
      exact ⟨_, _, rfl, rfl, ⟨by decide, by decide, by decide⟩, _, _, rfl, rfl, hpow, _, _, rfl, rfl, _, Int.add_nonneg (by decide) z0, rfl, rfl⟩
    rintro σ' H5 ⟨unit, u0, rfl, rfl⟩
    -- the rooms
    refine ⟨fun σ' H6 => ∃ (ra : Addr) (rxs : List V) (rs : List RoomD), σ' = [some (.ref sa), some (.ref na), some (.int fi), some (.ref wa), some (.int unit), some (.ref ra), none, none, none, none, none, none, none, none, none, none] ∧ Same H5 H6 ∧ H6 ra = some (.lst rxs) ∧ All2 (RoomAt H6) rxs rs ∧ RoomsOk ws rs, ?_, ?_⟩
    · refine ⟨_, rfl, _, rfl, _, rfl, _, rfl, sa, na, wa, unit, ns, nms, ws, rfl, s04.seq hs, SqL.of ((s2.trans (s3.trans s4)) _ _ hna), h72, hok, SqL.of hwa, okw, u0, fun H6 v rs s6 hR hro => ?_⟩
      obtain ⟨ra, rxs, rfl, h1, h2⟩ := hR
      exact ⟨ra, rxs, rs, rfl, s6, (neu_some h1).2, h2.mono fun _ _ r => r.mono (neu_same _ _), hro⟩
    rintro σ' H6 ⟨ra, rxs, rs, rfl, s6, hra, hrx, hrs⟩
    have s06 := s04.trans s6
    -- the doors
    refine ⟨fun σ' B => ∃ (da : Addr) (dxs : List V) (ds : List DoorD), σ' = [some (.ref sa), some (.ref na), some (.int fi), some (.ref wa), some (.int unit), some (.ref ra), some (.ref da), none, none, none, none, none, none, none, none, none] ∧ Bas K B sa wa ra da ns ws rs ds rxs dxs, ?_, ?_⟩
    · refine ⟨_, rfl, _, rfl, _, rfl, _, rfl, sa, wa, .ref ra, unit, ns, rs, ws, rfl, s06.seq hs, ⟨ra, rxs, rfl, hra, hrx⟩, hrs, SqL.of (s6 _ _ hwa), hws, u0, fun B v ds s7 hR h200 hds => ?_⟩
      obtain ⟨da, dxs, rfl, h1, h2⟩ := hR
      exact ⟨da, dxs, ds, rfl, ⟨hws, hrs, hds, h200⟩, (s06.trans s7).seq hs, s7 _ _ (s6 _ _ hwa), s7 _ _ hra, hrx.mono fun _ _ r => r.mono s7, (neu_some h1).2, h2.mono fun _ _ r => r.mono (neu_same _ _)⟩
    rintro σ' B ⟨da, dxs, ds, rfl, b⟩
    have h200 := b.dr.n
    have hdl := b.dx.len
    -- guards
    refine ⟨fun σ' H8 => ∃ (ga : Addr) (gs : List V), σ' = [some (.ref sa), some (.ref na), some (.int fi), some (.ref wa), some (.int unit), some (.ref ra), some (.ref da), some (.ref ga), none, none, none, none, none, none, none, none] ∧ Same B H8 ∧ B ga = none ∧ H8 ga = some (.lst gs) ∧ All2 (RG B (neu (upd B ga (.lst [])) H8)) gs ds, ?_, ?_⟩
    · refine ⟨_, rfl, da, rfl, ⟨_, SqL.of b.da⟩, fun ga hga => lc_list (K := K) (a := da) (xs := dxs) (PvX B ga (RG B) fun j d => ds[j]? = some d) (PvX.start hga) (fun i H' _ v => v.same.seq (SqL.of b.da)) (fun i x H' hi v => ?_) fun H8 v => ?_⟩
      · obtain ⟨d, ed, t, g, bb, rfl, ht, ⟨l, lxs, rfl, hl, hlx⟩, _⟩ := b.dx.left hi
        refine ⟨rfl, inYes (iteT ⟨_, rfl, t, _, _, .ref l, rfl, rfl, SqT.of (v.same _ _ ht), atI_nat (j := 2) rfl, l, lxs, rfl, .inl (SqL.of (v.same _ _ hl)), fun q hq => ?_⟩)⟩
        exact v.next RG.mono (Same.new hq) ⟨q, lxs, rfl, neu_new hq, hlx⟩ ed (by have := lt_get ed; omega)
      · obtain ⟨gs, ys, hD, hx, hl, hg⟩ := v.acc
        have ey : ys = ds := list_eq (by rw [hl, hdl]) hg
        subst ey
        exact ⟨ga, gs, rfl, v.same, hga, hD, hx⟩
    rintro σ' H8 ⟨ga, gs, rfl, s8, hga0, hga, hgx⟩
    -- backs
    refine ⟨fun σ' H9 => ∃ (ba : Addr) (bs : List V), σ' = [some (.ref sa), some (.ref na), some (.int fi), some (.ref wa), some (.int unit), some (.ref ra), some (.ref da), some (.ref ga), some (.ref ba), none, none, none, none, none, none, none] ∧ Same H8 H9 ∧ H8 ba = none ∧ H9 ba = some (.lst bs) ∧ All2 (RB (neu (upd H8 ba (.lst [])) H9)) bs ds, ?_, ?_⟩
    · refine ⟨_, rfl, da, rfl, ⟨_, SqL.of (s8 _ _ b.da)⟩, fun ba hba => lc_list (K := K) (a := da) (xs := dxs) (PvX H8 ba RB fun j d => ds[j]? = some d) (PvX.start hba) (fun i H' _ v => v.same.seq (SqL.of (s8 _ _ b.da))) (fun i x H' hi v => ?_) fun H9 v => ?_⟩
      · obtain ⟨d, ed, t, g, bb, rfl, ht, _, l, rfl, hl⟩ := b.dx.left hi
        refine ⟨rfl, inYes (iteT ⟨_, rfl, t, _, _, .ref l, rfl, rfl, SqT.of (v.same _ _ (s8 _ _ ht)), atI_nat (j := 3) rfl, l, _, rfl, .inl (SqL.of (v.same _ _ (s8 _ _ hl))), fun q hq => ?_⟩)⟩
        exact v.next RB.mono (Same.new hq) ⟨q, rfl, neu_new hq⟩ ed (by have := lt_get ed; omega)
      · obtain ⟨bs, ys, hD, hx, hl, hg⟩ := v.acc
        have ey : ys = ds := list_eq (by rw [hl, hdl]) hg
        subst ey
        exact ⟨ba, bs, rfl, v.same, hba, hD, hx⟩
    rintro σ' H9 ⟨ba, bs, rfl, s9, hba0, hba, hbx⟩
    have s89 := s8.trans s9
    -- made
    refine ⟨fun σ' H10 => ∃ (ma : Addr) (zs : List V), σ' = [some (.ref sa), some (.ref na), some (.int fi), some (.ref wa), some (.int unit), some (.ref ra), some (.ref da), some (.ref ga), some (.ref ba), none, some (.ref ma), none, none, none, none, none] ∧ Cop D B H8 H9 H10 ga ba ma ds gs bs zs, ?_, ?_⟩
    · refine ⟨_, rfl, da, dxs, rfl, .inl (SqL.of (s89 _ _ b.da)), ((dxs.length : Nat) : Int), rfl, by omega, by omega, fun ma hma => lc_range (lo := 0) (n := ((dxs.length : Nat) : Int).toNat) (PvX H9 ma (RD D B) fun j d => ds[j]? = some d) (PvX.start hma) (fun i H' hi v => ?_) fun H10 v => ?_⟩
      · have hil : i < dxs.length := by omega
        obtain ⟨x, hx⟩ := get_lt hil
        obtain ⟨d, ed, t, gv, bv, rfl, ht, _, _⟩ := b.dx.left hx
        obtain ⟨gx, egx, g, gxs, rfl, hg, hgl⟩ := hgx.right ed
        obtain ⟨bx, ebx, l, rfl, hl⟩ := hbx.right ed
        have sH := s89.trans v.same
        have hg' := v.same _ _ (s9 _ _ (neu_some hg).2)
        have hl' := v.same _ _ (neu_some hl).2
        refine ⟨rfl, inYes (iteT ⟨_, rfl, _, rfl, da, _, _, .ref t, rfl, rfl, SqL.of (sH _ _ b.da), at_of (j := i) (by omega) hx, _, rfl, _, rfl, ga, _, _, .ref g, rfl, rfl, SqL.of (v.same _ _ (s9 _ _ hga)), at_of (j := i) (by omega) egx, _, rfl, _, rfl, ba, _, _, .ref l, rfl, rfl, SqL.of (v.same _ _ hba), at_of (j := i) (by omega) ebx, t, g, l, d.st, d.en, d.sg, gv, bv, gxs, _, rfl, sH _ _ ht, hg', hl', fun H2 v2 s2 hraw => ?_⟩)⟩
        exact v.next RD.mono s2 ⟨gxs, hraw, hgl⟩ ed (by have := lt_get ed; omega)
      · obtain ⟨zs, ys, hD, hx, hl, hg⟩ := v.acc
        have ey : ys = ds := list_eq (by rw [hl]; omega) hg
        subst ey
        exact ⟨ma, zs, rfl, s8, s9, v.same, hga0, hga, hgx, hba0, hba, hbx, hma, hD, hx⟩
    rintro σ' H10 ⟨ma, zs, rfl, c⟩
    have sB10 := s89.trans c.s10
    -- handed
    refine ⟨fun σ' H13 => ∃ (hw hr ha : Addr) (cs : List V) (H11 H12 : Hp), σ' = [some (.ref sa), some (.ref na), some (.int fi), some (.ref wa), some (.int unit), some (.ref ra), some (.ref da), some (.ref ga), some (.ref ba), none, some (.ref ma), none, none, some (.ref ha), none, none] ∧ Hnd B H10 H11 H12 H13 hw hr ma ha ws rs cs, ?_, ?_⟩
    · refine ⟨_, rfl, wa, _, rfl, .inl (SqL.of (sB10 _ _ b.w)), fun hw hhw => ?_⟩
      have s11 : Same H10 (upd H10 hw (.lst (ws.map V.str))) := Same.new hhw
      have sB11 := sB10.trans s11
      refine ⟨_, rfl, ra, rfl, ⟨_, SqL.of (sB11 _ _ b.ra)⟩, fun hr hhr => lc_list (K := K) (a := ra) (xs := rxs) (PvX (upd H10 hw (.lst (ws.map V.str))) hr (RC B) fun j r => rs[j]? = some r) (PvX.start hhr) (fun i H' _ v => v.same.seq (SqL.of (sB11 _ _ b.ra))) (fun i x H' hi v => ?_) fun H12 v => ?_⟩
      · obtain ⟨r, er, t, g, rfl, ht, l, lxs, rfl, hl, hlx⟩ := b.rx.left hi
        have sH := sB11.trans v.same
        refine ⟨t, _, rfl, SqT.of (sH _ _ ht), rfl, _, _, rfl, _, _, rfl, rfl, rfl, inYes (iteT ⟨_, rfl, _, rfl, l, lxs, rfl, .inl (SqL.of (sH _ _ hl)), fun q hq => ⟨(by show 2 ≤ sizeLine; decide), fun t2 ht2 => ?_⟩⟩)⟩
        have nq : q ≠ t2 := fun e => by rw [← e, upd_same] at ht2; cases ht2
        have sq : Same H' (upd H' q (.lst lxs)) := Same.new hq
        exact v.next RC.mono (sq.trans (Same.new ht2)) ⟨t2, q, lxs, rfl, by rw [neu_at (sq.free ht2), upd_same], by rw [neu_at hq, upd_ne nq, upd_same], hlx⟩ er (by have := lt_get er; have := hrs.2.1; omega)
      · obtain ⟨cs, ys, hD, hx, hl, hg⟩ := v.acc
        have ey : ys = rs := list_eq (by rw [hl, b.rx.len]) hg
        subst ey
        refine ⟨_, rfl, (by show 3 ≤ sizeLine; decide), fun ha hha => ⟨hw, hr, ha, cs, _, H12, rfl, s11, v.same, Same.new hha, hhw, upd_same, hhr, hD, hx, hha, upd_same⟩⟩
    rintro σ' H13 ⟨hw, hr, ha, cs, H11, H12, rfl, h⟩
    have s10_12 := h.s11.trans h.s12
    have sB13 := sB10.trans (s10_12.trans h.s13)
    have s10_13 := s10_12.trans h.s13
    have hhw := h.s13 _ _ (h.s12 _ _ h.w)
    have hhr := h.s13 _ _ h.r
    have hma := s10_13 _ _ c.m
    have hha : SqL K H13 ha _ := SqL.of h.a
    -- the machine
    refine ⟨fun σ' H14 => ∃ (x dx wn rn sl dl : Addr) (ss : List V), σ' = [some (.ref sa), some (.ref na), some (.int fi), some (.ref wa), some (.int unit), some (.ref ra), some (.ref da), some (.ref ga), some (.ref ba), none, some (.ref ma), none, none, some (.ref ha), some (.ref x), none] ∧ Mac M H13 H14 x dx wn rn sl dl ws rs ss zs, ?_, ?_⟩
    · refine ⟨_, rfl, ha, _, _, .ref hw, rfl, rfl, hha, atI_nat (j := 0) rfl, _, rfl, ha, _, _, .ref hr, rfl, rfl, hha, atI_nat (j := 1) rfl, _, rfl, ha, _, _, .ref ma, rfl, rfl, hha, atI_nat (j := 2) rfl, fun x dx nx nd ne => ?_⟩
      have old : Same H13 (upd (upd H13 dx (.own x)) x (.ins M dx [])) := fun a o e => by
        rw [upd_ne (ne_of_none e nx), upd_ne (ne_of_none e nd)]
        exact e
      have free : ∀ a, (upd (upd H13 dx (.own x)) x (.ins M dx [])) a = none → H13 a = none := fun a e => old.free e
      have sBm := sB13.trans old
      refine ⟨x, hw, hr, ma, dx, ws, rs, ds, cs, zs, rfl, upd_same, old _ _ hhw, old _ _ hhr, ?_, old _ _ hma, ?_, hws, hrs, b.dr.d, h200, fun H14 wn rn sl dl ss kx hx h1 h2 h3 h4 h5 => ⟨rfl, ?_⟩⟩
      · exact h.rx.mono fun v r ⟨t, s, xs, e, q1, q2, q3⟩ => ⟨t, .ref s, e, old _ _ (h.s13 _ _ (neu_some q1).2), s, xs, rfl, old _ _ (h.s13 _ _ (neu_some q2).2), q3.mono fun _ _ r => r.mono sBm⟩
      · exact c.mx.mono fun v d ⟨xs, q, k⟩ => ⟨xs, q.mono ((neu_same _ _).trans (s10_13.trans old)), k.mono fun _ _ r => r.mono sBm⟩
      · refine ⟨x, dx, wn, rn, sl, dl, ss, rfl, Same.made nx nd kx, nx, hx, free _ (neu_some h1).1, (neu_some h1).2, free _ (neu_some h2).1, (neu_some h2).2, free _ (neu_some h3).1, (neu_some h3).2, h4.mono fun v g ⟨a, xs, e, q, k⟩ => ⟨a, xs, e, free _ (neu_some q).1, (neu_some q).2, k.mono fun u l ⟨t, et, ht⟩ => ⟨t, et, ?_⟩⟩, free _ (neu_some h5).1, (neu_some h5).2⟩
        have ntx : t ≠ x := fun z => by rw [z, upd_same] at ht; cases ht
        have ntd : t ≠ dx := fun z => by rw [upd_ne ntx, z, upd_same] at ht; cases ht
        rw [upd_ne ntx, upd_ne ntd] at ht
        exact ht
    rintro σ' H14 ⟨x, dx, wn, rn, sl, dl, ss, rfl, m⟩
    obtain ⟨C1, C2, cc⟩ := core b c h m
    have sB14 := sB13.trans m.s14
    have s21 := cc.s2
    have s214 := s21.trans cc.s1
    have okrooms := ok_rooms okw hrs
    have okg : ∀ g, g ∈ ds.map DoorD.gd → ∀ l, l ∈ g → OkL l := fun g hg => by
      obtain ⟨d, hd, rfl⟩ := List.mem_map.mp hg
      exact okL_of okw wAll_ok (b.dr.d d hd).2.2.1
    have okn : ∀ g, g ∈ ds.map DoorD.nt → ∀ s, s ∈ g → OkS s := fun g hg => by
      obtain ⟨d, hd, rfl⟩ := List.mem_map.mp hg
      exact fun s hs => okw s ((b.dr.d d hd).2.2.2.1 s hs)
    have cw := can_strs okw
    have cr := can_rooms okrooms
    have cg := can_guards okg
    have cb := can_strss okn
    have ha14 := m.s14 _ _ h.a
    have hw14 := m.s14 _ _ hhw
    have hr14 := m.s14 _ _ hhr
    have hhaL : ∀ {H' : Hp}, Same H14 H' → SqL K H' ha [.ref hw, .ref hr, .ref ma] := fun s => s.seq (SqL.of ha14)
    have s8_14 : Same H8 H14 := (s9.trans c.s10).trans (s10_13.trans m.s14)
    have s9_14 : Same H9 H14 := c.s10.trans (s10_13.trans m.s14)
    -- handed[0] != watches or handed[1] != rooms_here or guards != [..]
    refine ⟨fun σ' H15 => σ' = [some (.ref sa), some (.ref na), some (.int fi), some (.ref wa), some (.int unit), some (.ref ra), some (.ref da), some (.ref ga), some (.ref ba), none, some (.ref ma), none, none, some (.ref ha), some (.ref x), none] ∧ Same H14 H15, ?_, ?_⟩
    · refine ⟨_, rfl, ha, _, _, .ref hw, rfl, rfl, hhaL (Same.refl _), atI_nat (j := 0) rfl, _, rfl, dStrs ws, dStrs ws, dp_strs (SqL.of hw14), dp_strs (SqL.of (sB14 _ _ b.w)), shaped_of cw (Nat.le_trans (dep_strs _) (by decide)), shaped_of cw (Nat.le_trans (dep_strs _) (by decide)), false, neq_false cw, iteF ?_⟩
      have dpr : Dp K H14 (.ref hr) (dRooms rs) := RoomsAt.dp ⟨hr, cs, rfl, hr14, h.rx.mono fun v r ⟨t, s, xs, e, q1, q2, q3⟩ => ⟨t, .ref s, e, m.s14 _ _ (h.s13 _ _ (neu_some q1).2), s, xs, rfl, m.s14 _ _ (h.s13 _ _ (neu_some q2).2), q3.mono fun _ _ r => r.mono sB14⟩⟩
      have dpr2 : Dp K H14 (.ref ra) (dRooms rs) := RoomsAt.dp ⟨ra, rxs, rfl, sB14 _ _ b.ra, b.rx.mono fun _ _ r => r.mono sB14⟩
      refine ⟨_, rfl, ha, _, _, .ref hr, rfl, rfl, hhaL (Same.refl _), atI_nat (j := 1) rfl, _, rfl, dRooms rs, dRooms rs, dpr, dpr2, shaped_of cr (Nat.le_trans (dep_rooms _) (by decide)), shaped_of cr (Nat.le_trans (dep_rooms _) (by decide)), false, neq_false cr, iteF ?_⟩
      refine ⟨_, rfl, _, rfl, da, rfl, ⟨_, SqL.of (sB14 _ _ b.da)⟩, fun p hp => lc_list (K := K) (a := da) (xs := dxs) (PvX H14 p (fun _ v (d : DoorD) => GuardAt H14 v d.gd) fun j d => ds[j]? = some d) (PvX.start hp) (fun i H' _ v => v.same.seq (SqL.of (sB14 _ _ b.da))) (fun i y H' hi v => ?_) fun H15 v => ?_⟩
      · obtain ⟨d, ed, t, g, bb, rfl, ht, hg, _⟩ := b.dx.left hi
        refine ⟨rfl, inYes (iteT ⟨_, rfl, t, _, _, g, rfl, rfl, SqT.of (v.same _ _ (sB14 _ _ ht)), atI_nat (j := 2) rfl, ?_⟩)⟩
        exact v.next (fun _ _ _ _ _ h => h) (Same.refl _) (hg.mono sB14) ed (by have := lt_get ed; omega)
      · obtain ⟨acc, ys, hD, hx, hl, hg⟩ := v.acc
        have ey : ys = ds := list_eq (by rw [hl, hdl]) hg
        subst ey
        have dg1 : Dp K H15 (.ref ga) (dGuards (ys.map DoorD.gd)) := dp_guards (SqL.of (v.same _ _ (s8_14 _ _ c.g))) (c.gx.mapR fun v' d ⟨a, xs, e, q, k⟩ => ⟨a, xs, e, v.same _ _ (s8_14 _ _ (neu_some q).2), k.mono fun _ _ r => r.mono (sB14.trans v.same)⟩)
        have dg2 : Dp K H15 (.ref p) (dGuards (ys.map DoorD.gd)) := dp_guards (SqL.of hD) (hx.mapR fun v' d q => q.mono v.same)
        exact ⟨dGuards (ys.map DoorD.gd), dGuards (ys.map DoorD.gd), dg1, dg2, shaped_of cg (Nat.le_trans (dep_guards _) (by decide)), shaped_of cg (Nat.le_trans (dep_guards _) (by decide)), false, neq_false cg, iteF ⟨rfl, v.same⟩⟩
    rintro σ' H15 ⟨rfl, s15⟩
    -- backs != [..] or not tells(..)
    refine ⟨fun σ' H16 => σ' = [some (.ref sa), some (.ref na), some (.int fi), some (.ref wa), some (.int unit), some (.ref ra), some (.ref da), some (.ref ga), some (.ref ba), none, some (.ref ma), none, none, some (.ref ha), some (.ref x), none] ∧ Same H14 H16, ?_, ?_⟩
    · have sB15 := sB14.trans s15
      refine ⟨_, rfl, _, rfl, da, rfl, ⟨_, SqL.of (sB15 _ _ b.da)⟩, fun p hp => lc_list (K := K) (a := da) (xs := dxs) (PvX H15 p (fun _ v (d : DoorD) => StrsAt H15 v d.nt) fun j d => ds[j]? = some d) (PvX.start hp) (fun i H' _ v => v.same.seq (SqL.of (sB15 _ _ b.da))) (fun i y H' hi v => ?_) fun H16 v => ?_⟩
      · obtain ⟨d, ed, t, g, bb, rfl, ht, _, hb⟩ := b.dx.left hi
        refine ⟨rfl, inYes (iteT ⟨_, rfl, t, _, _, bb, rfl, rfl, SqT.of (v.same _ _ (sB15 _ _ ht)), atI_nat (j := 3) rfl, ?_⟩)⟩
        exact v.next (fun _ _ _ _ _ h => h) (Same.refl _) (hb.mono sB15) ed (by have := lt_get ed; omega)
      · obtain ⟨acc, ys, hD, hx, hl, hg⟩ := v.acc
        have ey : ys = ds := list_eq (by rw [hl, hdl]) hg
        subst ey
        have s16 := s15.trans v.same
        have db1 : Dp K H16 (.ref ba) (dStrss (ys.map DoorD.nt)) := dp_strss (SqL.of (s16 _ _ (s9_14 _ _ c.b))) (c.bx.mapR fun v' d q => StrsAt.mono ((neu_same _ _).trans (s9_14.trans s16)) q)
        have db2 : Dp K H16 (.ref p) (dStrss (ys.map DoorD.nt)) := dp_strss (SqL.of hD) (hx.mapR fun v' d q => q.mono v.same)
        have sC := s214.trans s16
        exact ⟨dStrss (ys.map DoorD.nt), dStrss (ys.map DoorD.nt), db1, db2, shaped_of cb (Nat.le_trans (dep_strss _) (by decide)), shaped_of cb (Nat.le_trans (dep_strss _) (by decide)), false, neq_false cb, iteF ⟨_, rfl, _, rfl, _, rfl, _, rfl, .ref x, .ref ra, .ref da, wa, ws, rs, ys, rfl, cc.mach.mono sC, SqL.of (sC _ _ cc.cw), cc.crr.mono sC, cc.cd.mono sC, hws, hrs, b.dr.d, h200, fun H17 s17 => ⟨true, rfl, iteF ⟨rfl, s16.trans s17⟩⟩⟩⟩
    rintro σ' H16 ⟨rfl, s16⟩
    -- guards[k].append(..); backs[k].append(..)
    have l0 : Lsts C1 H14 0 H16 := fun q hq => by
      obtain ⟨_, xs, e, l⟩ := hq
      exact ⟨xs, s16 _ _ e, by omega⟩
    refine ⟨fun σ' H17 => ∃ v9 : Option V, σ' = [some (.ref sa), some (.ref na), some (.int fi), some (.ref wa), some (.int unit), some (.ref ra), some (.ref da), some (.ref ga), some (.ref ba), v9, some (.ref ma), none, none, some (.ref ha), some (.ref x), none] ∧ Same C1 H17 ∧ Lsts C1 H14 400 H17, ?_, ?_⟩
    · refine ⟨_, rfl, da, dxs, rfl, .inl (SqL.of (s16 _ _ (sB14 _ _ b.da))), ((dxs.length : Nat) : Int), rfl, by omega, by omega, for_range (lo := 0) (n := ((dxs.length : Nat) : Int).toNat) (fun i σ H' => ∃ v9 : Option V, σ = [some (.ref sa), some (.ref na), some (.int fi), some (.ref wa), some (.int unit), some (.ref ra), some (.ref da), some (.ref ga), some (.ref ba), v9, some (.ref ma), none, none, some (.ref ha), some (.ref x), none] ∧ Same C1 H' ∧ Lsts C1 H14 (i + i) H') ⟨none, rfl, cc.s1.trans s16, l0⟩ ?_ ?_⟩
      · rintro i σ H' hi ⟨v9, rfl, s, l⟩
        have hil : i < dxs.length := by omega
        obtain ⟨d, ed⟩ := get_lt (xs := ds) (i := i) (by omega)
        obtain ⟨gv, egv, _⟩ := c.gx.right ed
        obtain ⟨bv, ebv, _⟩ := c.bx.right ed
        obtain ⟨g, rfl, hg⟩ := cc.cgs i gv egv
        obtain ⟨l', rfl, hl'⟩ := cc.cbs i bv ebv
        have at_g : atI gs (0 + (i : Int)) = some (.ref g) := at_of (j := i) (by omega) egv
        have at_b : atI bs (0 + (i : Int)) = some (.ref l') := at_of (j := i) (by omega) ebv
        obtain ⟨gxs, eg, lg⟩ := l g hg
        refine ⟨_, rfl, _, rfl, ga, _, _, .ref g, rfl, rfl, SqL.of (s _ _ cc.cga), at_g, .inl ⟨rfl, _, SqL.of eg⟩, (by show 3 ≤ sizeLine; decide), fun t ht => ?_⟩
        have st : Same H' (upd H' t (.tup [.str "z", .str "<", .int 1])) := Same.new ht
        refine ⟨g, gxs, _, rfl, rfl, st _ _ eg, by rw [sizeLine_eq]; omega, ?_⟩
        have s2 : Same C1 (upd (upd H' t (.tup [.str "z", .str "<", .int 1])) g (.lst (gxs ++ [.ref t]))) := same_upd hg.1 (s.trans st)
        have l2 : Lsts C1 H14 (i + i + 1) (upd (upd H' t (.tup [.str "z", .str "<", .int 1])) g (.lst (gxs ++ [.ref t]))) := (l.grow st).put lg
        obtain ⟨bxs, eb, lb⟩ := l2 l' hl'
        refine ⟨_, rfl, _, rfl, ba, _, _, .ref l', rfl, rfl, SqL.of (s2 _ _ cc.cba), at_b, .inl ⟨rfl, _, SqL.of eb⟩, l', bxs, _, rfl, rfl, eb, by rw [sizeLine_eq]; omega, ?_⟩
        refine ⟨_, rfl, same_upd hl'.1 s2, ?_⟩
        have e2 : i + 1 + (i + 1) = i + i + 1 + 1 := by omega
        rw [e2]
        exact l2.put lb
      · rintro σ H' ⟨v9, rfl, s, l⟩
        refine ⟨v9, rfl, s, fun q hq => ?_⟩
        obtain ⟨xs, e, le⟩ := l q hq
        exact ⟨xs, e, by omega⟩
    rintro σ' H17 ⟨v9, rfl, s17, l17⟩
    -- for name, stay in handed[1]: stay.append(..)
    refine ⟨fun σ' H18 => ∃ v11 v12 : Option V, σ' = [some (.ref sa), some (.ref na), some (.int fi), some (.ref wa), some (.int unit), some (.ref ra), some (.ref da), some (.ref ga), some (.ref ba), v9, some (.ref ma), v11, v12, some (.ref ha), some (.ref x), none] ∧ Same C1 H18, ?_, ?_⟩
    · refine ⟨_, rfl, ha, _, _, .ref hr, rfl, rfl, SqL.of (s17 _ _ (s21 _ _ cc.cha)), atI_nat (j := 1) rfl, hr, rfl, ⟨_, SqL.of (s17 _ _ cc.chr)⟩, for_list (K := K) (a := hr) (xs := cs) (fun i σ H' => ∃ v11 v12 : Option V, σ = [some (.ref sa), some (.ref na), some (.int fi), some (.ref wa), some (.int unit), some (.ref ra), some (.ref da), some (.ref ga), some (.ref ba), v9, some (.ref ma), v11, v12, some (.ref ha), some (.ref x), none] ∧ Same C1 H' ∧ Lsts C1 H14 (400 + i) H') ⟨none, none, rfl, s17, l17⟩ (fun i σ H' _ ⟨_, _, _, s, _⟩ => SqL.of (s _ _ cc.chr)) ?_ ?_⟩
      · rintro i y σ H' hi ⟨v11, v12, rfl, s, l⟩
        obtain ⟨t, q, nm, rfl, ht, hq⟩ := cc.ccs i y hi
        obtain ⟨xs, e, le⟩ := l q hq
        have hi64 : i ≤ 64 := by
          have := lt_get hi
          have := h.rx.len
          have := hrs.2.1
          omega
        refine ⟨t, _, rfl, SqT.of (s _ _ ht), rfl, _, _, rfl, _, _, rfl, rfl, _, rfl, .inl ⟨rfl, _, SqL.of e⟩, (by show 3 ≤ sizeLine; decide), fun t2 ht2 => ?_⟩
        have st : Same H' (upd H' t2 (.tup [.str "z", .str "<", .int 1])) := Same.new ht2
        refine ⟨q, xs, _, rfl, rfl, st _ _ e, by rw [sizeLine_eq]; omega, ?_⟩
        exact ⟨_, _, rfl, same_upd hq.1 (s.trans st), (l.grow st).put le⟩
      · rintro σ H' ⟨v11, v12, rfl, s, _⟩
        exact ⟨v11, v12, rfl, s⟩
    rintro σ' H18 ⟨v11, v12, rfl, s18⟩
    -- handed[k].clear()
    refine ⟨fun σ' H19 => ∃ v9 : Option V, σ' = [some (.ref sa), some (.ref na), some (.int fi), some (.ref wa), some (.int unit), some (.ref ra), some (.ref da), some (.ref ga), some (.ref ba), v9, some (.ref ma), v11, v12, some (.ref ha), some (.ref x), none] ∧ Same C2 H19, ?_, ?_⟩
    · have three : ∀ q, q ∈ [hw, hr, ma] → C2 q = none ∧ ∃ xs, H18 q = some (.lst xs) := fun q hq => by
        simp only [List.mem_cons, List.not_mem_nil, or_false] at hq
        rcases hq with rfl | rfl | rfl
        · obtain ⟨xs, e⟩ := cc.chw
          exact ⟨cc.w0, xs, s18 _ _ e⟩
        · exact ⟨cc.r0, _, s18 _ _ cc.chr⟩
        · obtain ⟨xs, e⟩ := cc.cma
          exact ⟨cc.m0, xs, s18 _ _ e⟩
      refine ⟨3, rfl, by decide, by decide, for_range (lo := 0) (n := 3) (fun i σ H' => ∃ v9 : Option V, σ = [some (.ref sa), some (.ref na), some (.int fi), some (.ref wa), some (.int unit), some (.ref ra), some (.ref da), some (.ref ga), some (.ref ba), v9, some (.ref ma), v11, v12, some (.ref ha), some (.ref x), none] ∧ Same C2 H' ∧ ∀ q, q ∈ [hw, hr, ma] → ∃ xs, H' q = some (.lst xs)) ⟨v9, rfl, s21.trans s18, fun q hq => (three q hq).2⟩ ?_ ?_⟩
      · rintro i σ H' hi ⟨v9, rfl, s, l⟩
        obtain ⟨q, eq⟩ := get_lt (xs := [hw, hr, ma]) (i := i) (by simpa using hi)
        have hq := List.mem_of_getElem? eq
        obtain ⟨xs, e⟩ := l q hq
        have at_q : atI ([hw, hr, ma].map V.ref) (0 + (i : Int)) = some (.ref q) := at_of (j := i) (by omega) (get_map_of eq)
        refine ⟨_, rfl, _, rfl, ha, [hw, hr, ma].map V.ref, _, .ref q, rfl, rfl, SqL.of (s _ _ cc.cha), at_q, .inl ⟨rfl, _, SqL.of e⟩, q, xs, rfl, rfl, e, ?_⟩
        refine ⟨_, rfl, same_upd (three q hq).1 s, fun q' hq' => ?_⟩
        by_cases z : q' = q
        · rw [z]
          exact ⟨_, upd_same⟩
        · obtain ⟨ys, ey⟩ := l q' hq'
          exact ⟨ys, by rw [upd_ne z]; exact ey⟩
      · rintro σ H' ⟨v9, rfl, s, _⟩
        exact ⟨v9, rfl, s⟩
    rintro σ' H19 ⟨v9', rfl, s19⟩
    -- spoil, tells
    refine ⟨fun σ' H20 => σ' = [some (.ref sa), some (.ref na), some (.int fi), some (.ref wa), some (.int unit), some (.ref ra), some (.ref da), some (.ref ga), some (.ref ba), v9', some (.ref ma), v11, v12, some (.ref ha), some (.ref x), none] ∧ Same C2 H20, ?_, ?_⟩
    · exact ⟨_, rfl, _, rfl, .ref x, .ref ra, ws, rs, ds, rfl, cc.mach.mono s19, cc.crr.mono s19, hws.1, hrs, h200, fun d hd => ⟨(b.dr.d d hd).2.2.1.1, (b.dr.d d hd).2.2.2.2.2.1⟩, fun H20 s20 => ⟨rfl, s19.trans s20⟩⟩
    rintro σ' H20 ⟨rfl, s20⟩
    exact ⟨_, rfl, _, rfl, _, rfl, _, rfl, .ref x, .ref ra, .ref da, wa, ws, rs, ds, rfl, cc.mach.mono s20, SqL.of (s20 _ _ cc.cw), cc.crr.mono s20, cc.cd.mono s20, hws, hrs, b.dr.d, h200, fun H21 _ => k H21⟩
end
end Zw

/-! Zr: facts of the top into Txt; the walk of the row. -/
namespace Zw
open PySem PySem.Spec PyProof.Rows L2
section
variable {K : PySem.W.Frag} {h : Heap} {mg : Str → Option Value}
theorem fnp_mk {x qual : Str} {st : Stmt} {f : Addr} {oc : Value} {od an : Option Addr} {osl : Array (Option Value)} {kV doc pm cdv ct : Value} (l : K.lookup f = some ⟨oc, od, .func (PySem.W.fnOf x qual (defArgs st) (defBody st) (defScope st) .none kV doc pm an cdv ct), osl⟩)
    (c : PySem.W.codeIn K cdv qual = true) (k : PySem.W.keepIn K (.ref f) = true) : FnP K x qual st f (PySem.W.fnOf x qual (defArgs st) (defBody st) (defScope st) .none kV doc pm an cdv ct) :=
  ⟨⟨oc, od, .none, kV, doc, pm, an, cdv, ct, osl, rfl, l, c, .inl ⟨rfl, rfl⟩, .inl rfl⟩, k⟩
theorem hasFn_mk {x : Str} {st : Stmt} {f : Addr} {oc : Value} {od an : Option Addr} {osl : Array (Option Value)} {kV doc pm cdv ct : Value} (X : K.In h) (G : h.Ns mainGlobals mg) (a : PySem.W.nsIn K mainGlobals x = some (some (.ref f)))
    (l : K.lookup f = some ⟨oc, od, .func (PySem.W.fnOf x x (defArgs st) (defBody st) (defScope st) .none kV doc pm an cdv ct), osl⟩) (c : PySem.W.codeIn K cdv x = true) (k : PySem.W.keepIn K (.ref f) = true) : HasFn K mg x st :=
  ⟨f, _, PySem.W.mg_of X G a, fnp_mk l c k⟩
theorem hasMt_mk {C : Addr} {m qual : Str} {st : Stmt} {f : Addr} {oc : Value} {od an : Option Addr} {osl : Array (Option Value)} {kV doc pm cdv ct : Value} (a : PySem.W.findIn K (.ref C) m = some (some (.ref f))) (i : PySem.W.isFn K (.ref f) = true)
    (l : K.lookup f = some ⟨oc, od, .func (PySem.W.fnOf m qual (defArgs st) (defBody st) (defScope st) .none kV doc pm an cdv ct), osl⟩) (c : PySem.W.codeIn K cdv qual = true) (k : PySem.W.keepIn K (.ref f) = true) : HasMt K C m qual st :=
  ⟨f, _, ⟨a, i, k⟩, fnp_mk l c k⟩
theorem mInit_mk {C : Addr} {m qual : Str} {st : Stmt} {f : Addr} {oc : Value} {od an : Option Addr} {osl : Array (Option Value)} {kV doc pm cdv ct : Value} (mk : PySem.W.makesIn K C = true) (a : PySem.W.findIn K (.ref C) "__init__" = some (some (.ref f))) (i : PySem.W.isFn K (.ref f) = true) (kc : PySem.W.keepIn K (.ref C) = true)
    (l : K.lookup f = some ⟨oc, od, .func (PySem.W.fnOf m qual (defArgs st) (defBody st) (defScope st) .none kV doc pm an cdv ct), osl⟩) (c : PySem.W.codeIn K cdv qual = true) (k : PySem.W.keepIn K (.ref f) = true) : ∃ f fd, Mk K C f ∧ FnP K m qual st f fd :=
  ⟨f, _, ⟨mk, a, i, kc⟩, fnp_mk l c k⟩
theorem dInit_mk {C T : Addr} {m qual : Str} {st : Stmt} {f : Addr} {oc : Value} {od an tod : Option Addr} {osl tsl : Array (Option Value)} {kV doc pm cdv ct toc : Value} {z : Str} {t : Tok} {n : Nat} (mk : PySem.W.makesIn K C = true) (a : PySem.W.findIn K (.ref C) "__init__" = some (some (.ref f))) (i : PySem.W.isFn K (.ref f) = true) (kc : PySem.W.keepIn K (.ref C) = true)
    (l : K.lookup f = some ⟨oc, od, .func (PySem.W.fnOf m qual (defArgs st) (defBody st) (defScope st) (.ref T) kV doc pm an cdv ct), osl⟩) (c : PySem.W.codeIn K cdv qual = true) (k : PySem.W.keepIn K (.ref f) = true) (lt : K.lookup T = some ⟨toc, tod, .seq #[.str z t] n, tsl⟩) :
    ∃ f fd, Mk K C f ∧ FunD K m qual (defArgs st) (defBody st) (defScope st) [.str z] [] f fd :=
  ⟨f, _, ⟨mk, a, i, kc⟩, ⟨oc, od, .ref T, kV, doc, pm, an, cdv, ct, osl, rfl, l, c, .inr ⟨by simp, T, _, [.str z t], n, rfl, lt, rfl, .cons ⟨t, rfl⟩ .nil⟩, .inl rfl⟩, k⟩
theorem cls_mk {C : Addr} (pg : PySem.W.plainGet K C Str.empty = true) (hd : PySem.W.hasDictIn K C = true) (po : PySem.W.plainOver K C = true) (sa : PySem.W.findIn K (.ref C) "__setattr__" = some (some (.builtin "object.__setattr__"))) : Cls K C := ⟨pg, hd, po, sa⟩
theorem insC_mk {C : Addr} (cl : Cls K C) (ha : PySem.W.findIn K (.ref C) "__class__" = some (some (.builtin "object.__class__"))) (hn : PySem.W.specialIn K (.builtin "object.__class__") "__get__" = some (some (.builtin "getset_descriptor.__get__")))
    (htk : PySem.W.takesIn K (.builtin "object.__class__") = some true) (hm : PySem.W.mroIn K C (.type "object") = some true) (me : PySem.W.kitOne K (.ref C) (.ref C) = some true) : C8.InsC K C := ⟨cl, ha, hn, htk, hm, me⟩
theorem kit_self (K : PySem.W.Frag) (C : Addr) : PySem.W.kitOne K (.ref C) (.ref C) = some true := by
  unfold PySem.W.kitOne
  rw [if_pos]
  first
    | exact beq_self_eq_true _
    | simp
theorem str_mk {x z : Str} {t : Tok} (X : K.In h) (G : h.Ns mainGlobals mg) (a : PySem.W.nsIn K mainGlobals x = some (some (.str z t))) : ∃ t, mg x = some (.str z t) := ⟨t, PySem.W.mg_of X G a⟩
theorem int_mk {x : Str} {z : Int} {t : Tok} (X : K.In h) (G : h.Ns mainGlobals mg) (a : PySem.W.nsIn K mainGlobals x = some (some (.int z t))) : ∃ t, mg x = some (.int z t) := ⟨t, PySem.W.mg_of X G a⟩
theorem two_mk {x y z : Str} {T : Addr} {od : Option Addr} {n : Nat} {sl : Array (Option Value)} {t1 t2 : Tok} (X : K.In h) (G : h.Ns mainGlobals mg) (a : PySem.W.nsIn K mainGlobals x = some (some (.ref T)))
    (l : K.lookup T = some ⟨.type "tuple", od, .seq #[.str y t1, .str z t2] n, sl⟩) : ∃ a, mg x = some (.ref a) ∧ ∀ H, SqT K H a (([y, z] : List Str).map V.str) :=
  ⟨T, PySem.W.mg_of X G a, fun H => .inr ⟨_, _, n, l, rfl, rfl, by show 2 ≤ sizeLine; decide, .cons ⟨t1, rfl⟩ (.cons ⟨t2, rfl⟩ .nil)⟩⟩
theorem five_mk {x y1 y2 y3 y4 y5 : Str} {T : Addr} {od : Option Addr} {n : Nat} {sl : Array (Option Value)} {t1 t2 t3 t4 t5 : Tok} (X : K.In h) (G : h.Ns mainGlobals mg) (a : PySem.W.nsIn K mainGlobals x = some (some (.ref T)))
    (l : K.lookup T = some ⟨.type "tuple", od, .seq #[.str y1 t1, .str y2 t2, .str y3 t3, .str y4 t4, .str y5 t5] n, sl⟩) : ∃ a, mg x = some (.ref a) ∧ ∀ H, SqT K H a (([y1, y2, y3, y4, y5] : List Str).map V.str) :=
  ⟨T, PySem.W.mg_of X G a, fun H => .inr ⟨_, _, n, l, rfl, rfl, by show 5 ≤ sizeLine; decide, .cons ⟨t1, rfl⟩ (.cons ⟨t2, rfl⟩ (.cons ⟨t3, rfl⟩ (.cons ⟨t4, rfl⟩ (.cons ⟨t5, rfl⟩ .nil))))⟩⟩
/-- the law's def, where it stands, and what it keeps -/
theorem law_end {P : Program} {w : World} {D M fa f : Addr} {oc : Value} {od an : Option Addr} {osl : Array (Option Value)} {kV doc pm cdv ct : Value} (X : K.In h) (G : h.Ns mainGlobals mg) (hfa : mg "law" = some (.ref fa)) (a : PySem.W.nsIn K mainGlobals "law" = some (some (.ref f)))
    (l : K.lookup f = some ⟨oc, od, .func (PySem.W.fnOf "law" "law" (defArgs sLaw) (defBody sLaw) (defScope sLaw) .none kV doc pm an cdv ct), osl⟩) (c : PySem.W.codeIn K cdv "law" = true) (k : PySem.W.keepIn K (.ref f) = true) (T : Txt K mg D M) :
    ∃ fd : FuncData, (∀ (s : Shared) (v : Value), BindsTo s fd ⟨[v], []⟩ [("_law_script", v)]) ∧ ∀ base : Heap, K.In base → base.Ns mainGlobals mg → FnOk P w K mg base CX0 8 fa fd ["_law_script"] (spLaw K) := by
  have e := hfa.symm.trans (PySem.W.mg_of X G a)
  cases e
  exact ⟨_, fun s v => .of_eq rfl, fun base _ _ => law_ok T (fnp_mk l c k)⟩
end
theorem walk {l : PySem.W.OpenLaw} {q : Program} {loose : List Str} {XP : (Str → Option Value) → Heap → Prop} {YP : World → Heap → Prop} {d : DefRec} {K : Params → PySem.W.Frag} (hn : l.most = some 63) (hdf : d.params.defaults = [])
    (hY : ∀ (w : World) (h : Heap), YP w h → (K w.params).In h)
    (F : ∀ (w : World) (mg : Str → Option Value) (fa : Addr) (h : Heap), (K w.params).In h → h.Ns mainGlobals mg → mg d.name = some (.ref fa) →
      ∃ fd : FuncData, (∀ (s : Shared) (u : Value), BindsTo s fd ⟨[u], []⟩ [("_law_script", u)]) ∧ ∀ base : Heap, (K w.params).In base → base.Ns mainGlobals mg → FnOk l.prog w (K w.params) mg base CX0 8 fa fd ["_law_script"] (spLaw (K w.params))) :
    PySem.W.WalkO q loose XP YP l.row.toRowW d [] (fun f vs => PySem.call f vs) :=
  L2.walk_of (n := 63) (k := 8) (x := "_law_script") (CX := fun _ => CX0) (sp := fun w => spLaw (K w.params)) hn (by decide) hdf ⟨rfl, by decide, by decide⟩ hY F (fun _ _ a ns hl _ hS => ⟨a, ns, rfl, hS, hl, fun _ => rfl⟩) fun _ _ _ _ _ z => z
end Zw

/-! Zu: all facts of the top into Txt (printed by gen_end.py). -/
namespace Zw
open PySem PySem.Spec PyProof.Rows L2
theorem txt_mk {K : PySem.W.Frag} {h : Heap} {mg : Str → Option Value} {D M : Addr} {fF0 : Addr} {ocF0 : Value} {odF0 anF0 : Option Addr} {oslF0 : Array (Option Value)} {kVF0 docF0 pmF0 cdvF0 ctF0 : Value}
    {fF1 : Addr} {ocF1 : Value} {odF1 anF1 : Option Addr} {oslF1 : Array (Option Value)} {kVF1 docF1 pmF1 cdvF1 ctF1 : Value}
    {fF2 : Addr} {ocF2 : Value} {odF2 anF2 : Option Addr} {oslF2 : Array (Option Value)} {kVF2 docF2 pmF2 cdvF2 ctF2 : Value}
    {fF3 : Addr} {ocF3 : Value} {odF3 anF3 : Option Addr} {oslF3 : Array (Option Value)} {kVF3 docF3 pmF3 cdvF3 ctF3 : Value}
    {fF4 : Addr} {ocF4 : Value} {odF4 anF4 : Option Addr} {oslF4 : Array (Option Value)} {kVF4 docF4 pmF4 cdvF4 ctF4 : Value}
    {fF5 : Addr} {ocF5 : Value} {odF5 anF5 : Option Addr} {oslF5 : Array (Option Value)} {kVF5 docF5 pmF5 cdvF5 ctF5 : Value}
    {fF6 : Addr} {ocF6 : Value} {odF6 anF6 : Option Addr} {oslF6 : Array (Option Value)} {kVF6 docF6 pmF6 cdvF6 ctF6 : Value}
    {fF7 : Addr} {ocF7 : Value} {odF7 anF7 : Option Addr} {oslF7 : Array (Option Value)} {kVF7 docF7 pmF7 cdvF7 ctF7 : Value}
    {fF8 : Addr} {ocF8 : Value} {odF8 anF8 : Option Addr} {oslF8 : Array (Option Value)} {kVF8 docF8 pmF8 cdvF8 ctF8 : Value}
    {fF9 : Addr} {ocF9 : Value} {odF9 anF9 : Option Addr} {oslF9 : Array (Option Value)} {kVF9 docF9 pmF9 cdvF9 ctF9 : Value}
    {fF10 : Addr} {ocF10 : Value} {odF10 anF10 : Option Addr} {oslF10 : Array (Option Value)} {kVF10 docF10 pmF10 cdvF10 ctF10 : Value}
    {fF11 : Addr} {ocF11 : Value} {odF11 anF11 : Option Addr} {oslF11 : Array (Option Value)} {kVF11 docF11 pmF11 cdvF11 ctF11 : Value}
    {fF12 : Addr} {ocF12 : Value} {odF12 anF12 : Option Addr} {oslF12 : Array (Option Value)} {kVF12 docF12 pmF12 cdvF12 ctF12 : Value}
    {fF13 : Addr} {ocF13 : Value} {odF13 anF13 : Option Addr} {oslF13 : Array (Option Value)} {kVF13 docF13 pmF13 cdvF13 ctF13 : Value}
    {fF14 : Addr} {ocF14 : Value} {odF14 anF14 : Option Addr} {oslF14 : Array (Option Value)} {kVF14 docF14 pmF14 cdvF14 ctF14 : Value}
    {fF15 : Addr} {ocF15 : Value} {odF15 anF15 : Option Addr} {oslF15 : Array (Option Value)} {kVF15 docF15 pmF15 cdvF15 ctF15 : Value}
    {fF16 : Addr} {ocF16 : Value} {odF16 anF16 : Option Addr} {oslF16 : Array (Option Value)} {kVF16 docF16 pmF16 cdvF16 ctF16 : Value}
    {fF17 : Addr} {ocF17 : Value} {odF17 anF17 : Option Addr} {oslF17 : Array (Option Value)} {kVF17 docF17 pmF17 cdvF17 ctF17 : Value}
    {fF18 : Addr} {ocF18 : Value} {odF18 anF18 : Option Addr} {oslF18 : Array (Option Value)} {kVF18 docF18 pmF18 cdvF18 ctF18 : Value}
    {fF19 : Addr} {ocF19 : Value} {odF19 anF19 : Option Addr} {oslF19 : Array (Option Value)} {kVF19 docF19 pmF19 cdvF19 ctF19 : Value}
    {fF20 : Addr} {ocF20 : Value} {odF20 anF20 : Option Addr} {oslF20 : Array (Option Value)} {kVF20 docF20 pmF20 cdvF20 ctF20 : Value}
    {fF21 : Addr} {ocF21 : Value} {odF21 anF21 : Option Addr} {oslF21 : Array (Option Value)} {kVF21 docF21 pmF21 cdvF21 ctF21 : Value}
    {fF22 : Addr} {ocF22 : Value} {odF22 anF22 : Option Addr} {oslF22 : Array (Option Value)} {kVF22 docF22 pmF22 cdvF22 ctF22 : Value}
    {fF23 : Addr} {ocF23 : Value} {odF23 anF23 : Option Addr} {oslF23 : Array (Option Value)} {kVF23 docF23 pmF23 cdvF23 ctF23 : Value}
    {T0 : Addr} {tod : Option Addr} {tsl : Array (Option Value)} {toc : Value} {tt0 : Tok} {tn0 : Nat}
    {fID : Addr} {ocID : Value} {odID anID : Option Addr} {oslID : Array (Option Value)} {kVID docID pmID cdvID ctID : Value}
    {fM0 : Addr} {ocM0 : Value} {odM0 anM0 : Option Addr} {oslM0 : Array (Option Value)} {kVM0 docM0 pmM0 cdvM0 ctM0 : Value}
    {fM1 : Addr} {ocM1 : Value} {odM1 anM1 : Option Addr} {oslM1 : Array (Option Value)} {kVM1 docM1 pmM1 cdvM1 ctM1 : Value}
    {fIM : Addr} {ocIM : Value} {odIM anIM : Option Addr} {oslIM : Array (Option Value)} {kVIM docIM pmIM cdvIM ctIM : Value}
    {fM2 : Addr} {ocM2 : Value} {odM2 anM2 : Option Addr} {oslM2 : Array (Option Value)} {kVM2 docM2 pmM2 cdvM2 ctM2 : Value}
    {fM3 : Addr} {ocM3 : Value} {odM3 anM3 : Option Addr} {oslM3 : Array (Option Value)} {kVM3 docM3 pmM3 cdvM3 ctM3 : Value}
    {fM4 : Addr} {ocM4 : Value} {odM4 anM4 : Option Addr} {oslM4 : Array (Option Value)} {kVM4 docM4 pmM4 cdvM4 ctM4 : Value}
    {fM5 : Addr} {ocM5 : Value} {odM5 anM5 : Option Addr} {oslM5 : Array (Option Value)} {kVM5 docM5 pmM5 cdvM5 ctM5 : Value}
    {fM6 : Addr} {ocM6 : Value} {odM6 anM6 : Option Addr} {oslM6 : Array (Option Value)} {kVM6 docM6 pmM6 cdvM6 ctM6 : Value}
    {tk1 tk2 tk3 tk4 : Tok} {TB TW : Addr} {odB odW : Option Addr} {nB nW : Nat} {slB slW : Array (Option Value)} {b1 b2 w1 w2 w3 w4 w5 : Tok}
    (X : K.In h) (G : h.Ns mainGlobals mg)
    (aF0 : PySem.W.nsIn K mainGlobals "is_whole" = some (some (.ref fF0)))
    (lF0 : K.lookup fF0 = some ⟨ocF0, odF0, .func (PySem.W.fnOf "is_whole" "is_whole" (defArgs sWhole) (defBody sWhole) (defScope sWhole) .none kVF0 docF0 pmF0 anF0 cdvF0 ctF0), oslF0⟩)
    (cF0 : PySem.W.codeIn K cdvF0 "is_whole" = true)
    (kF0 : PySem.W.keepIn K (.ref fF0) = true)
    (aF1 : PySem.W.nsIn K mainGlobals "of_signs" = some (some (.ref fF1)))
    (lF1 : K.lookup fF1 = some ⟨ocF1, odF1, .func (PySem.W.fnOf "of_signs" "of_signs" (defArgs sOfSigns) (defBody sOfSigns) (defScope sOfSigns) .none kVF1 docF1 pmF1 anF1 cdvF1 ctF1), oslF1⟩)
    (cF1 : PySem.W.codeIn K cdvF1 "of_signs" = true)
    (kF1 : PySem.W.keepIn K (.ref fF1) = true)
    (aF2 : PySem.W.nsIn K mainGlobals "is_name" = some (some (.ref fF2)))
    (lF2 : K.lookup fF2 = some ⟨ocF2, odF2, .func (PySem.W.fnOf "is_name" "is_name" (defArgs sIsName) (defBody sIsName) (defScope sIsName) .none kVF2 docF2 pmF2 anF2 cdvF2 ctF2), oslF2⟩)
    (cF2 : PySem.W.codeIn K cdvF2 "is_name" = true)
    (kF2 : PySem.W.keepIn K (.ref fF2) = true)
    (aF3 : PySem.W.nsIn K mainGlobals "is_watch_name" = some (some (.ref fF3)))
    (lF3 : K.lookup fF3 = some ⟨ocF3, odF3, .func (PySem.W.fnOf "is_watch_name" "is_watch_name" (defArgs sIsWatch) (defBody sIsWatch) (defScope sIsWatch) .none kVF3 docF3 pmF3 anF3 cdvF3 ctF3), oslF3⟩)
    (cF3 : PySem.W.codeIn K cdvF3 "is_watch_name" = true)
    (kF3 : PySem.W.keepIn K (.ref fF3) = true)
    (aF4 : PySem.W.nsIn K mainGlobals "is_sign" = some (some (.ref fF4)))
    (lF4 : K.lookup fF4 = some ⟨ocF4, odF4, .func (PySem.W.fnOf "is_sign" "is_sign" (defArgs sIsSign) (defBody sIsSign) (defScope sIsSign) .none kVF4 docF4 pmF4 anF4 cdvF4 ctF4), oslF4⟩)
    (cF4 : PySem.W.codeIn K cdvF4 "is_sign" = true)
    (kF4 : PySem.W.keepIn K (.ref fF4) = true)
    (aF5 : PySem.W.nsIn K mainGlobals "is_look" = some (some (.ref fF5)))
    (lF5 : K.lookup fF5 = some ⟨ocF5, odF5, .func (PySem.W.fnOf "is_look" "is_look" (defArgs sIsLook) (defBody sIsLook) (defScope sIsLook) .none kVF5 docF5 pmF5 anF5 cdvF5 ctF5), oslF5⟩)
    (cF5 : PySem.W.codeIn K cdvF5 "is_look" = true)
    (kF5 : PySem.W.keepIn K (.ref fF5) = true)
    (aF6 : PySem.W.nsIn K mainGlobals "is_guard" = some (some (.ref fF6)))
    (lF6 : K.lookup fF6 = some ⟨ocF6, odF6, .func (PySem.W.fnOf "is_guard" "is_guard" (defArgs sIsGuard) (defBody sIsGuard) (defScope sIsGuard) .none kVF6 docF6 pmF6 anF6 cdvF6 ctF6), oslF6⟩)
    (cF6 : PySem.W.codeIn K cdvF6 "is_guard" = true)
    (kF6 : PySem.W.keepIn K (.ref fF6) = true)
    (aF7 : PySem.W.nsIn K mainGlobals "unlike" = some (some (.ref fF7)))
    (lF7 : K.lookup fF7 = some ⟨ocF7, odF7, .func (PySem.W.fnOf "unlike" "unlike" (defArgs sUnlike) (defBody sUnlike) (defScope sUnlike) .none kVF7 docF7 pmF7 anF7 cdvF7 ctF7), oslF7⟩)
    (cF7 : PySem.W.codeIn K cdvF7 "unlike" = true)
    (kF7 : PySem.W.keepIn K (.ref fF7) = true)
    (aF8 : PySem.W.nsIn K mainGlobals "own" = some (some (.ref fF8)))
    (lF8 : K.lookup fF8 = some ⟨ocF8, odF8, .func (PySem.W.fnOf "own" "own" (defArgs sOwn) (defBody sOwn) (defScope sOwn) .none kVF8 docF8 pmF8 anF8 cdvF8 ctF8), oslF8⟩)
    (cF8 : PySem.W.codeIn K cdvF8 "own" = true)
    (kF8 : PySem.W.keepIn K (.ref fF8) = true)
    (aF9 : PySem.W.nsIn K mainGlobals "are_watches" = some (some (.ref fF9)))
    (lF9 : K.lookup fF9 = some ⟨ocF9, odF9, .func (PySem.W.fnOf "are_watches" "are_watches" (defArgs sAreWatches) (defBody sAreWatches) (defScope sAreWatches) .none kVF9 docF9 pmF9 anF9 cdvF9 ctF9), oslF9⟩)
    (cF9 : PySem.W.codeIn K cdvF9 "are_watches" = true)
    (kF9 : PySem.W.keepIn K (.ref fF9) = true)
    (aF10 : PySem.W.nsIn K mainGlobals "is_room" = some (some (.ref fF10)))
    (lF10 : K.lookup fF10 = some ⟨ocF10, odF10, .func (PySem.W.fnOf "is_room" "is_room" (defArgs sIsRoom) (defBody sIsRoom) (defScope sIsRoom) .none kVF10 docF10 pmF10 anF10 cdvF10 ctF10), oslF10⟩)
    (cF10 : PySem.W.codeIn K cdvF10 "is_room" = true)
    (kF10 : PySem.W.keepIn K (.ref fF10) = true)
    (aF11 : PySem.W.nsIn K mainGlobals "are_rooms" = some (some (.ref fF11)))
    (lF11 : K.lookup fF11 = some ⟨ocF11, odF11, .func (PySem.W.fnOf "are_rooms" "are_rooms" (defArgs sAreRooms) (defBody sAreRooms) (defScope sAreRooms) .none kVF11 docF11 pmF11 anF11 cdvF11 ctF11), oslF11⟩)
    (cF11 : PySem.W.codeIn K cdvF11 "are_rooms" = true)
    (kF11 : PySem.W.keepIn K (.ref fF11) = true)
    (aF12 : PySem.W.nsIn K mainGlobals "is_door" = some (some (.ref fF12)))
    (lF12 : K.lookup fF12 = some ⟨ocF12, odF12, .func (PySem.W.fnOf "is_door" "is_door" (defArgs sIsDoor) (defBody sIsDoor) (defScope sIsDoor) .none kVF12 docF12 pmF12 anF12 cdvF12 ctF12), oslF12⟩)
    (cF12 : PySem.W.codeIn K cdvF12 "is_door" = true)
    (kF12 : PySem.W.keepIn K (.ref fF12) = true)
    (aF13 : PySem.W.nsIn K mainGlobals "_law_cell_at" = some (some (.ref fF13)))
    (lF13 : K.lookup fF13 = some ⟨ocF13, odF13, .func (PySem.W.fnOf "_law_cell_at" "_law_cell_at" (defArgs sCell) (defBody sCell) (defScope sCell) .none kVF13 docF13 pmF13 anF13 cdvF13 ctF13), oslF13⟩)
    (cF13 : PySem.W.codeIn K cdvF13 "_law_cell_at" = true)
    (kF13 : PySem.W.keepIn K (.ref fF13) = true)
    (aF14 : PySem.W.nsIn K mainGlobals "_law_stream" = some (some (.ref fF14)))
    (lF14 : K.lookup fF14 = some ⟨ocF14, odF14, .func (PySem.W.fnOf "_law_stream" "_law_stream" (defArgs sStream) (defBody sStream) (defScope sStream) .none kVF14 docF14 pmF14 anF14 cdvF14 ctF14), oslF14⟩)
    (cF14 : PySem.W.codeIn K cdvF14 "_law_stream" = true)
    (kF14 : PySem.W.keepIn K (.ref fF14) = true)
    (aF15 : PySem.W.nsIn K mainGlobals "_law_draws" = some (some (.ref fF15)))
    (lF15 : K.lookup fF15 = some ⟨ocF15, odF15, .func (PySem.W.fnOf "_law_draws" "_law_draws" (defArgs sDraws) (defBody sDraws) (defScope sDraws) .none kVF15 docF15 pmF15 anF15 cdvF15 ctF15), oslF15⟩)
    (cF15 : PySem.W.codeIn K cdvF15 "_law_draws" = true)
    (kF15 : PySem.W.keepIn K (.ref fF15) = true)
    (aF16 : PySem.W.nsIn K mainGlobals "_law_names" = some (some (.ref fF16)))
    (lF16 : K.lookup fF16 = some ⟨ocF16, odF16, .func (PySem.W.fnOf "_law_names" "_law_names" (defArgs sNames) (defBody sNames) (defScope sNames) .none kVF16 docF16 pmF16 anF16 cdvF16 ctF16), oslF16⟩)
    (cF16 : PySem.W.codeIn K cdvF16 "_law_names" = true)
    (kF16 : PySem.W.keepIn K (.ref fF16) = true)
    (aF17 : PySem.W.nsIn K mainGlobals "_law_looks" = some (some (.ref fF17)))
    (lF17 : K.lookup fF17 = some ⟨ocF17, odF17, .func (PySem.W.fnOf "_law_looks" "_law_looks" (defArgs sLooks) (defBody sLooks) (defScope sLooks) .none kVF17 docF17 pmF17 anF17 cdvF17 ctF17), oslF17⟩)
    (cF17 : PySem.W.codeIn K cdvF17 "_law_looks" = true)
    (kF17 : PySem.W.keepIn K (.ref fF17) = true)
    (aF18 : PySem.W.nsIn K mainGlobals "_law_rooms" = some (some (.ref fF18)))
    (lF18 : K.lookup fF18 = some ⟨ocF18, odF18, .func (PySem.W.fnOf "_law_rooms" "_law_rooms" (defArgs sLRooms) (defBody sLRooms) (defScope sLRooms) .none kVF18 docF18 pmF18 anF18 cdvF18 ctF18), oslF18⟩)
    (cF18 : PySem.W.codeIn K cdvF18 "_law_rooms" = true)
    (kF18 : PySem.W.keepIn K (.ref fF18) = true)
    (aF19 : PySem.W.nsIn K mainGlobals "_law_doors" = some (some (.ref fF19)))
    (lF19 : K.lookup fF19 = some ⟨ocF19, odF19, .func (PySem.W.fnOf "_law_doors" "_law_doors" (defArgs sLDoors) (defBody sLDoors) (defScope sLDoors) .none kVF19 docF19 pmF19 anF19 cdvF19 ctF19), oslF19⟩)
    (cF19 : PySem.W.codeIn K cdvF19 "_law_doors" = true)
    (kF19 : PySem.W.keepIn K (.ref fF19) = true)
    (aF20 : PySem.W.nsIn K mainGlobals "_law_door" = some (some (.ref fF20)))
    (lF20 : K.lookup fF20 = some ⟨ocF20, odF20, .func (PySem.W.fnOf "_law_door" "_law_door" (defArgs sLDoor) (defBody sLDoor) (defScope sLDoor) .none kVF20 docF20 pmF20 anF20 cdvF20 ctF20), oslF20⟩)
    (cF20 : PySem.W.codeIn K cdvF20 "_law_door" = true)
    (kF20 : PySem.W.keepIn K (.ref fF20) = true)
    (aF21 : PySem.W.nsIn K mainGlobals "_law_same" = some (some (.ref fF21)))
    (lF21 : K.lookup fF21 = some ⟨ocF21, odF21, .func (PySem.W.fnOf "_law_same" "_law_same" (defArgs sSame) (defBody sSame) (defScope sSame) .none kVF21 docF21 pmF21 anF21 cdvF21 ctF21), oslF21⟩)
    (cF21 : PySem.W.codeIn K cdvF21 "_law_same" = true)
    (kF21 : PySem.W.keepIn K (.ref fF21) = true)
    (aF22 : PySem.W.nsIn K mainGlobals "_law_tells" = some (some (.ref fF22)))
    (lF22 : K.lookup fF22 = some ⟨ocF22, odF22, .func (PySem.W.fnOf "_law_tells" "_law_tells" (defArgs sTells) (defBody sTells) (defScope sTells) .none kVF22 docF22 pmF22 anF22 cdvF22 ctF22), oslF22⟩)
    (cF22 : PySem.W.codeIn K cdvF22 "_law_tells" = true)
    (kF22 : PySem.W.keepIn K (.ref fF22) = true)
    (aF23 : PySem.W.nsIn K mainGlobals "_law_spoil" = some (some (.ref fF23)))
    (lF23 : K.lookup fF23 = some ⟨ocF23, odF23, .func (PySem.W.fnOf "_law_spoil" "_law_spoil" (defArgs sSpoil) (defBody sSpoil) (defScope sSpoil) .none kVF23 docF23 pmF23 anF23 cdvF23 ctF23), oslF23⟩)
    (cF23 : PySem.W.codeIn K cdvF23 "_law_spoil" = true)
    (kF23 : PySem.W.keepIn K (.ref fF23) = true)
    (aD : PySem.W.nsIn K mainGlobals "Door" = some (some (.ref D)))
    (aM : PySem.W.nsIn K mainGlobals "Machine" = some (some (.ref M)))
    (pgD : PySem.W.plainGet K D Str.empty = true)
    (hdD : PySem.W.hasDictIn K D = true)
    (poD : PySem.W.plainOver K D = true)
    (saD : PySem.W.findIn K (.ref D) "__setattr__" = some (some (.builtin "object.__setattr__")))
    (iha : PySem.W.findIn K (.ref D) "__class__" = some (some (.builtin "object.__class__")))
    (ihn : PySem.W.specialIn K (.builtin "object.__class__") "__get__" = some (some (.builtin "getset_descriptor.__get__")))
    (iht : PySem.W.takesIn K (.builtin "object.__class__") = some true)
    (ihm : PySem.W.mroIn K D (.type "object") = some true)
    (pgM : PySem.W.plainGet K M Str.empty = true)
    (hdM : PySem.W.hasDictIn K M = true)
    (poM : PySem.W.plainOver K M = true)
    (saM : PySem.W.findIn K (.ref M) "__setattr__" = some (some (.builtin "object.__setattr__")))
    (mkD : PySem.W.makesIn K D = true)
    (inD : PySem.W.findIn K (.ref D) "__init__" = some (some (.ref fID)))
    (iiD : PySem.W.isFn K (.ref fID) = true)
    (kcD : PySem.W.keepIn K (.ref D) = true)
    (lID : K.lookup fID = some ⟨ocID, odID, .func (PySem.W.fnOf "__init__" "Door.__init__" (defArgs sDInit) (defBody sDInit) (defScope sDInit) (.ref T0) kVID docID pmID anID cdvID ctID), oslID⟩)
    (cID : PySem.W.codeIn K cdvID "Door.__init__" = true)
    (kID : PySem.W.keepIn K (.ref fID) = true)
    (lT0 : K.lookup T0 = some ⟨toc, tod, .seq #[.str "" tt0] tn0, tsl⟩)
    (aM0 : PySem.W.findIn K (.ref D) "asks" = some (some (.ref fM0)))
    (iM0 : PySem.W.isFn K (.ref fM0) = true)
    (lM0 : K.lookup fM0 = some ⟨ocM0, odM0, .func (PySem.W.fnOf "asks" "Door.asks" (defArgs sAsks) (defBody sAsks) (defScope sAsks) .none kVM0 docM0 pmM0 anM0 cdvM0 ctM0), oslM0⟩)
    (cM0 : PySem.W.codeIn K cdvM0 "Door.asks" = true)
    (kM0 : PySem.W.keepIn K (.ref fM0) = true)
    (aM1 : PySem.W.findIn K (.ref D) "sets" = some (some (.ref fM1)))
    (iM1 : PySem.W.isFn K (.ref fM1) = true)
    (lM1 : K.lookup fM1 = some ⟨ocM1, odM1, .func (PySem.W.fnOf "sets" "Door.sets" (defArgs sSets) (defBody sSets) (defScope sSets) .none kVM1 docM1 pmM1 anM1 cdvM1 ctM1), oslM1⟩)
    (cM1 : PySem.W.codeIn K cdvM1 "Door.sets" = true)
    (kM1 : PySem.W.keepIn K (.ref fM1) = true)
    (mkM : PySem.W.makesIn K M = true)
    (inM : PySem.W.findIn K (.ref M) "__init__" = some (some (.ref fIM)))
    (iiM : PySem.W.isFn K (.ref fIM) = true)
    (kcM : PySem.W.keepIn K (.ref M) = true)
    (lIM : K.lookup fIM = some ⟨ocIM, odIM, .func (PySem.W.fnOf "__init__" "Machine.__init__" (defArgs sMInit) (defBody sMInit) (defScope sMInit) .none kVIM docIM pmIM anIM cdvIM ctIM), oslIM⟩)
    (cIM : PySem.W.codeIn K cdvIM "Machine.__init__" = true)
    (kIM : PySem.W.keepIn K (.ref fIM) = true)
    (aM2 : PySem.W.findIn K (.ref M) "watches" = some (some (.ref fM2)))
    (iM2 : PySem.W.isFn K (.ref fM2) = true)
    (lM2 : K.lookup fM2 = some ⟨ocM2, odM2, .func (PySem.W.fnOf "watches" "Machine.watches" (defArgs sWatches) (defBody sWatches) (defScope sWatches) .none kVM2 docM2 pmM2 anM2 cdvM2 ctM2), oslM2⟩)
    (cM2 : PySem.W.codeIn K cdvM2 "Machine.watches" = true)
    (kM2 : PySem.W.keepIn K (.ref fM2) = true)
    (aM3 : PySem.W.findIn K (.ref M) "rooms" = some (some (.ref fM3)))
    (iM3 : PySem.W.isFn K (.ref fM3) = true)
    (lM3 : K.lookup fM3 = some ⟨ocM3, odM3, .func (PySem.W.fnOf "rooms" "Machine.rooms" (defArgs sRooms) (defBody sRooms) (defScope sRooms) .none kVM3 docM3 pmM3 anM3 cdvM3 ctM3), oslM3⟩)
    (cM3 : PySem.W.codeIn K cdvM3 "Machine.rooms" = true)
    (kM3 : PySem.W.keepIn K (.ref fM3) = true)
    (aM4 : PySem.W.findIn K (.ref M) "doors" = some (some (.ref fM4)))
    (iM4 : PySem.W.isFn K (.ref fM4) = true)
    (lM4 : K.lookup fM4 = some ⟨ocM4, odM4, .func (PySem.W.fnOf "doors" "Machine.doors" (defArgs sDoors) (defBody sDoors) (defScope sDoors) .none kVM4 docM4 pmM4 anM4 cdvM4 ctM4), oslM4⟩)
    (cM4 : PySem.W.codeIn K cdvM4 "Machine.doors" = true)
    (kM4 : PySem.W.keepIn K (.ref fM4) = true)
    (aM5 : PySem.W.findIn K (.ref M) "stay" = some (some (.ref fM5)))
    (iM5 : PySem.W.isFn K (.ref fM5) = true)
    (lM5 : K.lookup fM5 = some ⟨ocM5, odM5, .func (PySem.W.fnOf "stay" "Machine.stay" (defArgs sStay) (defBody sStay) (defScope sStay) .none kVM5 docM5 pmM5 anM5 cdvM5 ctM5), oslM5⟩)
    (cM5 : PySem.W.codeIn K cdvM5 "Machine.stay" = true)
    (kM5 : PySem.W.keepIn K (.ref fM5) = true)
    (aM6 : PySem.W.findIn K (.ref M) "watch_number" = some (some (.ref fM6)))
    (iM6 : PySem.W.isFn K (.ref fM6) = true)
    (lM6 : K.lookup fM6 = some ⟨ocM6, odM6, .func (PySem.W.fnOf "watch_number" "Machine.watch_number" (defArgs sWNum) (defBody sWNum) (defScope sWNum) .none kVM6 docM6 pmM6 anM6 cdvM6 ctM6), oslM6⟩)
    (cM6 : PySem.W.codeIn K cdvM6 "Machine.watch_number" = true)
    (kM6 : PySem.W.keepIn K (.ref fM6) = true)
    (nD_start : PySem.W.findIn K (.ref D) "start" = some none)
    (nD_end : PySem.W.findIn K (.ref D) "end" = some none)
    (nD_sign : PySem.W.findIn K (.ref D) "sign" = some none)
    (nD_looks : PySem.W.findIn K (.ref D) "looks" = some none)
    (nD_backs : PySem.W.findIn K (.ref D) "backs" = some none)
    (nM_watch_names : PySem.W.findIn K (.ref M) "watch_names" = some none)
    (nM_room_names : PySem.W.findIn K (.ref M) "room_names" = some none)
    (nM_stay_looks : PySem.W.findIn K (.ref M) "stay_looks" = some none)
    (nM_door_list : PySem.W.findIn K (.ref M) "door_list" = some none)
    (gl : PySem.W.nsIn K mainGlobals "LETTERS" = some (some (.str "abcdefghijklmnopqrstuvwxyz" tk1)))
    (g7 : PySem.W.nsIn K mainGlobals "MOST_WATCHES" = some (some (.int 7 tk2)))
    (g64 : PySem.W.nsIn K mainGlobals "MOST_ROOMS" = some (some (.int 64 tk3)))
    (g200 : PySem.W.nsIn K mainGlobals "MOST_DOORS" = some (some (.int 200 tk4)))
    (gB : PySem.W.nsIn K mainGlobals "BELOW" = some (some (.ref TB)))
    (lB : K.lookup TB = some ⟨.type "tuple", odB, .seq #[.str "<" b1, .str "<=" b2] nB, slB⟩)
    (gW : PySem.W.nsIn K mainGlobals "WORDS" = some (some (.ref TW)))
    (lW : K.lookup TW = some ⟨.type "tuple", odW, .seq #[.str "<" w1, .str "<=" w2, .str ">" w3, .str ">=" w4, .str "=" w5] nW, slW⟩)
    (z_len : PySem.W.nsIn K mainGlobals "len" = some none)
    (z_isinstance : PySem.W.nsIn K mainGlobals "isinstance" = some none)
    (z_int : PySem.W.nsIn K mainGlobals "int" = some none)
    (z_bool : PySem.W.nsIn K mainGlobals "bool" = some none)
    (z_str : PySem.W.nsIn K mainGlobals "str" = some none)
    (z_tuple : PySem.W.nsIn K mainGlobals "tuple" = some none)
    (z_list : PySem.W.nsIn K mainGlobals "list" = some none)
    (z_all : PySem.W.nsIn K mainGlobals "all" = some none)
    (z_set : PySem.W.nsIn K mainGlobals "set" = some none)
    (z_range : PySem.W.nsIn K mainGlobals "range" = some none)
    (z_zip : PySem.W.nsIn K mainGlobals "zip" = some none)
    : Txt K mg D M := ⟨
  hasFn_mk X G aF0 lF0 cF0 kF0,
  hasFn_mk X G aF1 lF1 cF1 kF1,
  hasFn_mk X G aF2 lF2 cF2 kF2,
  hasFn_mk X G aF3 lF3 cF3 kF3,
  hasFn_mk X G aF4 lF4 cF4 kF4,
  hasFn_mk X G aF5 lF5 cF5 kF5,
  hasFn_mk X G aF6 lF6 cF6 kF6,
  hasFn_mk X G aF7 lF7 cF7 kF7,
  hasFn_mk X G aF8 lF8 cF8 kF8,
  hasFn_mk X G aF9 lF9 cF9 kF9,
  hasFn_mk X G aF10 lF10 cF10 kF10,
  hasFn_mk X G aF11 lF11 cF11 kF11,
  hasFn_mk X G aF12 lF12 cF12 kF12,
  hasFn_mk X G aF13 lF13 cF13 kF13,
  hasFn_mk X G aF14 lF14 cF14 kF14,
  hasFn_mk X G aF15 lF15 cF15 kF15,
  hasFn_mk X G aF16 lF16 cF16 kF16,
  hasFn_mk X G aF17 lF17 cF17 kF17,
  hasFn_mk X G aF18 lF18 cF18 kF18,
  hasFn_mk X G aF19 lF19 cF19 kF19,
  hasFn_mk X G aF20 lF20 cF20 kF20,
  hasFn_mk X G aF21 lF21 cF21 kF21,
  hasFn_mk X G aF22 lF22 cF22 kF22,
  hasFn_mk X G aF23 lF23 cF23 kF23,
  PySem.W.mg_of X G aD,
  PySem.W.mg_of X G aM,
  insC_mk (cls_mk pgD hdD poD saD) iha ihn iht ihm (kit_self K D),
  cls_mk pgM hdM poM saM,
  dInit_mk mkD inD iiD kcD lID cID kID lT0,
  hasMt_mk aM0 iM0 lM0 cM0 kM0,
  hasMt_mk aM1 iM1 lM1 cM1 kM1,
  mInit_mk mkM inM iiM kcM lIM cIM kIM,
  hasMt_mk aM2 iM2 lM2 cM2 kM2,
  hasMt_mk aM3 iM3 lM3 cM3 kM3,
  hasMt_mk aM4 iM4 lM4 cM4 kM4,
  hasMt_mk aM5 iM5 lM5 cM5 kM5,
  hasMt_mk aM6 iM6 lM6 cM6 kM6,
  nD_start,
  nD_end,
  nD_sign,
  nD_looks,
  nD_backs,
  nM_watch_names,
  nM_room_names,
  nM_stay_looks,
  nM_door_list,
  str_mk X G gl,
  int_mk X G g7,
  int_mk X G g64,
  int_mk X G g200,
  two_mk X G gB lB,
  five_mk X G gW lW,
  PySem.W.mg_none_of X G z_len,
  PySem.W.mg_none_of X G z_isinstance,
  PySem.W.mg_none_of X G z_int,
  PySem.W.mg_none_of X G z_bool,
  PySem.W.mg_none_of X G z_str,
  PySem.W.mg_none_of X G z_tuple,
  PySem.W.mg_none_of X G z_list,
  PySem.W.mg_none_of X G z_all,
  PySem.W.mg_none_of X G z_set,
  PySem.W.mg_none_of X G z_range,
  PySem.W.mg_none_of X G z_zip⟩
end Zw

open PySem PySem.W PyProof.Rows
set_option maxRecDepth 100000 in
set_option maxHeartbeats 0 in
theorem PySem.Challenge.cw_zonewalk_k21_a_machine_told_holds : PySem.Challenge.rw_zonewalk_k21_a_machine_told.Holds := by
  w_on; o_law; k_head; (case hw => w_witness2)
  k_fill
  refine Zw.walk (l := PySem.Challenge.rw_zonewalk_k21_a_machine_told) rfl rfl (fun w h Y => PySem.W.kIn_of Y) ?F
  case F =>
    intro w mg fa h KX G hmg
    refine' Zw.law_end KX G hmg ?a0 ?l0 ?c0 ?k0 (Zw.txt_mk KX G ?aF0 ?lF0 ?cF0 ?kF0 ?aF1 ?lF1 ?cF1 ?kF1 ?aF2 ?lF2 ?cF2 ?kF2 ?aF3 ?lF3 ?cF3 ?kF3 ?aF4 ?lF4 ?cF4 ?kF4 ?aF5 ?lF5 ?cF5 ?kF5 ?aF6 ?lF6 ?cF6 ?kF6 ?aF7 ?lF7 ?cF7 ?kF7 ?aF8 ?lF8 ?cF8 ?kF8 ?aF9 ?lF9 ?cF9 ?kF9 ?aF10 ?lF10 ?cF10 ?kF10 ?aF11 ?lF11 ?cF11 ?kF11 ?aF12 ?lF12 ?cF12 ?kF12 ?aF13 ?lF13 ?cF13 ?kF13 ?aF14 ?lF14 ?cF14 ?kF14 ?aF15 ?lF15 ?cF15 ?kF15 ?aF16 ?lF16 ?cF16 ?kF16 ?aF17 ?lF17 ?cF17 ?kF17 ?aF18 ?lF18 ?cF18 ?kF18 ?aF19 ?lF19 ?cF19 ?kF19 ?aF20 ?lF20 ?cF20 ?kF20 ?aF21 ?lF21 ?cF21 ?kF21 ?aF22 ?lF22 ?cF22 ?kF22 ?aF23 ?lF23 ?cF23 ?kF23 ?aD ?aM ?pgD ?hdD ?poD ?saD ?iha ?ihn ?iht ?ihm ?pgM ?hdM ?poM ?saM ?mkD ?inD ?iiD ?kcD ?lID ?cID ?kID ?lT0 ?aM0 ?iM0 ?lM0 ?cM0 ?kM0 ?aM1 ?iM1 ?lM1 ?cM1 ?kM1 ?mkM ?inM ?iiM ?kcM ?lIM ?cIM ?kIM ?aM2 ?iM2 ?lM2 ?cM2 ?kM2 ?aM3 ?iM3 ?lM3 ?cM3 ?kM3 ?aM4 ?iM4 ?lM4 ?cM4 ?kM4 ?aM5 ?iM5 ?lM5 ?cM5 ?kM5 ?aM6 ?iM6 ?lM6 ?cM6 ?kM6 ?nD_start ?nD_end ?nD_sign ?nD_looks ?nD_backs ?nM_watch_names ?nM_room_names ?nM_stay_looks ?nM_door_list ?gl ?g7 ?g64 ?g200 ?gB ?lB ?gW ?lW ?z_len ?z_isinstance ?z_int ?z_bool ?z_str ?z_tuple ?z_list ?z_all ?z_set ?z_range ?z_zip)
    (case a0 => k_is)
    (case l0 => k_is)
    (case c0 => k_is)
    (case k0 => k_is)
    (case aF0 => k_is)
    (case lF0 => k_is)
    (case cF0 => k_is)
    (case kF0 => k_is)
    (case aF1 => k_is)
    (case lF1 => k_is)
    (case cF1 => k_is)
    (case kF1 => k_is)
    (case aF2 => k_is)
    (case lF2 => k_is)
    (case cF2 => k_is)
    (case kF2 => k_is)
    (case aF3 => k_is)
    (case lF3 => k_is)
    (case cF3 => k_is)
    (case kF3 => k_is)
    (case aF4 => k_is)
    (case lF4 => k_is)
    (case cF4 => k_is)
    (case kF4 => k_is)
    (case aF5 => k_is)
    (case lF5 => k_is)
    (case cF5 => k_is)
    (case kF5 => k_is)
    (case aF6 => k_is)
    (case lF6 => k_is)
    (case cF6 => k_is)
    (case kF6 => k_is)
    (case aF7 => k_is)
    (case lF7 => k_is)
    (case cF7 => k_is)
    (case kF7 => k_is)
    (case aF8 => k_is)
    (case lF8 => k_is)
    (case cF8 => k_is)
    (case kF8 => k_is)
    (case aF9 => k_is)
    (case lF9 => k_is)
    (case cF9 => k_is)
    (case kF9 => k_is)
    (case aF10 => k_is)
    (case lF10 => k_is)
    (case cF10 => k_is)
    (case kF10 => k_is)
    (case aF11 => k_is)
    (case lF11 => k_is)
    (case cF11 => k_is)
    (case kF11 => k_is)
    (case aF12 => k_is)
    (case lF12 => k_is)
    (case cF12 => k_is)
    (case kF12 => k_is)
    (case aF13 => k_is)
    (case lF13 => k_is)
    (case cF13 => k_is)
    (case kF13 => k_is)
    (case aF14 => k_is)
    (case lF14 => k_is)
    (case cF14 => k_is)
    (case kF14 => k_is)
    (case aF15 => k_is)
    (case lF15 => k_is)
    (case cF15 => k_is)
    (case kF15 => k_is)
    (case aF16 => k_is)
    (case lF16 => k_is)
    (case cF16 => k_is)
    (case kF16 => k_is)
    (case aF17 => k_is)
    (case lF17 => k_is)
    (case cF17 => k_is)
    (case kF17 => k_is)
    (case aF18 => k_is)
    (case lF18 => k_is)
    (case cF18 => k_is)
    (case kF18 => k_is)
    (case aF19 => k_is)
    (case lF19 => k_is)
    (case cF19 => k_is)
    (case kF19 => k_is)
    (case aF20 => k_is)
    (case lF20 => k_is)
    (case cF20 => k_is)
    (case kF20 => k_is)
    (case aF21 => k_is)
    (case lF21 => k_is)
    (case cF21 => k_is)
    (case kF21 => k_is)
    (case aF22 => k_is)
    (case lF22 => k_is)
    (case cF22 => k_is)
    (case kF22 => k_is)
    (case aF23 => k_is)
    (case lF23 => k_is)
    (case cF23 => k_is)
    (case kF23 => k_is)
    (case aD => k_is)
    (case aM => k_is)
    (case pgD => k_is)
    (case hdD => k_is)
    (case poD => k_is)
    (case saD => k_is)
    (case iha => k_is)
    (case ihn => k_is)
    (case iht => k_is)
    (case ihm => k_is)
    (case pgM => k_is)
    (case hdM => k_is)
    (case poM => k_is)
    (case saM => k_is)
    (case mkD => k_is)
    (case inD => k_is)
    (case iiD => k_is)
    (case kcD => k_is)
    (case lID => k_is)
    (case cID => k_is)
    (case kID => k_is)
    (case lT0 => k_is)
    (case aM0 => k_is)
    (case iM0 => k_is)
    (case lM0 => k_is)
    (case cM0 => k_is)
    (case kM0 => k_is)
    (case aM1 => k_is)
    (case iM1 => k_is)
    (case lM1 => k_is)
    (case cM1 => k_is)
    (case kM1 => k_is)
    (case mkM => k_is)
    (case inM => k_is)
    (case iiM => k_is)
    (case kcM => k_is)
    (case lIM => k_is)
    (case cIM => k_is)
    (case kIM => k_is)
    (case aM2 => k_is)
    (case iM2 => k_is)
    (case lM2 => k_is)
    (case cM2 => k_is)
    (case kM2 => k_is)
    (case aM3 => k_is)
    (case iM3 => k_is)
    (case lM3 => k_is)
    (case cM3 => k_is)
    (case kM3 => k_is)
    (case aM4 => k_is)
    (case iM4 => k_is)
    (case lM4 => k_is)
    (case cM4 => k_is)
    (case kM4 => k_is)
    (case aM5 => k_is)
    (case iM5 => k_is)
    (case lM5 => k_is)
    (case cM5 => k_is)
    (case kM5 => k_is)
    (case aM6 => k_is)
    (case iM6 => k_is)
    (case lM6 => k_is)
    (case cM6 => k_is)
    (case kM6 => k_is)
    (case nD_start => k_is)
    (case nD_end => k_is)
    (case nD_sign => k_is)
    (case nD_looks => k_is)
    (case nD_backs => k_is)
    (case nM_watch_names => k_is)
    (case nM_room_names => k_is)
    (case nM_stay_looks => k_is)
    (case nM_door_list => k_is)
    (case gl => k_is)
    (case g7 => k_is)
    (case g64 => k_is)
    (case g200 => k_is)
    (case gB => k_is)
    (case lB => k_is)
    (case gW => k_is)
    (case lW => k_is)
    (case z_len => k_is)
    (case z_isinstance => k_is)
    (case z_int => k_is)
    (case z_bool => k_is)
    (case z_str => k_is)
    (case z_tuple => k_is)
    (case z_list => k_is)
    (case z_all => k_is)
    (case z_set => k_is)
    (case z_range => k_is)
    (case z_zip => k_is)
#print axioms PySem.Challenge.cw_zonewalk_k21_a_machine_told_holds
