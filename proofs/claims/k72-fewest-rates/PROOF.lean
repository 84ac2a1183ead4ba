import PyProof.Rows.All
import Wide.All
import OpenK.AllK
import Wide.FinOn
import HandS.ForMost
import HandS.ForExc
import HandS.IsInst
import HandS.Flow
import HandS.NoneIn
import HandS.More
import HandS.Deep
import HandS.Lambda
import HandS.ExcIs
import PyProof.EqAt
import PyProof.EqKinds
import PyProof.TupleCall
import HandS.Ends
import HandS.EndBits
import HandS.EndTab
import HandS.EndOwn
import PyProof.ReprRoads
import PyProof.ReprBulk
import HandS.Codes
import HandS.Walk
import HandS.TupSets
import HandS.ExcInit
import HandS.ExcField
import HandS.DictComp
import HandS.TupLen
import HandS.DictTup
import HandS.ListItems
import HandS.SortInts
import KE.KDictWalk
import PySem.Challenge.RW_quickbythen_k72_whole_fewest_rates
import KE.GoesEnum
set_option Elab.async false
set_option linter.all false
set_option maxRecDepth 100000
set_option maxHeartbeats 4000000
/-! # Text, heaps, the small tests of kinds -/
namespace Qb
open PySem PySem.Spec PyProof.Rows L2
/-- the i-th statement of the linked text -/
def topS (i : Nat) : Stmt := PySem.Challenge.pw_quickbythen_k72_whole_fewest_rates.main.body.getD i (.Pass ⟨0, 0, 0, 0⟩)
abbrev sIsList : Stmt := topS 3
abbrev sIsWhole : Stmt := topS 4
abbrev sIsPos : Stmt := topS 5
abbrev sBelow : Stmt := topS 6
abbrev sPair : Stmt := topS 10
abbrev sIsRow : Stmt := topS 11
abbrev sBadRow : Stmt := topS 12
abbrev sRoadOf : Stmt := topS 13
abbrev sJoined : Stmt := topS 14
abbrev sRoomTo : Stmt := topS 15
abbrev sRestIn : Stmt := topS 17
abbrev sApart : Stmt := topS 18
abbrev sChoices : Stmt := topS 19
abbrev sFewest : Stmt := topS 20
abbrev sStream : Stmt := topS 22
abbrev sDraw : Stmt := topS 23
abbrev sMixed : Stmt := topS 24
abbrev sSame : Stmt := topS 25
abbrev sLoose : Stmt := topS 26
abbrev sLBelow : Stmt := topS 27
abbrev sLLanes : Stmt := topS 28
abbrev sLRoom : Stmt := topS 29
abbrev sOther : Stmt := topS 30
abbrev sLRest : Stmt := topS 31
abbrev sSmall : Stmt := topS 32
abbrev sLists : Stmt := topS 33
abbrev sTell : Stmt := topS 34
abbrev sDue : Stmt := topS 35
abbrev sTried : Stmt := topS 36
abbrev sLaw : Stmt := topS 37

/-! ### heaps -/
theorem same_new {H : Hp} {p : Addr} {o : HO} (h : H p = none) : Same H (upd H p o) := fun b x e => by
  rw [upd_ne (ne_of_none e h)]
  exact e
/-- a list or a tuple that is tracked -/
def Sq (H : Hp) (a : Addr) (xs : List V) : Prop := H a = some (.lst xs) ∨ H a = some (.tup xs)
theorem Sq.go {H H' : Hp} {a : Addr} {xs : List V} (h : Sq H a xs) (e : Same H H') : Sq H' a xs := h.elim (fun h => .inl (e _ _ h)) fun h => .inr (e _ _ h)
theorem Sq.any {K : PySem.W.Frag} {H : Hp} {a : Addr} {xs : List V} (h : Sq H a xs) : SqL K H a xs ∨ SqT K H a xs := h.elim (fun h => .inl (SqL.of h)) fun h => .inr (SqT.of h)

/-- the kinds that are asked of -/
inductive Kd (H : Hp) : V → String → Prop where
  | non : Kd H .non "NoneType"
  | bl (b : Bool) : Kd H (.bl b) "bool"
  | int (i : Int) : Kd H (.int i) "int"
  | str (x : Str) : Kd H (.str x) "str"
  | lst {a : Addr} {xs : List V} (e : H a = some (.lst xs)) : Kd H (.ref a) "list"
  | tup {a : Addr} {xs : List V} (e : H a = some (.tup xs)) : Kd H (.ref a) "tuple"
  | dct {a : Addr} {kvs : List (Key × V)} (e : H a = some (.dK kvs)) : Kd H (.ref a) "dict"
theorem Kd.go {H H' : Hp} {x : V} {n : String} (k : Kd H x n) (e : Same H H') : Kd H' x n := by
  cases k with
  | non => exact .non
  | bl b => exact .bl b
  | int i => exact .int i
  | str x => exact .str x
  | lst h => exact .lst (e _ _ h)
  | tup h => exact .tup (e _ _ h)
  | dct h => exact .dct (e _ _ h)
theorem Kd.ty {K : PySem.W.Frag} {H : Hp} {x : V} {n : String} (k : Kd H x n) : TyX K H x (.type n) := by
  cases k with
  | non => exact .base .non
  | bl b => exact .base (.bl b)
  | int i => exact .base (.int i)
  | str x => exact .base (.str x)
  | lst h => exact .base (.lst h)
  | tup h => exact .base (.tup h)
  | dct h => exact .base (.dK h)
def isLT (n : String) : Bool := n == "list" || n == "tuple"
theorem kit_lt {K : PySem.W.Frag} {H : Hp} {x : V} {n : String} (k : Kd H x n) : PySem.W.kitAny K (.type n) [.type "list", .type "tuple"] = some (isLT n) := by
  cases k with
  | non => exact kitAny_cons (b := false) (kit_ty (by decide +kernel)) (fun _ => kitAny_cons (b := false) (kit_ty (by decide +kernel)) (fun _ => kitAny_nil) (fun z => nomatch z)) (fun z => nomatch z)
  | bl b => exact kitAny_cons (b := false) (kit_ty (by decide +kernel)) (fun _ => kitAny_cons (b := false) (kit_ty (by decide +kernel)) (fun _ => kitAny_nil) (fun z => nomatch z)) (fun z => nomatch z)
  | int i => exact kitAny_cons (b := false) (kit_ty (by decide +kernel)) (fun _ => kitAny_cons (b := false) (kit_ty (by decide +kernel)) (fun _ => kitAny_nil) (fun z => nomatch z)) (fun z => nomatch z)
  | str x => exact kitAny_cons (b := false) (kit_ty (by decide +kernel)) (fun _ => kitAny_cons (b := false) (kit_ty (by decide +kernel)) (fun _ => kitAny_nil) (fun z => nomatch z)) (fun z => nomatch z)
  | lst h => exact kitAny_cons (b := true) (kit_ty (by decide +kernel)) (fun z => nomatch z) (fun _ => by decide)
  | tup h => exact kitAny_cons (b := false) (kit_ty (by decide +kernel)) (fun _ => kitAny_cons (b := true) (kit_ty (by decide +kernel)) (fun z => nomatch z) (fun _ => by decide)) (fun z => nomatch z)
  | dct h => exact kitAny_cons (b := false) (kit_ty (by decide +kernel)) (fun _ => kitAny_cons (b := false) (kit_ty (by decide +kernel)) (fun _ => kitAny_nil) (fun z => nomatch z)) (fun z => nomatch z)

section
variable {P : Program} {w : World} {K : PySem.W.Frag} {mg : Str → Option Value} {base : Heap}
/-! ### is_list -/
theorem scIsList : FnScope ["thing"] ["thing"] (defScope sIsList) := ⟨rfl, rfl, rfl, by decide +kernel, rfl, by decide +kernel, by decide +kernel⟩
def spIsList : Sp := fun vs H Q _ => ∃ (x : V) (n : String), vs = [x] ∧ Kd H x n ∧ ∀ H', Same H H' → Q (.bl (isLT n)) H'
theorem ok_isList {f : Addr} {fd : FuncData} (F : Fun K "is_list" "is_list" sIsList f fd) (m1 : mg "isinstance" = none) (m2 : mg "list" = none) (m3 : mg "tuple" = none) : FnOk P w K mg base CX0 1 f fd ["thing"] spIsList := by
  refine F.ok scIsList (fun vs H Q E h => ?_) (fun cdv A outer s H vs Q E hr h => ?_)
  · obtain ⟨x, n, rfl, _⟩ := h
    rfl
  · obtain ⟨x, n, rfl, k, q⟩ := h
    refine ⟨_, pss_one (ps_ret (pe_callB call_isiT (by rfl) m1 (by decide +kernel) (pa_cons (pv 0) (pa_cons (pe_tup (pa_cons (pe_bltn (v := .ty "list") (by rfl) m2 (by decide +kernel) rfl) (pa_cons (pe_bltn (v := .ty "tuple") (by rfl) m3 (by decide +kernel) rfl) pa_nil))) pa_nil)))), ?_⟩
    refine ⟨x, rfl, ⟨by show 2 ≤ sizeLine; decide, fun p hp => ?_⟩⟩
    have s1 : Same H (upd H p (.tup [.ty "list", .ty "tuple"])) := same_new hp
    exact ⟨x, p, _, _, [.type "list", .type "tuple"], _, rfl, upd_same, .cons (.ty _) (.cons (.ty _) .nil), (k.go s1).ty, kit_lt k, q _ s1⟩
end
end Qb
set_option Elab.async false
set_option linter.all false
set_option maxRecDepth 100000
set_option maxHeartbeats 4000000
/-! # Heaps with some places left out; data that stands in a heap; walks over a list or a tuple -/
namespace Qb
open PySem PySem.Spec L2
open PyProof.Rows hiding St
/-! ### some places left out -/
def hid (L : List Addr) (H : Hp) : Hp := fun b => if b ∈ L then none else H b
theorem hid_some {L : List Addr} {H : Hp} {b : Addr} {o : HO} (h : hid L H b = some o) : b ∉ L ∧ H b = some o := by
  unfold hid at h
  split at h
  · cases h
  · exact ⟨by assumption, h⟩
theorem hid_eq {L : List Addr} {H : Hp} {b : Addr} (h : b ∉ L) : hid L H b = H b := by unfold hid; rw [if_neg h]
theorem hid_sub (L : List Addr) (H : Hp) : Same (hid L H) H := fun b o e => (hid_some e).2
theorem hid_mono {L : List Addr} {H H' : Hp} (s : Same H H') : Same (hid L H) (hid L H') := fun b o e => by
  rw [hid_eq (hid_some e).1]
  exact s _ _ (hid_some e).2
theorem hid_more {L L' : List Addr} {H H' : Hp} (s : Same (hid L H) (hid L H')) (hs : ∀ b ∈ L, b ∈ L') : Same (hid L' H) (hid L' H') := fun b o e => by
  obtain ⟨n, q⟩ := hid_some e
  have n' : b ∉ L := fun z => n (hs b z)
  have z := s b o (by rw [hid_eq n']; exact q)
  rw [hid_eq n'] at z
  rw [hid_eq n]
  exact z
theorem hid_drop {L L' : List Addr} {H : Hp} (hs : ∀ b ∈ L, b ∈ L') : Same (hid L' H) (hid L H) := fun b o e => by
  obtain ⟨n, q⟩ := hid_some e
  rw [hid_eq (fun z => n (hs b z))]
  exact q
theorem hid_at {L : List Addr} {H : Hp} {p : Addr} {o : HO} (h : p ∈ L) : hid L (upd H p o) = hid L H := by
  funext b
  unfold hid
  by_cases hb : b ∈ L
  · rw [if_pos hb, if_pos hb]
  · have n : b ≠ p := fun z => hb (by rw [z]; exact h)
    rw [if_neg hb, if_neg hb, upd_ne n]
theorem hid_new {L : List Addr} {H : Hp} {p : Addr} {o : HO} (h : H p = none) : Same (hid L H) (hid L (upd H p o)) := hid_mono (same_new h)
theorem hid_put {L : List Addr} {H : Hp} {p : Addr} {o : HO} (h : p ∉ L) : hid L (upd H p o) = upd (hid L H) p o := by
  funext b
  show (if b ∈ L then none else if b = p then some o else H b) = if b = p then some o else if b ∈ L then none else H b
  by_cases hb : b ∈ L
  · have n : b ≠ p := fun z => h (z ▸ hb)
    rw [if_pos hb, if_pos hb, if_neg n]
  · rw [if_neg hb, if_neg hb]
/-- what stood before stands beside the new place -/
theorem same_hid {H H' : Hp} {L : List Addr} (s : Same H H') (hn : ∀ b ∈ L, H b = none) : Same H (hid L H') := fun b o e => by
  have n : b ∉ L := fun z => by rw [hn b z] at e; cases e
  rw [hid_eq n]
  exact s b o e

/-! ### pairs of lists -/
section
variable {α β γ : Type} {F : α → β → Prop}
theorem pd_get : ∀ {xs : List α} {l : List β} {i : Nat} {x : α}, Paired F xs l → xs[i]? = some x → ∃ y, l[i]? = some y ∧ F x y
  | _, _, i, x, .nil, e => by simp at e
  | _, _, 0, x, .cons h t, e => by
    simp only [List.getElem?_cons_zero, Option.some.injEq] at e
    exact ⟨_, rfl, e ▸ h⟩
  | _, _, i + 1, x, .cons h t, e => by
    simp only [List.getElem?_cons_succ] at e ⊢
    exact pd_get t e
theorem pd_get' : ∀ {xs : List α} {l : List β} {i : Nat} {y : β}, Paired F xs l → l[i]? = some y → ∃ x, xs[i]? = some x ∧ F x y
  | _, _, i, x, .nil, e => by simp at e
  | _, _, 0, x, .cons h t, e => by
    simp only [List.getElem?_cons_zero, Option.some.injEq] at e
    exact ⟨_, rfl, e ▸ h⟩
  | _, _, i + 1, x, .cons h t, e => by
    simp only [List.getElem?_cons_succ] at e ⊢
    exact pd_get' t e
theorem pd_app : ∀ {xs ys : List α} {l m : List β}, Paired F xs l → Paired F ys m → Paired F (xs ++ ys) (l ++ m)
  | _, _, _, _, .nil, h => h
  | _, _, _, _, .cons a t, h => .cons a (pd_app t h)
theorem pd_take : ∀ {xs : List α} {l : List β} (n : Nat), Paired F xs l → Paired F (xs.take n) (l.take n)
  | _, _, 0, h => .nil
  | _, _, n + 1, .nil => .nil
  | _, _, n + 1, .cons a t => .cons a (pd_take n t)
theorem pd_drop : ∀ {xs : List α} {l : List β} (n : Nat), Paired F xs l → Paired F (xs.drop n) (l.drop n)
  | _, _, 0, h => h
  | _, _, n + 1, .nil => .nil
  | _, _, n + 1, .cons a t => pd_drop n t
theorem pd_erase : ∀ {xs : List α} {l : List β} (n : Nat), Paired F xs l → Paired F (xs.eraseIdx n) (l.eraseIdx n)
  | _, _, 0, .nil => .nil
  | _, _, 0, .cons a t => t
  | _, _, n + 1, .nil => .nil
  | _, _, n + 1, .cons a t => .cons a (pd_erase n t)
theorem pd_set : ∀ {xs : List α} {l : List β} (n : Nat) {x : α} {y : β}, F x y → Paired F xs l → Paired F (xs.set n x) (l.set n y)
  | _, _, 0, _, _, _, .nil => .nil
  | _, _, 0, _, _, h, .cons a t => .cons h t
  | _, _, n + 1, _, _, _, .nil => .nil
  | _, _, n + 1, _, _, h, .cons a t => .cons a (pd_set n h t)
theorem pd_of {xs : List α} {l : List β} (hl : xs.length = l.length) (h : ∀ (i : Nat) (x : α) (y : β), xs[i]? = some x → l[i]? = some y → F x y) : Paired F xs l := by
  induction xs generalizing l with
  | nil => cases l with
    | nil => exact .nil
    | cons => simp at hl
  | cons x xs ih => cases l with
    | nil => simp at hl
    | cons y l => exact .cons (h 0 _ _ rfl rfl) (ih (by simpa using hl) fun i a b e e' => h (i + 1) a b (by simpa using e) (by simpa using e'))
theorem pd_map {δ : Type} {G : γ → δ → Prop} {f : γ → α} {g : δ → β} : ∀ {xs : List γ} {l : List δ}, Paired G xs l → (∀ a b, G a b → F (f a) (g b)) → Paired F (xs.map f) (l.map g)
  | _, _, .nil, _ => .nil
  | _, _, .cons a t, h => .cons (h _ _ a) (pd_map t h)
end

/-! ### data in a heap -/
abbrev DR (α : Type) := Hp → V → α → Prop
def Mono {α : Type} (R : DR α) : Prop := ∀ H H' v a, Same H H' → R H v a → R H' v a
def IntR : DR Int := fun _ v i => v = .int i
theorem mIntR : Mono IntR := fun _ _ _ _ _ h => h
def PairR : DR (Int × Int) := fun H v q => ∃ a, v = .ref a ∧ Sq H a [.int q.1, .int q.2]
theorem mPairR : Mono PairR := fun _ _ _ _ s ⟨a, e, h⟩ => ⟨a, e, h.go s⟩
def TpR : DR (Int × Int) := fun H v q => ∃ a, v = .ref a ∧ H a = some (.tup [.int q.1, .int q.2])
theorem mTpR : Mono TpR := fun _ _ _ _ s ⟨a, e, h⟩ => ⟨a, e, s _ _ h⟩
theorem TpR.pair {H : Hp} {v : V} {q : Int × Int} (h : TpR H v q) : PairR H v q := let ⟨a, e, h⟩ := h; ⟨a, e, .inr h⟩
def SeqR {α : Type} (R : DR α) : DR (List α) := fun H v l => ∃ a xs, v = .ref a ∧ Sq H a xs ∧ Paired (R H) xs l
theorem mSeqR {α : Type} {R : DR α} (m : Mono R) : Mono (SeqR R) := fun _ _ _ _ s ⟨a, xs, e, h, p⟩ => ⟨a, xs, e, h.go s, p.mono fun _ _ q => m _ _ _ _ s q⟩
def LstR {α : Type} (R : DR α) : DR (List α) := fun H v l => ∃ a xs, v = .ref a ∧ H a = some (.lst xs) ∧ Paired (R H) xs l
theorem mLstR {α : Type} {R : DR α} (m : Mono R) : Mono (LstR R) := fun _ _ _ _ s ⟨a, xs, e, h, p⟩ => ⟨a, xs, e, s _ _ h, p.mono fun _ _ q => m _ _ _ _ s q⟩
theorem LstR.seq {α : Type} {R : DR α} {H : Hp} {v : V} {l : List α} (h : LstR R H v l) : SeqR R H v l := let ⟨a, xs, e, h, p⟩ := h; ⟨a, xs, e, .inl h, p⟩
theorem LstR.up {α : Type} {R R' : DR α} {H : Hp} {v : V} {l : List α} (hR : ∀ v y, R H v y → R' H v y) (h : LstR R H v l) : LstR R' H v l := let ⟨a, xs, e, h, p⟩ := h; ⟨a, xs, e, h, p.mono hR⟩
theorem SeqR.up {α : Type} {R R' : DR α} {H : Hp} {v : V} {l : List α} (hR : ∀ v y, R H v y → R' H v y) (h : SeqR R H v l) : SeqR R' H v l := let ⟨a, xs, e, h, p⟩ := h; ⟨a, xs, e, h, p.mono hR⟩
abbrev RowR := SeqR PairR
abbrev BunR := SeqR RowR
abbrev BunsR := SeqR BunR
abbrev IntsR := LstR IntR
abbrev LanesR := LstR TpR
theorem mRowR : Mono RowR := mSeqR mPairR
theorem mBunR : Mono BunR := mSeqR mRowR
theorem mBunsR : Mono BunsR := mSeqR mBunR
theorem mIntsR : Mono IntsR := mLstR mIntR
theorem mLanesR : Mono LanesR := mLstR mTpR
theorem ints_eq {H : Hp} {xs : List V} {ns : List Int} (h : Paired (IntR H) xs ns) : xs = ns.map V.int := by
  induction h with
  | nil => rfl
  | cons a _ ih => rw [List.map_cons, ih]; rw [show _ = _ from a]
theorem ints_of {H : Hp} (ns : List Int) : Paired (IntR H) (ns.map V.int) ns := by
  induction ns with
  | nil => exact .nil
  | cons a _ ih => exact .cons rfl ih

/-! ### a walk by either of two readings, the reading known ahead -/
def iOr (a b : TI) : TI := fun σ H R => a σ H R ∨ b σ H R
theorem pi_or {X : Cx} {tg e : Expr} {a b : TI} (h1 : PI X tg e a) (h2 : PI X tg e b) : PI X tg e (iOr a b) := ⟨fun pins s σ H R I h => h.elim (h1.run pins s σ H R I) (h2.run pins s σ H R I)⟩
def gOr (a b : TG) : TG := fun v σ H Q => a v σ H Q ∨ b v σ H Q
theorem pg_or {X : Cx} {t : Expr} {a b : TG} (h1 : PG X t a) (h2 : PG X t b) : PG X t (gOr a b) := ⟨fun pins s σ H v u Q I r h => h.elim (h1.run pins s σ H v u Q I r) (h2.run pins s σ H v u Q I r)⟩
abbrev iSq (K : PySem.W.Frag) (i : Nat) : TI := iOr (iList K (tVar i)) (iTup K (tVar i))
abbrev gSq (K : PySem.W.Frag) (n : Nat) (t : TGs) : TG := gOr (gTup K n t) (gUnl K n t)
theorem pi_sq {X : Cx} {tg e : Expr} {i : Nat} (h : PE X e (tVar i)) : PI X tg e (iSq X.K i) := pi_or (pi_list h) (pi_tup h)
theorem pg_sq {X : Cx} {pos : Pos} {es : List Expr} {k : Nat} {t : TGs} {n : Nat} (hc : X.calm = true) (h : PGs X es t)
    (hn : (assignEach es X.env).length = n := by rfl) (hst : (assignEach es X.env).findIdx? (·.1) = none := by rfl) : PG X (.Tuple es k pos) (gSq X.K n t) := pg_or (pg_tup hc h hn hst) (pg_unl hc h hn hst)
/-- a, b = a pair -/
theorem g_pair {K : PySem.W.Frag} {H : Hp} {v : V} {q : Int × Int} {i j : Nat} {σ : St} {Q : St → Hp → Prop} (h : PairR H v q) (k : Q ((σ.set i (some (.int q.1))).set j (some (.int q.2))) H) : gSq K 2 (gCons (gName i) (gCons (gName j) gNil)) v σ H Q := by
  obtain ⟨a, rfl, h⟩ := h
  rcases h with h | h
  · exact .inr ⟨a, _, rfl, SqL.of h, rfl, _, _, rfl, _, _, rfl, rfl, k⟩
  · exact .inl ⟨a, _, rfl, SqT.of h, rfl, _, _, rfl, _, _, rfl, rfl, k⟩
theorem g_tp {K : PySem.W.Frag} {H : Hp} {v : V} {q : Int × Int} {i j : Nat} {σ : St} {Q : St → Hp → Prop} (h : TpR H v q) (k : Q ((σ.set i (some (.int q.1))).set j (some (.int q.2))) H) : gTup K 2 (gCons (gName i) (gCons (gName j) gNil)) v σ H Q := by
  obtain ⟨a, rfl, h⟩ := h
  exact ⟨a, _, rfl, SqT.of h, rfl, _, _, rfl, _, _, rfl, rfl, k⟩
/-- a comprehension over a list or tuple that is walked by its name -/
theorem lc_sq {K : PySem.W.Frag} {i : Nat} {g : TG} {tt : TT} {te : TE} {vs : List Nat} {σ : St} {H : Hp} {Q : VK} {a : Addr} {xs : List V} (hv : σ[i]? = some (some (.ref a))) (h : Sq H a xs) (Pv : Addr → Nat → Hp → Prop)
    (h0 : ∀ D, H D = none → Pv D 0 (upd H D (.lst []))) (hk : ∀ D n H', n ≤ xs.length → Pv D n H' → H' a = H a)
    (hs : ∀ D, H D = none → ∀ n x H', xs[n]? = some x → Pv D n H' → g x (wipe σ vs) H' fun σ2 H2 => wipe σ2 vs = wipe σ vs ∧ tt σ2 H2 fun b H3 =>
      if b = true then te σ2 H3 fun y H4 => ∃ acc, H4 D = some (.lst acc) ∧ acc.length < sizeLine ∧ Pv D (n + 1) (upd H4 D (.lst (acc ++ [y]))) else Pv D (n + 1) H3)
    (hd : ∀ D H', H D = none → Pv D xs.length H' → Q (.ref D) H') : tLc (iSq K i) g tt te vs σ H Q := by
  rcases h with h | h
  · refine .inl ⟨_, hv, a, rfl, ⟨xs, SqL.of h⟩, fun D hD => ?_⟩
    exact lc_list (K := K) (a := a) (xs := xs) (Pv D) (h0 D hD) (fun n H' hn p => SqL.of ((hk D n H' hn p).trans h)) (hs D hD) (fun H' p => hd D H' hD p)
  · refine .inr ⟨_, hv, a, rfl, ⟨xs, SqT.of h⟩, fun D hD => ?_⟩
    exact lc_tup (K := K) (a := a) (xs := xs) (Pv D) (h0 D hD) (fun n H' hn p => SqT.of ((hk D n H' hn p).trans h)) (hs D hD) (fun H' p => hd D H' hD p)
theorem lc_ls {K : PySem.W.Frag} {i : Nat} {g : TG} {tt : TT} {te : TE} {vs : List Nat} {σ : St} {H : Hp} {Q : VK} {a : Addr} {xs : List V} (hv : σ[i]? = some (some (.ref a))) (h : H a = some (.lst xs)) (Pv : Addr → Nat → Hp → Prop)
    (h0 : ∀ D, H D = none → Pv D 0 (upd H D (.lst []))) (hk : ∀ D n H', n ≤ xs.length → Pv D n H' → H' a = H a)
    (hs : ∀ D, H D = none → ∀ n x H', xs[n]? = some x → Pv D n H' → g x (wipe σ vs) H' fun σ2 H2 => wipe σ2 vs = wipe σ vs ∧ tt σ2 H2 fun b H3 =>
      if b = true then te σ2 H3 fun y H4 => ∃ acc, H4 D = some (.lst acc) ∧ acc.length < sizeLine ∧ Pv D (n + 1) (upd H4 D (.lst (acc ++ [y]))) else Pv D (n + 1) H3)
    (hd : ∀ D H', H D = none → Pv D xs.length H' → Q (.ref D) H') : tLc (iList K (tVar i)) g tt te vs σ H Q :=
  ⟨_, hv, a, rfl, ⟨xs, SqL.of h⟩, fun D hD => lc_list (K := K) (a := a) (xs := xs) (Pv D) (h0 D hD) (fun n H' hn p => SqL.of ((hk D n H' hn p).trans h)) (hs D hD) (fun H' p => hd D H' hD p)⟩
/-- what a map with a filter holds on its way -/
def MapI {β : Type} (R' : DR β) (H : Hp) (D : Addr) (out : List β) (H' : Hp) : Prop := ∃ acc, H' D = some (.lst acc) ∧ Same H (hid [D] H') ∧ Paired (R' (hid [D] H')) acc out
theorem MapI.start {β : Type} {R' : DR β} {H : Hp} {D : Addr} (h : H D = none) : MapI R' H D [] (upd H D (.lst [])) :=
  ⟨[], upd_same, by rw [hid_at (List.mem_singleton_self _)]; exact same_hid (Same.refl _) (fun b hb => by rw [List.mem_singleton.mp hb]; exact h), .nil⟩
theorem MapI.keep {β : Type} {R' : DR β} {H : Hp} {D : Addr} {out : List β} {H' H2 : Hp} (m : Mono R') (h : MapI R' H D out H') (s : Same H' H2) : MapI R' H D out H2 := by
  obtain ⟨acc, e, s0, p⟩ := h
  exact ⟨acc, s _ _ e, s0.trans (hid_mono s), p.mono fun _ _ q => m _ _ _ _ (hid_mono s) q⟩
theorem MapI.add {β : Type} {R' : DR β} {H : Hp} {D : Addr} {out : List β} {H' H2 : Hp} {v : V} {z : β} (m : Mono R') (h : MapI R' H D out H') (s : Same H' H2) (hl : out.length < sizeLine) (r : R' (hid [D] H2) v z) :
    ∃ acc, H2 D = some (.lst acc) ∧ acc.length < sizeLine ∧ MapI R' H D (out ++ [z]) (upd H2 D (.lst (acc ++ [v]))) := by
  obtain ⟨acc, e, s0, p⟩ := h.keep m s
  refine ⟨acc, e, by rw [p.length]; exact hl, _, upd_same, ?_, ?_⟩
  · rw [hid_at (List.mem_singleton_self _)]; exact s0
  · rw [hid_at (List.mem_singleton_self _)]; exact p.snoc r
theorem MapI.out {β : Type} {R' : DR β} {H : Hp} {D : Addr} {out : List β} {H' : Hp} (m : Mono R') (h : MapI R' H D out H') (hD : H D = none) : Same H H' ∧ LstR R' H' (.ref D) out := by
  obtain ⟨acc, e, s0, p⟩ := h
  exact ⟨s0.trans (hid_sub _ _), D, acc, rfl, e, p.mono fun _ _ q => m _ _ _ _ (hid_sub _ _) q⟩
theorem filterMap_take {α β : Type} (f : α → Option β) (l : List α) (n : Nat) (y : α) (h : l[n]? = some y) : (l.take (n + 1)).filterMap f = (l.take n).filterMap f ++ (f y).toList := by
  rw [List.take_add_one, h, List.filterMap_append]
  cases e : f y <;> simp [e]
/-- a comprehension over a sequence: each item mapped or left out, what stood stands -/
theorem lc_fm {α β : Type} {R : DR α} {R' : DR β} {K : PySem.W.Frag} {i : Nat} {g : TG} {tt : TT} {te : TE} {vs : List Nat} {σ : St} {H : Hp} {Q : VK} {a : Addr} {xs : List V} {l : List α} (f : α → Option β) (m : Mono R) (m' : Mono R')
    (hv : σ[i]? = some (some (.ref a))) (h : Sq H a xs) (hp : Paired (R H) xs l) (hl : l.length ≤ sizeLine)
    (step : ∀ D H' x y, y ∈ l → H D = none → (∃ acc, H' D = some (.lst acc)) → Same H (hid [D] H') → R (hid [D] H') x y → ∀ (Kt : V → Hp → Prop) (Kf : Hp → Prop), (∀ z, f y = some z → ∀ v H2, Same H' H2 → R' (hid [D] H2) v z → Kt v H2) → (f y = none → ∀ H2, Same H' H2 → Kf H2) →
      g x (wipe σ vs) H' fun σ2 H2 => wipe σ2 vs = wipe σ vs ∧ tt σ2 H2 fun b H3 => if b = true then te σ2 H3 Kt else Kf H3)
    (fin : ∀ D H', H D = none → Same H H' → LstR R' H' (.ref D) (l.filterMap f) → Q (.ref D) H') : tLc (iSq K i) g tt te vs σ H Q := by
  have hxl := hp.length
  refine lc_sq hv h (fun D n H' => H D = none ∧ MapI R' H D ((l.take n).filterMap f) H') (fun D hD => ⟨hD, by simpa using MapI.start hD⟩) (fun D n H' _ p => ?_) (fun D hD n x H' hx p => ?_) (fun D H' hD p => ?_)
  · obtain ⟨_, acc, _, s0, _⟩ := p
    rcases h with h | h
    · rw [h]; exact (hid_some (s0 _ _ h)).2
    · rw [h]; exact (hid_some (s0 _ _ h)).2
  · obtain ⟨y, hy, r⟩ := pd_get hp hx
    have s0 : Same H (hid [D] H') := by obtain ⟨_, acc, _, s0, _⟩ := p; exact s0
    have hlt : ((l.take n).filterMap f).length < sizeLine := by
      have h1 : n < l.length := (List.getElem?_eq_some_iff.mp hy).1
      have h2 := List.length_filterMap_le f (l.take n)
      rw [List.length_take] at h2
      omega
    refine step D H' x y (List.mem_of_getElem? hy) hD (let ⟨acc, e, _⟩ := p.2; ⟨acc, e⟩) s0 (m _ _ _ _ s0 r) _ _ (fun z ez v H2 s2 rz => ?_) (fun ez H2 s2 => ?_)
    · obtain ⟨acc, e1, e2, e3⟩ := p.2.add m' s2 hlt rz
      refine ⟨acc, e1, e2, hD, ?_⟩
      rw [filterMap_take f l n y hy, ez]
      exact e3
    · refine ⟨hD, ?_⟩
      rw [filterMap_take f l n y hy, ez, Option.toList_none, List.append_nil]
      exact p.2.keep m' s2
  · obtain ⟨s1, s2⟩ := p.2.out m' hD
    rw [hxl, List.take_length] at s2
    exact fin D H' hD s1 s2
/-- the same where the walked thing is a list -/
theorem lc_fml {α β : Type} {R : DR α} {R' : DR β} {K : PySem.W.Frag} {i : Nat} {g : TG} {tt : TT} {te : TE} {vs : List Nat} {σ : St} {H : Hp} {Q : VK} {a : Addr} {xs : List V} {l : List α} (f : α → Option β) (m : Mono R) (m' : Mono R')
    (hv : σ[i]? = some (some (.ref a))) (h : H a = some (.lst xs)) (hp : Paired (R H) xs l) (hl : l.length ≤ sizeLine)
    (step : ∀ D H' x y, y ∈ l → H D = none → (∃ acc, H' D = some (.lst acc)) → Same H (hid [D] H') → R (hid [D] H') x y → ∀ (Kt : V → Hp → Prop) (Kf : Hp → Prop), (∀ z, f y = some z → ∀ v H2, Same H' H2 → R' (hid [D] H2) v z → Kt v H2) → (f y = none → ∀ H2, Same H' H2 → Kf H2) →
      g x (wipe σ vs) H' fun σ2 H2 => wipe σ2 vs = wipe σ vs ∧ tt σ2 H2 fun b H3 => if b = true then te σ2 H3 Kt else Kf H3)
    (fin : ∀ D H', H D = none → Same H H' → LstR R' H' (.ref D) (l.filterMap f) → Q (.ref D) H') : tLc (iList K (tVar i)) g tt te vs σ H Q := by
  have hxl := hp.length
  refine lc_ls hv h (fun D n H' => H D = none ∧ MapI R' H D ((l.take n).filterMap f) H') (fun D hD => ⟨hD, by simpa using MapI.start hD⟩) (fun D n H' _ p => ?_) (fun D hD n x H' hx p => ?_) (fun D H' hD p => ?_)
  · obtain ⟨_, acc, _, s0, _⟩ := p
    rw [h]; exact (hid_some (s0 _ _ h)).2
  · obtain ⟨y, hy, r⟩ := pd_get hp hx
    have s0 : Same H (hid [D] H') := by obtain ⟨_, acc, _, s0, _⟩ := p; exact s0
    have hlt : ((l.take n).filterMap f).length < sizeLine := by
      have h1 : n < l.length := (List.getElem?_eq_some_iff.mp hy).1
      have h2 := List.length_filterMap_le f (l.take n)
      rw [List.length_take] at h2
      omega
    refine step D H' x y (List.mem_of_getElem? hy) hD (let ⟨acc, e, _⟩ := p.2; ⟨acc, e⟩) s0 (m _ _ _ _ s0 r) _ _ (fun z ez v H2 s2 rz => ?_) (fun ez H2 s2 => ?_)
    · obtain ⟨acc, e1, e2, e3⟩ := p.2.add m' s2 hlt rz
      refine ⟨acc, e1, e2, hD, ?_⟩
      rw [filterMap_take f l n y hy, ez]
      exact e3
    · refine ⟨hD, ?_⟩
      rw [filterMap_take f l n y hy, ez, Option.toList_none, List.append_nil]
      exact p.2.keep m' s2
  · obtain ⟨s1, s2⟩ := p.2.out m' hD
    rw [hxl, List.take_length] at s2
    exact fin D H' hD s1 s2
theorem lc_lb {K : PySem.W.Frag} {g : TG} {tt : TT} {te : TE} {vs : List Nat} {σ : St} {H : Hp} {Q : VK} {a : Addr} {xs : List V} (h : H a = some (.lst xs)) (Pv : Addr → Nat → Hp → Prop)
    (h0 : ∀ D, H D = none → Pv D 0 (upd H D (.lst []))) (hk : ∀ D n H', n ≤ xs.length → Pv D n H' → H' a = H a)
    (hs : ∀ D, H D = none → ∀ n x H', xs[n]? = some x → Pv D n H' → g x (wipe σ vs) H' fun σ2 H2 => wipe σ2 vs = wipe σ vs ∧ tt σ2 H2 fun b H3 =>
      if b = true then te σ2 H3 fun y H4 => ∃ acc, H4 D = some (.lst acc) ∧ acc.length < sizeLine ∧ Pv D (n + 1) (upd H4 D (.lst (acc ++ [y]))) else Pv D (n + 1) H3)
    (hd : ∀ D H', H D = none → Pv D xs.length H' → Q (.ref D) H') : tLc (fun _ H1 R => R (Itl K a) H1) g tt te vs σ H Q :=
  fun D hD => lc_list (K := K) (a := a) (xs := xs) (Pv D) (h0 D hD) (fun n H' hn p => SqL.of ((hk D n H' hn p).trans h)) (hs D hD) (fun H' p => hd D H' hD p)
/-- the same where the list has come -/
theorem lc_fmb {α β : Type} {R : DR α} {R' : DR β} {K : PySem.W.Frag} {g : TG} {tt : TT} {te : TE} {vs : List Nat} {σ : St} {H : Hp} {Q : VK} {a : Addr} {xs : List V} {l : List α} (f : α → Option β) (m : Mono R) (m' : Mono R')
    (h : H a = some (.lst xs)) (hp : Paired (R H) xs l) (hl : l.length ≤ sizeLine)
    (step : ∀ D H' x y, y ∈ l → H D = none → (∃ acc, H' D = some (.lst acc)) → Same H (hid [D] H') → R (hid [D] H') x y → ∀ (Kt : V → Hp → Prop) (Kf : Hp → Prop), (∀ z, f y = some z → ∀ v H2, Same H' H2 → R' (hid [D] H2) v z → Kt v H2) → (f y = none → ∀ H2, Same H' H2 → Kf H2) →
      g x (wipe σ vs) H' fun σ2 H2 => wipe σ2 vs = wipe σ vs ∧ tt σ2 H2 fun b H3 => if b = true then te σ2 H3 Kt else Kf H3)
    (fin : ∀ D H', H D = none → Same H H' → LstR R' H' (.ref D) (l.filterMap f) → Q (.ref D) H') : tLc (fun _ H1 R => R (Itl K a) H1) g tt te vs σ H Q := by
  have hxl := hp.length
  refine lc_lb h (fun D n H' => H D = none ∧ MapI R' H D ((l.take n).filterMap f) H') (fun D hD => ⟨hD, by simpa using MapI.start hD⟩) (fun D n H' _ p => ?_) (fun D hD n x H' hx p => ?_) (fun D H' hD p => ?_)
  · obtain ⟨_, acc, _, s0, _⟩ := p
    rw [h]; exact (hid_some (s0 _ _ h)).2
  · obtain ⟨y, hy, r⟩ := pd_get hp hx
    have s0 : Same H (hid [D] H') := by obtain ⟨_, acc, _, s0, _⟩ := p; exact s0
    have hlt : ((l.take n).filterMap f).length < sizeLine := by
      have h1 : n < l.length := (List.getElem?_eq_some_iff.mp hy).1
      have h2 := List.length_filterMap_le f (l.take n)
      rw [List.length_take] at h2
      omega
    refine step D H' x y (List.mem_of_getElem? hy) hD (let ⟨acc, e, _⟩ := p.2; ⟨acc, e⟩) s0 (m _ _ _ _ s0 r) _ _ (fun z ez v H2 s2 rz => ?_) (fun ez H2 s2 => ?_)
    · obtain ⟨acc, e1, e2, e3⟩ := p.2.add m' s2 hlt rz
      refine ⟨acc, e1, e2, hD, ?_⟩
      rw [filterMap_take f l n y hy, ez]
      exact e3
    · refine ⟨hD, ?_⟩
      rw [filterMap_take f l n y hy, ez, Option.toList_none, List.append_nil]
      exact p.2.keep m' s2
  · obtain ⟨s1, s2⟩ := p.2.out m' hD
    rw [hxl, List.take_length] at s2
    exact fin D H' hD s1 s2
end Qb
set_option Elab.async false
set_option linter.all false
set_option maxRecDepth 100000
set_option maxHeartbeats 4000000
/-! # What the top has left: each def, the builtins -/
namespace Qb
open PySem PySem.Spec L2
open PyProof.Rows hiding St
structure Df (K : PySem.W.Frag) (mg : Str → Option Value) (x : Str) (st : Stmt) (ps : List Str) (f : Addr) (fd : FuncData) : Prop where
  F : Fun K x x st f fd
  m : mg x = some (.ref f)
  b : Binds K fd ps []
theorem pe_df {X : Cx} {x : Str} {st : Stmt} {ps : List Str} {f : Addr} {fd : FuncData} {k : Nat} {sp : Sp} {e : Expr} {es : List Expr} {t : TA} {p pos : Pos} (G : FnOk X.prog X.w X.K X.mg X.base CX0 k f fd ps sp) (D : Df X.K X.mg x st ps f fd) (hr : Room k X.A) (hg : Gl X x) (ha : PA X (e :: es) t)
    (hdb : (x == ("__debug__" : Str)) = false := by decide) (he : starEach (e :: es) X.env = (false, eval e X.env) :: starEach es X.env := by rfl) (hpl : (backTo pos (starEach es X.env)).any (·.1) = false := by rfl) :
    PE X (.Call (.Name x p) (e :: es) [] pos) (tCall sp [] E0 t) := pe_call G hr hg D.m D.F.kp D.b .nil pass0 ha hdb he hpl
structure Txt (K : PySem.W.Frag) (mg : Str → Option Value) where
  (f_isList : Addr)
  (d_isList : FuncData)
  (D_isList : Df K mg "is_list" sIsList ["thing"] f_isList d_isList)
  (f_isWhole : Addr)
  (d_isWhole : FuncData)
  (D_isWhole : Df K mg "is_whole" sIsWhole ["thing"] f_isWhole d_isWhole)
  (f_isPos : Addr)
  (d_isPos : FuncData)
  (D_isPos : Df K mg "is_positive" sIsPos ["thing"] f_isPos d_isPos)
  (f_below : Addr)
  (d_below : FuncData)
  (D_below : Df K mg "is_below" sBelow ["one", "other"] f_below d_below)
  (f_isPair : Addr)
  (d_isPair : FuncData)
  (D_isPair : Df K mg "is_pair_of" sPair ["road"] f_isPair d_isPair)
  (f_isRow : Addr)
  (d_isRow : FuncData)
  (D_isRow : Df K mg "is_row" sIsRow ["thing"] f_isRow d_isRow)
  (f_badRow : Addr)
  (d_badRow : FuncData)
  (D_badRow : Df K mg "bad_row" sBadRow ["thing"] f_badRow d_badRow)
  (f_roadOf : Addr)
  (d_roadOf : FuncData)
  (D_roadOf : Df K mg "road_of" sRoadOf ["row"] f_roadOf d_roadOf)
  (f_joined : Addr)
  (d_joined : FuncData)
  (D_joined : Df K mg "joined_lanes" sJoined ["bundle"] f_joined d_joined)
  (f_roomTo : Addr)
  (d_roomTo : FuncData)
  (D_roomTo : Df K mg "room_to" sRoomTo ["known", "number"] f_roomTo d_roomTo)
  (f_restIn : Addr)
  (d_restIn : FuncData)
  (D_restIn : Df K mg "rest_in" sRestIn ["known", "rate"] f_restIn d_restIn)
  (f_apart : Addr)
  (d_apart : FuncData)
  (D_apart : Df K mg "are_told_apart" sApart ["rows", "rates"] f_apart d_apart)
  (f_choices : Addr)
  (d_choices : FuncData)
  (D_choices : Df K mg "choices_of" sChoices ["many", "size"] f_choices d_choices)
  (f_fewest : Addr)
  (d_fewest : FuncData)
  (D_fewest : Df K mg "fewest_rates" sFewest ["bundles"] f_fewest d_fewest)
  (f_stream : Addr)
  (d_stream : FuncData)
  (D_stream : Df K mg "_law_stream" sStream ["_law_script"] f_stream d_stream)
  (f_draw : Addr)
  (d_draw : FuncData)
  (D_draw : Df K mg "_law_draw" sDraw ["_law_stream_here", "_law_many"] f_draw d_draw)
  (f_mixed : Addr)
  (d_mixed : FuncData)
  (D_mixed : Df K mg "_law_mixed" sMixed ["_law_stream_here", "_law_things"] f_mixed d_mixed)
  (f_same : Addr)
  (d_same : FuncData)
  (D_same : Df K mg "_law_same" sSame ["_law_found", "_law_due_here"] f_same d_same)
  (f_loose : Addr)
  (d_loose : FuncData)
  (D_loose : Df K mg "_law_loose" sLoose ["_law_stream_here", "_law_thing"] f_loose d_loose)
  (f_lbelow : Addr)
  (d_lbelow : FuncData)
  (D_lbelow : Df K mg "_law_is_below" sLBelow ["_law_one", "_law_other"] f_lbelow d_lbelow)
  (f_llanes : Addr)
  (d_llanes : FuncData)
  (D_llanes : Df K mg "_law_lanes" sLLanes ["_law_bundle"] f_llanes d_llanes)
  (f_lroom : Addr)
  (d_lroom : FuncData)
  (D_lroom : Df K mg "_law_room" sLRoom ["_law_lanes_here", "_law_number"] f_lroom d_lroom)
  (f_other : Addr)
  (d_other : FuncData)
  (D_other : Df K mg "_law_other_form" sOther ["_law_stream_here", "_law_bundle"] f_other d_other)
  (f_lrest : Addr)
  (d_lrest : FuncData)
  (D_lrest : Df K mg "_law_rest_in" sLRest ["_law_lanes_here", "_law_rate"] f_lrest d_lrest)
  (f_small : Addr)
  (d_small : FuncData)
  (D_small : Df K mg "_law_small_bundle" sSmall ["_law_stream_here", "_law_most"] f_small d_small)
  (f_lists : Addr)
  (d_lists : FuncData)
  (D_lists : Df K mg "_law_lists" sLists ["_law_most", "_law_many"] f_lists d_lists)
  (f_tell : Addr)
  (d_tell : FuncData)
  (D_tell : Df K mg "_law_tell_apart" sTell ["_law_rows", "_law_rates"] f_tell d_tell)
  (f_due : Addr)
  (d_due : FuncData)
  (D_due : Df K mg "_law_due" sDue ["_law_bundles"] f_due d_due)
  (f_tried : Addr)
  (d_tried : FuncData)
  (D_tried : Df K mg "_law_tried" sTried ["_law_ask"] f_tried d_tried)
  (z_isinstance : mg "isinstance" = none)
  (z_list : mg "list" = none)
  (z_tuple : mg "tuple" = none)
  (z_int : mg "int" = none)
  (z_bool : mg "bool" = none)
  (z_len : mg "len" = none)
  (z_all : mg "all" = none)
  (z_sum : mg "sum" = none)
  (z_min : mg "min" = none)
  (z_max : mg "max" = none)
  (z_sorted : mg "sorted" = none)
  (z_range : mg "range" = none)
  (z_enumerate : mg "enumerate" = none)
  (z_set : mg "set" = none)
  (z_zip : mg "zip" = none)
  (z_abs : mg "abs" = none)
  (z_dict : mg "dict" = none)
  (z_repr : mg "repr" = none)
end Qb
set_option Elab.async false
set_option linter.all false
set_option maxRecDepth 100000
set_option maxHeartbeats 4000000
/-! # enumerate over a tuple that is tracked, with no start told -/
namespace QbEn
open PySem PySem.Spec PyProof.Rows L2
theorem en_new {tp : Addr} {items : Array Value} :
    Meets (Builtin.«enumerate.__new__» ⟨[.type "enumerate", .ref tp], []⟩) (fun _ R z => z.heap.IsTuple tp items ∧
      R (.ok (.ret (.ref (z.heap.push { cls := .type "tuple_iterator", data := .fields #[.ref tp, .int 0 0] }).objs.size)))
        { z with heap := (z.heap.push { cls := .type "tuple_iterator", data := .fields #[.ref tp, .int 0 0] }).push { cls := .type "enumerate", data := .fields #[.none, .bool false, .ref z.heap.objs.size, rawInt 0, .none, .none] } }) :=
  .of_wp fun prog w A R z hz => by
    obtain ⟨hp, g, d, tk, os⟩ := z
    obtain ⟨ht, fin⟩ := hz
    have sb := sub_enumerate
    have BT := begins_tuple tp items
    have stp : ∀ {A2 : Around} {E Q : Value → Shared → Prop}, Q (.ref hp.objs.size) ⟨hp.push { cls := .type "tuple_iterator", data := .fields #[.ref tp, .int 0 0] }, g, d, tk, os⟩ → wpAny (model prog w) A2 (pyIter (.ref tp)) Q E ⟨hp, g, d, tk, os⟩ :=
      fun q => BT.iter prog w _ _ ⟨hp, g, d, tk, os⟩ _ ht q
    obtain ⟨ob, hob, hcl, nn, hda⟩ := id ht
    obtain ⟨oc, od, odt, osl⟩ := ob
    dsimp only at hcl hda
    subst hcl hda
    wp_walk using AutoSeq1.wpAny_loadPart' hob, stp
    refine wpAny_stack_any fun stk => wpAny_pure ?_
    split
    · rename_i cc _ _ _ _ _
      cases (cc == Value.type "enumerate") with
      | false => wp_walk using AutoSeq1.wpAny_loadPart' hob, stp; exact ⟨_, rfl, fin⟩
      | true => wp_walk using AutoSeq1.wpAny_loadPart' hob, stp; exact ⟨_, rfl, fin⟩
    · wp_walk using AutoSeq1.wpAny_loadPart' hob, stp
      exact ⟨_, rfl, fin⟩
section
variable {prog : Program} {w : World} {A : Around} {E : Value → Shared → Prop} {s : Shared}
theorem en_call {tp : Addr} {items : Array Value} {Q : Value → Shared → Prop} (ht : s.heap.IsTuple tp items)
    (k : ∀ h2, IsEnum h2 (s.heap.objs.size + 1) s.heap.objs.size 0 .none → h2.IsTupleIter s.heap.objs.size tp 0 → h2.objs.size = s.heap.objs.size + 2 →
      (∀ b u, s.heap.get? b = some u → h2.get? b = some u) → Q (.ref (s.heap.objs.size + 1)) { s with heap := h2 }) : wpAny (model prog w) A (call (.type "enumerate") [.ref tp]) Q E s := by
  refine callType_new F.called_enumerate (by decide) (F.typeCall_enumerate_1 _) (F.newCall_enumerate_1 _) (fun ob => F.args_object_init_2 ob _) F.entry_enumerate_new en_new ⟨ht, ?_⟩
  have z1 : (s.heap.push { cls := .type "tuple_iterator", data := .fields #[.ref tp, .int 0 0] }).objs.size = s.heap.objs.size + 1 := Heap.size_push ..
  show _ ∧ _
  rw [z1]
  have he := Heap.get?_push_size (s.heap.push { cls := .type "tuple_iterator", data := .fields #[.ref tp, .int 0 0] }) (o := { cls := .type "enumerate", data := .fields #[.none, .bool false, .ref s.heap.objs.size, rawInt 0, .none, .none] }) rfl
  rw [z1] at he
  exact ⟨⟨_, he, rfl⟩, k _ he ⟨_, Heap.get?_push_of_some _ (Heap.get?_push_size _ rfl), rfl, rfl⟩ (by rw [Heap.size_push, z1]) fun b u q => Heap.get?_push_of_some _ (Heap.get?_push_of_some _ q)⟩
end
/-- the tuple at a, each item in a new pair -/
def IeT (a : Addr) : It :=
  ⟨fun i H => ∃ (xs : List V) (x : V), H a = some (.tup xs) ∧ xs[i]? = some x, fun i H v H2 => ∃ T x, v = .ref T ∧ H T = none ∧ H2 = upd H T (.tup [.int (i : Nat), x]) ∧ ∀ xs, H a = some (.tup xs) → xs[i]? = some x, fun i H => ∃ xs : List V, H a = some (.tup xs) ∧ xs.length = i⟩
theorem turn_eT {P : Program} {w : World} {K : PySem.W.Frag} {elts : List Expr} {kk : Nat} {tpos : Pos} (a e it : Addr) :
    Turn P w K (.Tuple elts kk tpos) (IeT a) [e, it] e (fun i h => (∃ old, IsEnum h e it ((i : Nat) : Int) old) ∧ h.IsTupleIter it a i ∧ e ≠ it) where
  mem := List.mem_cons_self
  obj := fun i h st b hb => by
    obtain ⟨⟨old, he⟩, ⟨oi, hoi, _, hdi⟩, _⟩ := st
    rcases List.mem_cons.mp hb with z | z
    · rw [z]
      exact ⟨_, he, fun v q => nomatch q⟩
    · rw [List.mem_singleton.mp z]
      exact ⟨oi, hoi, fun v q => by rw [hdi] at q; cases q⟩
  keep := fun i h h2 st k => by
    obtain ⟨⟨old, he⟩, hi, ne⟩ := st
    exact ⟨⟨old, k e List.mem_cons_self _ he⟩, hi.at fun o q => k it (List.mem_cons_of_mem _ List.mem_cons_self) o q, ne⟩
  item := by
    intro X hP hw hK hc i pins s σ H E I hf st hg
    subst hP hw hK
    obtain ⟨⟨old, he⟩, hit, ne⟩ := st
    obtain ⟨xs, x, hq, hx⟩ := hg
    obtain ⟨its, rv, pt, hz⟩ := I.tuple (SqT.of hq)
    obtain ⟨u, hu, ru⟩ := rv.get hx
    have he1 : e < s.heap.objs.size := Heap.lt_size he
    have hi1 : it < s.heap.objs.size := by
      obtain ⟨_, q, _⟩ := hit
      exact Heap.lt_size q
    have nai : a ≠ it := ne_of_none hq (hf it (List.mem_cons_of_mem _ List.mem_cons_self)).1
    have nae : a ≠ e := ne_of_none hq (hf e List.mem_cons_self).1
    have hlt : i < its.toArray.size := by
      obtain ⟨h1, _⟩ := List.getElem?_eq_some_iff.mp hu
      simpa using h1
    refine wpAny_pyNext_enum_itemD (Draws.tuple (show X.A.in1.handled = none from I.ok.hd hc) it a nai its.toArray) he ⟨hit, pt⟩ hlt ne (by simp [ne, nae.symm]) fun x2 h2 tk hx2 ho st2 hT hsz hk => ?_
    have ex2 : x2 = u := by
      have q : its[i]? = some x2 := by simpa using hx2
      rw [hu] at q
      exact (Option.some.inj q).symm
    subst ex2
    refine ⟨_, rfl, wpAny_letOwnedTupleGo_enum (s := { s with heap := h2, toks := tk + 1 }) ho fun h3 he3 sb => ?_⟩
    have hT3 : h3.get? s.heap.objs.size = some { cls := .type "tuple", data := .seq #[.int i tk, x2] } := (sb.2 _ (Nat.ne_of_gt he1)).trans hT
    have fresh : ObjOk X.prog X.w (upd H s.heap.objs.size (.tup [.int (i : Nat), x])) h3 s.heap.objs.size (.tup [.int (i : Nat), x]) :=
      ⟨by show 2 ≤ sizeLine; decide, [.int i tk, x2], .cons ⟨_, rfl⟩ (.cons ru .nil), ⟨_, hT3, rfl, _, rfl⟩⟩
    have J : Inv X pins σ (upd H s.heap.objs.size (.tup [.int (i : Nat), x])) { s with heap := h3, toks := tk + 1 } :=
      I.turnedNew (ch := [e, it]) (fun b ob hb q => (sb.2 b (fun z => hb (by simp [z]))).trans (hk b ob (fun z => hb (by simp [z])) (fun z => hb (by simp [z])) q)) hf (Nat.le_refl _) fresh
    refine ⟨.ref s.heap.objs.size, _, J, rfl, ⟨_, x, rfl, I.hok.fresh (Nat.le_refl _), rfl, fun ys hy => ?_⟩, ⟨⟨x2, ?_⟩, st2.1.at fun o q => (sb.2 it (Ne.symm ne)).trans q, ne⟩, fun b hb => ?_⟩
    · rw [hq] at hy
      cases hy
      exact hx
    · have e1 : ((i + 1 : Nat) : Int) = (i : Int) + 1 := by omega
      rw [e1]
      exact he3
    · have hb2 : b < s.heap.objs.size := by
        rcases List.mem_cons.mp hb with z | z
        · rw [z]; exact he1
        · rw [List.mem_singleton.mp z]; exact hi1
      rw [upd_ne (Nat.ne_of_lt hb2)]
      exact (hf b hb).1
  done := by
    intro X hP hw hK hc i pins s σ H E I hf st hg
    subst hP hw hK
    obtain ⟨⟨old, he⟩, hit, ne⟩ := st
    obtain ⟨xs, hq, hx⟩ := hg
    obtain ⟨its, rv, pt, hz⟩ := I.tuple (SqT.of hq)
    obtain ⟨f0, f1, f2, f3, f4, f5⟩ := hf it (List.mem_cons_of_mem _ List.mem_cons_self)
    have nai : a ≠ it := ne_of_none hq f0
    have hl := rv.length
    have ei : its.toArray.size = i := by
      rw [List.size_toArray, ← hl]
      exact hx
    have D := Draws.tuple (prog := X.prog) (w := X.w) (show X.A.in1.handled = none from I.ok.hd hc) it a nai its.toArray
    exact wpAny_pyNext_enum_endD D he ⟨by rw [ei]; exact hit, pt⟩ fun h2 eb => ⟨rfl, I.turned (t' := s.toks) (fun b o hb q => eb b o hb q) f0 f1 f3 f4 f5⟩
  self := fun A i s Q E st h => by
    obtain ⟨⟨_, he⟩, _⟩ := st
    exact wpAny_pyIter_enum he h
def iEnT (ta : TA) : TI := fun σ H R => ta σ H fun vs H1 => ∃ a xs, vs = [.ref a] ∧ H1 a = some (.tup xs) ∧ R (IeT a) H1
theorem pi_enT {X : Cx} {e : Expr} {ta : TA} {p pos tpos : Pos} {elts : List Expr} {kk : Nat} (hg : Gl X "enumerate") (hm : X.mg "enumerate" = none) (ha : PA X [e] ta) (hs : starEach [e] X.env = [(false, eval e X.env)] := by rfl) :
    PI X (.Tuple elts kk tpos) (.Call (.Name "enumerate" p) [e] [] pos) (iEnT ta) := by
  refine ⟨fun pins s σ H R I h => ?_⟩
  refine Call_ (ld_blt I hg hm boot_enumerate (PyProof.Rows.callWith_type1 (thn (ha.run pos pins s σ H _ I h) fun us s1 ⟨vs, H1, I1, r1, q1⟩ => ?_) hs rfl))
  obtain ⟨a, xs, ex, hq, q⟩ := q1
  subst ex
  cases r1 with
  | cons r rr =>
    cases rr
    cases r
    obtain ⟨its, rv, pt, hz⟩ := I1.tuple (SqT.of hq)
    refine en_call pt fun h2 he hit hsz hk => wpAny_pyIter_enum he ?_
    have I2 : Inv X pins σ H1 { s1 with heap := h2 } := I1.kept (t' := s1.toks) hk
    refine ⟨s1.heap.objs.size + 1, [s1.heap.objs.size + 1, s1.heap.objs.size], _, _, H1, rfl, I2, turn_eT a (s1.heap.objs.size + 1) s1.heap.objs.size, ⟨⟨.none, he⟩, hit, Nat.succ_ne_self _⟩, fun b hb => ?_, q⟩
    have hle : s1.heap.objs.size ≤ b := by
      rcases List.mem_cons.mp hb with z | z
      · rw [z]; exact Nat.le_succ _
      · rw [List.mem_singleton.mp z]; exact Nat.le_refl _
    exact I1.fpOk hle (I1.hok.fresh hle)
end QbEn
set_option Elab.async false
set_option linter.all false
set_option maxRecDepth 100000
set_option maxHeartbeats 4000000
/-! # The program's small defs -/
namespace Qb
open PySem PySem.Spec L2
open PyProof.Rows hiding St
variable {P : Program} {w : World} {K : PySem.W.Frag} {mg : Str → Option Value} {base : Heap}
theorem iteY {b : Bool} {A B : Prop} (e : b = true) (h : A) : if b = true then A else B := by rw [if_pos e]; exact h
theorem iteN {b : Bool} {A B : Prop} (e : b = false) (h : B) : if b = true then A else B := by rw [if_neg (by rw [e]; decide)]; exact h
theorem cb1 {r : List V → Hp → VK → Prop} {ta : TE} {σ : L2.St} {H : Hp} {Q : VK} (h : ta σ H fun v H1 => r [v] H1 Q) : tCB r (tCons ta tNil) σ H Q := h
theorem lt_of_sq {H : Hp} {a : Addr} {xs : List V} (ha : Sq H a xs) : ∃ n, Kd H (.ref a) n ∧ isLT n = true := ha.elim (fun h => ⟨_, .lst h, by decide⟩) (fun h => ⟨_, .tup h, by decide⟩)
/-! ### for index, x in enumerate(a list or a tuple) -/
abbrev iEnSq (K : PySem.W.Frag) (i : Nat) : TI := iOr (iEnum K (tCons (tVar i) tNil)) (QbEn.iEnT (tCons (tVar i) tNil))
theorem pi_ensq {X : Cx} {e : Expr} {i : Nat} {p pos tpos : Pos} {elts : List Expr} {kk : Nat} (hg : Gl X "enumerate") (hm : X.mg "enumerate" = none) (ha : PE X e (tVar i)) (ha' : PA X [e] (tCons (tVar i) tNil)) (hs : starEach [e] X.env = [(false, eval e X.env)] := by rfl) :
    PI X (.Tuple elts kk tpos) (.Call (.Name "enumerate" p) [e] [] pos) (iEnSq X.K i) := pi_or (pi_enum hg hm ha' hs) (QbEn.pi_enT hg hm ha' hs)
theorem for_en {K : PySem.W.Frag} {i : Nat} {g : TG} {tb : TS} {D : Ends} {σ : L2.St} {H : Hp} {a : Addr} {xs : List V} (hv : σ[i]? = some (some (.ref a))) (h : Sq H a xs) (Pv : Nat → L2.St → Hp → Prop) (h0 : Pv 0 σ H)
    (hk : ∀ n σ H', n ≤ xs.length → Pv n σ H' → H' a = H a)
    (hs : ∀ n x T σ H', xs[n]? = some x → Pv n σ H' → H' T = none → g (.ref T) σ (upd H' T (.tup [.int (n : Nat), x])) fun σ2 H2 => tb { D with nx := Pv (n + 1), ct := Pv (n + 1), bk := D.nx } σ2 H2)
    (hd : ∀ σ H', Pv xs.length σ H' → D.nx σ H') : tFor (iEnSq K i) g tb D σ H := by
  rcases h with h | h
  · refine .inl ⟨_, hv, a, xs, rfl, SqL.of h, fun n m σ H' => m = xs.length - n ∧ n ≤ xs.length ∧ Pv n σ H', ⟨xs.length, rfl, Nat.zero_le _, h0⟩, ?_⟩
    rintro n m σ H' ⟨rfl, hn, p⟩
    have q : SqL K H' a xs := SqL.of ((hk n σ H' hn p).trans h)
    by_cases hlt : n < xs.length
    · refine .inr ⟨⟨xs, xs[n], q, by simp [hlt]⟩, Pv (n + 1), fun σ' H' p' => ⟨xs.length - (n + 1), by omega, rfl, hlt, p'⟩, fun x H2 y => ?_⟩
      obtain ⟨T, x, rfl, hT, rfl, hx⟩ := y
      exact hs n x T σ H' (hx xs q) p hT
    · have e : n = xs.length := by omega
      subst e
      exact .inl ⟨⟨xs, q, Nat.le_refl _⟩, hd σ H' p⟩
  · refine .inr ⟨_, hv, a, xs, rfl, h, fun n m σ H' => m = xs.length - n ∧ n ≤ xs.length ∧ Pv n σ H', ⟨xs.length, rfl, Nat.zero_le _, h0⟩, ?_⟩
    rintro n m σ H' ⟨rfl, hn, p⟩
    have q : H' a = some (.tup xs) := (hk n σ H' hn p).trans h
    by_cases hlt : n < xs.length
    · refine .inr ⟨⟨xs, xs[n], q, by simp [hlt]⟩, Pv (n + 1), fun σ' H' p' => ⟨xs.length - (n + 1), by omega, rfl, hlt, p'⟩, fun x H2 y => ?_⟩
      obtain ⟨T, x, rfl, hT, rfl, hx⟩ := y
      exact hs n x T σ H' (hx xs q) p hT
    · have e : n = xs.length := by omega
      subst e
      exact .inl ⟨⟨xs, q, rfl⟩, hd σ H' p⟩
/-! ### is_list -/
theorem okIsList (T : Txt K mg) : FnOk P w K mg base CX0 1 T.f_isList T.d_isList ["thing"] spIsList := ok_isList T.D_isList.F T.z_isinstance T.z_list T.z_tuple
/-! ### is_whole -/
theorem scIsWhole : FnScope ["thing"] ["thing"] (defScope sIsWhole) := ⟨rfl, rfl, rfl, by decide +kernel, rfl, by decide +kernel, by decide +kernel⟩
def spIsWhole : Sp := fun vs H Q _ => ∃ i : Int, vs = [.int i] ∧ Q (.bl true) H
theorem okIsWhole (T : Txt K mg) : FnOk P w K mg base CX0 1 T.f_isWhole T.d_isWhole ["thing"] spIsWhole := by
  refine T.D_isWhole.F.ok scIsWhole (fun vs H Q E h => ?_) (fun cdv A outer s H vs Q E hr h => ?_)
  · obtain ⟨i, rfl, _⟩ := h
    rfl
  · obtain ⟨i, rfl, q⟩ := h
    refine ⟨_, pss_one (ps_ret (pe_and (pe_callB call_isi (by rfl) T.z_isinstance (by decide +kernel) (pa_cons (pv 0) (pa_cons (pe_bltn (v := .ty "int") (by rfl) T.z_int (by decide +kernel) rfl) pa_nil)))
      (pe_one (pe_not (pe_callB call_isi (by rfl) T.z_isinstance (by decide +kernel) (pa_cons (pv 0) (pa_cons (pe_bltn (v := .ty "bool") (by rfl) T.z_bool (by decide +kernel) rfl) pa_nil))))))), ?_⟩
    exact ⟨_, rfl, _, _, _, _, true, rfl, .ty _, .base (.int i), kit_ty (by decide +kernel), true, rfl, iteT ⟨_, rfl, _, _, _, _, false, rfl, .ty _, .base (.int i), kit_ty (by decide +kernel), false, rfl, q⟩⟩
/-! ### is_positive -/
theorem scIsPos : FnScope ["thing"] ["thing"] (defScope sIsPos) := ⟨rfl, rfl, rfl, by decide +kernel, rfl, by decide +kernel, by decide +kernel⟩
def spIsPos : Sp := fun vs H Q _ => ∃ i : Int, vs = [.int i] ∧ Q (.bl (decide (1 ≤ i))) H
theorem okIsPos (T : Txt K mg) : FnOk P w K mg base CX0 2 T.f_isPos T.d_isPos ["thing"] spIsPos := by
  refine T.D_isPos.F.ok scIsPos (fun vs H Q E h => ?_) (fun cdv A outer s H vs Q E hr h => ?_)
  · obtain ⟨i, rfl, _⟩ := h
    rfl
  · obtain ⟨i, rfl, q⟩ := h
    refine ⟨_, pss_one (ps_ret (pe_and (pe_df (okIsWhole T) T.D_isWhole hr rfl (pa_cons (pv 0) pa_nil)) (pe_one (pe_cmp (pc_ge (pv 0) pe_int) rfl)))), ?_⟩
    exact ⟨_, rfl, _, rfl, true, rfl, iteT ⟨_, rfl, _, _, rfl, rfl, q⟩⟩
/-! ### is_below -/
theorem scBelow : FnScope ["one", "other"] ["one", "other"] (defScope sBelow) := ⟨rfl, rfl, rfl, by decide +kernel, rfl, by decide +kernel, by decide +kernel⟩
def spBelow : Sp := fun vs H Q _ => ∃ (x y : V) (i j : Int), vs = [x, y] ∧ TpR H x (i, 1) ∧ TpR H y (j, 1) ∧ Q (.bl (decide (i < j))) H
theorem okBelow (T : Txt K mg) : FnOk P w K mg base CX0 1 T.f_below T.d_below ["one", "other"] spBelow := by
  refine T.D_below.F.ok scBelow (fun vs H Q E h => ?_) (fun cdv A outer s H vs Q E hr h => ?_)
  · obtain ⟨x, y, i, j, rfl, _⟩ := h
    rfl
  · obtain ⟨x, y, i, j, rfl, ⟨a, rfl, ha⟩, ⟨b, rfl, hb⟩, q⟩ := h
    refine ⟨_, pss_one (ps_ret (pe_cmp (pc_lt (pe_op op_mul (pe_ix ix_tup (pv 0) pe_int (fun _ _ => rfl)) (pe_ix ix_tup (pv 1) pe_int (fun _ _ => rfl)))
      (pe_op op_mul (pe_ix ix_tup (pv 1) pe_int (fun _ _ => rfl)) (pe_ix ix_tup (pv 0) pe_int (fun _ _ => rfl)))) rfl)), ?_⟩
    refine ⟨_, rfl, _, _, _, _, rfl, rfl, SqT.of ha, rfl, _, rfl, _, _, _, _, rfl, rfl, SqT.of hb, rfl, _, _, rfl, rfl, .inr (by show -(2 ^ 64) < (1 : Int) ∧ (1 : Int) < 2 ^ 64; decide), ?_⟩
    refine ⟨_, rfl, _, _, _, _, rfl, rfl, SqT.of hb, rfl, _, rfl, _, _, _, _, rfl, rfl, SqT.of ha, rfl, _, _, rfl, rfl, .inr (by show -(2 ^ 64) < (1 : Int) ∧ (1 : Int) < 2 ^ 64; decide), ?_⟩
    refine ⟨_, _, rfl, rfl, ?_⟩
    rw [Int.mul_one, Int.mul_one]
    exact q
/-! ### is_pair_of -/
theorem scPair : FnScope ["road"] ["road"] (defScope sPair) := ⟨rfl, rfl, rfl, by decide +kernel, rfl, by decide +kernel, by decide +kernel⟩
def okRoad (q : Int × Int) : Bool := decide (1 ≤ q.1) && decide (1 ≤ q.2)
def spPair : Sp := fun vs H Q _ => ∃ (x : V) (q : Int × Int), vs = [x] ∧ PairR H x q ∧ ∀ H', Same H H' → Q (.bl (okRoad q)) H'
theorem okPair (T : Txt K mg) : FnOk P w K mg base CX0 3 T.f_isPair T.d_isPair ["road"] spPair := by
  refine T.D_isPair.F.ok scPair (fun vs H Q E h => ?_) (fun cdv A outer s H vs Q E hr h => ?_)
  · obtain ⟨x, q, rfl, _⟩ := h
    rfl
  · obtain ⟨x, p, rfl, ⟨a, rfl, ha⟩, q⟩ := h
    refine ⟨_, pss_one (ps_ret (pe_and (pe_df (okIsList T) T.D_isList (hr.mono (by decide)) rfl (pa_cons (pv 0) pa_nil)) (pe_and (pe_cmp (pc_eqI (pe_callB call_len_seq (by rfl) T.z_len PySem.boot_len (pa_cons (pv 0) pa_nil)) pe_int) rfl)
      (pe_and (pe_df (okIsPos T) T.D_isPos hr rfl (pa_cons (pe_ix ix_seq (pv 0) pe_int (fun _ _ => rfl)) pa_nil)) (pe_one (pe_df (okIsPos T) T.D_isPos hr rfl (pa_cons (pe_ix ix_seq (pv 0) pe_int (fun _ _ => rfl)) pa_nil))))))), ?_⟩
    have nm : ∃ n, Kd H (.ref a) n ∧ isLT n = true := ha.elim (fun h => ⟨_, .lst h, by decide⟩) (fun h => ⟨_, .tup h, by decide⟩)
    obtain ⟨n, kd, hn⟩ := nm
    refine ⟨_, rfl, _, n, rfl, kd, fun H1 s1 => ⟨_, rfl, ?_⟩⟩
    rw [hn]
    have h1 : Sq H1 a [.int p.1, .int p.2] := ha.go s1
    have ix : ∀ (j : Int) (v : V) (Q2 : VK), atI [V.int p.1, V.int p.2] j = some v → Q2 v H1 → rIx K (.ref a) (.int j) H1 Q2 := fun j v Q2 hj q2 =>
      h1.elim (fun h => .inl ⟨_, _, _, _, rfl, rfl, SqL.of h, hj, q2⟩) (fun h => .inr (.inl ⟨_, _, _, _, rfl, rfl, SqT.of h, hj, q2⟩))
    refine iteT ⟨_, rfl, a, _, rfl, h1.any, _, _, rfl, rfl, true, rfl, iteT ?_⟩
    refine ⟨_, rfl, ix 0 (.int p.1) _ rfl ⟨_, rfl, _, rfl, ?_⟩⟩
    unfold okRoad at q
    by_cases c : 1 ≤ p.1
    · rw [decide_eq_true c] at q ⊢
      exact iteT ⟨_, rfl, ix 1 (.int p.2) _ rfl ⟨_, rfl, q _ s1⟩⟩
    · rw [decide_eq_false c] at q ⊢
      exact iteF (q _ s1)
/-! ### is_row -/
def BlR : DR Bool := fun _ v b => v = .bl b
theorem mBlR : Mono BlR := fun _ _ _ _ _ h => h
theorem bls_eq {H : Hp} {xs : List V} {ns : List Bool} (h : Paired (BlR H) xs ns) : xs = ns.map V.bl := by
  induction h with
  | nil => rfl
  | cons a _ ih => rw [List.map_cons, ih]; rw [show _ = _ from a]
theorem scRow : FnScope ["thing", "road"] ["thing"] (defScope sIsRow) := ⟨rfl, rfl, rfl, by decide +kernel, rfl, by decide +kernel, by decide +kernel⟩
def okRow (row : List (Int × Int)) : Bool := !row.isEmpty && row.all okRoad
/-- a thing that is no list, or a row of pairs -/
def ItemR : DR (Option (List (Int × Int))) := fun H x o => match o with
  | none => ∃ n, Kd H x n ∧ isLT n = false
  | some row => RowR H x row ∧ row.length ≤ 100
theorem mItemR : Mono ItemR := fun H H' v o s h => match o, h with
  | none, ⟨n, k, e⟩ => ⟨n, k.go s, e⟩
  | some _, ⟨r, l⟩ => ⟨mRowR _ _ _ _ s r, l⟩
def okItem : Option (List (Int × Int)) → Bool
  | none => false
  | some row => okRow row
def spRow : Sp := fun vs H Q _ => ∃ (x : V) (o : Option (List (Int × Int))), vs = [x] ∧ ItemR H x o ∧ ∀ H', Same H H' → Q (.bl (okItem o)) H'
theorem okIsRow (T : Txt K mg) : FnOk P w K mg base CX0 4 T.f_isRow T.d_isRow ["thing"] spRow := by
  refine T.D_isRow.F.ok scRow (fun vs H Q E h => ?_) (fun cdv A outer s H vs Q E hr h => ?_)
  · obtain ⟨x, o, rfl, _⟩ := h
    rfl
  · obtain ⟨x, o, rfl, ho, q⟩ := h
    refine ⟨_, pss_one (ps_ret (pe_and (pe_df (okIsList T) T.D_isList (hr.mono (by decide)) rfl (pa_cons (pv 0) pa_nil)) (pe_and (pe_cmp (pc_gt (pe_callB call_len_seq (by rfl) T.z_len PySem.boot_len (pa_cons (pv 0) pa_nil)) pe_int) rfl)
      (pe_one (pe_callB (cr_all rfl) (by rfl) T.z_all (by decide +kernel) (pa_cons (pe_lc (own := [("road", 1)]) (g := gName 1) (tt := tYes) rfl scRow.nd (pi_sq (pv 0)) (blkOk_by (N := ["thing", "road"]) (sc := defScope sIsRow) (by decide +kernel))
        (fun _ _ _ _ _ => pg_name (i := 1) scRow.nd rfl (Or.inl rfl)) (fun _ _ _ _ _ => pts_nil) (fun _ _ _ _ _ => pe_df (okPair T) T.D_isPair hr rfl (pa_cons (pv 1) pa_nil))) pa_nil)))))), ?_⟩
    cases o with
    | none =>
      obtain ⟨n, k, e⟩ := ho
      refine ⟨_, rfl, x, n, rfl, k, fun H1 s1 => ⟨_, rfl, ?_⟩⟩
      rw [e]
      exact iteF (q _ s1)
    | some row =>
      obtain ⟨⟨a, xs, rfl, ha, hp⟩, hl⟩ := ho
      have nm : ∃ n, Kd H (.ref a) n ∧ isLT n = true := ha.elim (fun h => ⟨_, .lst h, by decide⟩) (fun h => ⟨_, .tup h, by decide⟩)
      obtain ⟨n, kd, hn⟩ := nm
      refine ⟨_, rfl, _, n, rfl, kd, fun H1 s1 => ⟨_, rfl, ?_⟩⟩
      rw [hn]
      have h1 : Sq H1 a xs := ha.go s1
      have p1 : Paired (PairR H1) xs row := hp.mono fun _ _ r => mPairR _ _ _ _ s1 r
      refine iteT ⟨_, rfl, a, _, rfl, h1.any, _, _, rfl, rfl, _, rfl, ?_⟩
      have lx := p1.length
      cases row with
      | nil =>
        have : xs.length = 0 := lx
        rw [this]
        exact iteF (q _ s1)
      | cons r0 row =>
        have lx' : (0 : Int) < (xs.length : Int) := by rw [lx, List.length_cons]; omega
        refine iteY (decide_eq_true lx') (cb1 (lc_fm (R := PairR) (R' := BlR) (fun q => some (okRoad q)) mPairR mBlR rfl h1 p1 (Nat.le_trans hl (by decide)) ?_ ?_))
        · intro D H' x y hy hD _ s0 hR Kt Kf k1 k2
          refine ⟨rfl, iteY (B := Kf H') rfl ?_⟩
          exact ⟨_, rfl, x, y, rfl, mPairR _ _ _ _ (hid_sub _ _) hR, fun H2 s2 => k1 _ rfl _ _ s2 rfl⟩
        · rintro D H' hD s0 ⟨_, zs, e, hz, hpz⟩
          cases e
          refine ⟨D, _, rfl, SqL.of (by rw [hz, bls_eq hpz]), ?_⟩
          have z := q H' (s1.trans s0)
          have e2 : ((List.filterMap (fun q => some (okRoad q)) (r0 :: row)).all id) = okItem (some (r0 :: row)) := by
            show _ = okRow (r0 :: row)
            unfold okRow
            rw [show (fun q => some (okRoad q)) = some ∘ okRoad from rfl, List.filterMap_eq_map, List.all_map]
            rfl
          rw [e2]
          exact z
/-! ### bad_row -/
theorem scBadRow : FnScope ["thing", "index", "row"] ["thing"] (defScope sBadRow) := ⟨rfl, rfl, rfl, by decide +kernel, rfl, by decide +kernel, by decide +kernel⟩
def badAt (items : List (Option (List (Int × Int)))) : V := if items.isEmpty then .int 0 else match items.findIdx? (fun o => !okItem o) with
  | none => .non
  | some i => .int (i : Nat)
def spBadRow : Sp := fun vs H Q _ => ∃ x : V, vs = [x] ∧ ((∃ n, Kd H x n ∧ isLT n = false ∧ ∀ H', Same H H' → Q (.int 0) H') ∨ ∃ items, SeqR ItemR H x items ∧ items.length ≤ 100 ∧ ∀ H', Same H H' → Q (badAt items) H')
theorem findIdx_none {α : Type} (p : α → Bool) : ∀ (l : List α), (∀ x ∈ l, p x = false) → l.findIdx? p = none
  | [], _ => rfl
  | a :: l, h => by
    rw [List.findIdx?_cons, h a List.mem_cons_self, findIdx_none p l fun x hx => h x (List.mem_cons_of_mem _ hx)]
    rfl
theorem findIdx_at {α : Type} (p : α → Bool) : ∀ (l : List α) (i : Nat) (y : α), l[i]? = some y → p y = true → (∀ j x, j < i → l[j]? = some x → p x = false) → l.findIdx? p = some i
  | [], i, y, e, _, _ => by simp at e
  | a :: l, 0, y, e, h, _ => by
    simp only [List.getElem?_cons_zero, Option.some.injEq] at e
    rw [List.findIdx?_cons, e, h]
    rfl
  | a :: l, i + 1, y, e, h, b => by
    rw [List.findIdx?_cons, b 0 a (Nat.succ_pos _) rfl, findIdx_at p l i y (by simpa using e) h fun j x hj hx => b (j + 1) x (by omega) (by simpa using hx)]
    rfl
theorem okBadRow (T : Txt K mg) : FnOk P w K mg base CX0 5 T.f_badRow T.d_badRow ["thing"] spBadRow := by
  refine T.D_badRow.F.ok scBadRow (fun vs H Q E h => ?_) (fun cdv A outer s H vs Q E hr h => ?_)
  · obtain ⟨x, rfl, _⟩ := h
    rfl
  · obtain ⟨x, rfl, ho⟩ := h
    refine ⟨_, pss_cons (ps_if (PW.pt (pw_or (pt_not (pt_val (pe_df (okIsList T) T.D_isList (hr.mono (by decide)) rfl (pa_cons (pv 0) pa_nil)))) (pw_or1 (pt_cmpR op_eq (pe_callB call_len_seq (by rfl) T.z_len PySem.boot_len (pa_cons (pv 0) pa_nil)) pe_int (nomark _))))) (pss_one (ps_ret pe_int)) pss_nil)
      (pss_cons (ps_for PassesOwn.never rfl (pi_ensq (by rfl) T.z_enumerate (pv 0) (pa_cons (pv 0) pa_nil)) (pg_tup rfl (pgs_cons (pg_name (i := 1) scBadRow.nd rfl (.inl rfl)) (pgs_cons (pg_name (i := 2) scBadRow.nd rfl (.inl rfl)) pgs_nil)))
        (pss_one (ps_if (pt_not (pt_val (pe_df (okIsRow T) T.D_isRow hr rfl (pa_cons (pv 2) pa_nil)))) (pss_one (ps_ret (pv 1))) pss_nil)))
      (pss_one (ps_ret pe_non))), ?_⟩
    rcases ho with ⟨n, k, e, q⟩ | ⟨items, ⟨a, xs, rfl, ha, hp⟩, hl, q⟩
    · refine ⟨_, rfl, x, n, rfl, k, fun H1 s1 => ⟨_, rfl, ?_⟩⟩
      rw [e]
      exact iteT (q _ s1)
    · obtain ⟨n, kd, hn⟩ := lt_of_sq ha
      refine ⟨_, rfl, _, n, rfl, kd, fun H1 s1 => ⟨_, rfl, ?_⟩⟩
      rw [hn]
      have h1 : Sq H1 a xs := ha.go s1
      have p1 : Paired (ItemR H1) xs items := hp.mono fun _ _ r => mItemR _ _ _ _ s1 r
      refine iteF ⟨_, rfl, a, _, rfl, h1.any, rfl, _, rfl, ?_⟩
      have lx := p1.length
      have run : ∀ H2, Same H1 H2 → 0 < items.length → (tFor (iEnSq K 0) (gTup K 2 (gCons (gName 1) (gCons (gName 2) gNil))) (tIfS (tNot (tB (tCall spRow [] E0 (tCons (tVar 2) tNil)))) (tRet (tVar 1)) tNext))
          { nx := fun σ' H' => Q .non H', rt := Q } [some (.ref a), none, none] H1 := fun H2 s2 hpos => by
        refine for_en rfl h1 (fun n σ H' => Same H1 H' ∧ σ.length = 3 ∧ σ[0]? = some (some (.ref a)) ∧ ∀ j o, j < n → items[j]? = some o → okItem o = true) ⟨Same.refl _, rfl, rfl, fun j o hj => absurd hj (Nat.not_lt_zero _)⟩ (fun n σ H' _ p => ?_) ?_ ?_
        · rcases h1 with z | z
          · rw [z, p.1 _ _ z]
          · rw [z, p.1 _ _ z]
        · rintro n x T' σ H' hx ⟨sH, hl3, h0, hok⟩ hT
          obtain ⟨o, ho, rx⟩ := pd_get p1 hx
          have sT : Same H' (upd H' T' (.tup [.int (n : Nat), x])) := same_new hT
          refine ⟨T', _, rfl, SqT.of upd_same, rfl, _, _, rfl, _, _, rfl, rfl, ?_⟩
          have l1 : 1 < σ.length := by omega
          have l2 : 2 < (σ.set 1 (some (V.int (n : Nat)))).length := by rw [List.length_set]; omega
          refine ⟨x, by rw [List.getElem?_set_self l2], x, o, rfl, mItemR _ _ _ _ (sH.trans sT) rx, fun H3 s3 => ⟨_, rfl, ?_⟩⟩
          cases e : okItem o with
          | false =>
            refine iteT ⟨.int (n : Nat), by rw [List.getElem?_set_ne (by decide), List.getElem?_set_self l1], ?_⟩
            have z := q H3 (s1.trans ((sH.trans sT).trans s3))
            have eb : badAt items = .int (n : Nat) := by
              unfold badAt
              have : items.isEmpty = false := by cases items with | nil => cases hpos | cons => rfl
              rw [this, findIdx_at _ items n o ho (by rw [e]; rfl) (fun j y hj hy => by rw [hok j y hj hy]; rfl)]
              rfl
            rw [eb] at z
            exact z
          | true =>
            refine iteF ⟨(sH.trans sT).trans s3, by rw [List.length_set, List.length_set]; exact hl3, by rw [List.getElem?_set_ne (by decide), List.getElem?_set_ne (by decide)]; exact h0, fun j y hj hy => ?_⟩
            by_cases ej : j = n
            · rw [ej, ho] at hy
              rw [← Option.some.inj hy]; exact e
            · exact hok j y (by omega) hy
        · rintro σ H' ⟨sH, _, _, hok⟩
          have z := q H' (s1.trans sH)
          have eb : badAt items = .non := by
            unfold badAt
            have : items.isEmpty = false := by cases items with | nil => cases hpos | cons => rfl
            rw [this, findIdx_none _ items (fun o ho => by
              obtain ⟨j, hj, e⟩ := List.getElem_of_mem ho
              rw [hok j o (by rw [lx]; exact hj) (by rw [List.getElem?_eq_getElem hj, e])]; rfl)]
            rfl
          rw [eb] at z
          exact z
      cases items with
      | nil =>
        have : xs.length = 0 := lx
        refine iteY (by rw [this]; decide) ?_
        exact q _ s1
      | cons i0 rest =>
        refine iteN (decide_eq_false (fun e => ?_)) (run H1 (Same.refl _) (Nat.succ_pos _))
        have e' : ((xs.length : Nat) : Int) = 0 := V.int.inj e
        rw [lx, List.length_cons] at e'
        omega
end Qb
set_option Elab.async false
set_option linter.all false
/-! # The mathematics -/
namespace Qm
abbrev Row := List (Int × Int)
abbrev Bun := List Row
abbrev KVs := List (Int × Int)
def keys (l : KVs) : List Int := l.map (·.1)
def get1 (l : KVs) (k : Int) : Option Int := (l.find? fun q => decide (q.1 = k)).map (·.2)
def put1 (l : KVs) (k v : Int) : KVs := if (l.any fun q => decide (q.1 = k)) = true then l.map (fun q => if q.1 = k then (q.1, v) else q) else l ++ [(k, v)]
def add1 (l : KVs) (k r : Int) : KVs := put1 l k ((get1 l k).getD 0 + r)
theorem get1_nil (k : Int) : get1 [] k = none := rfl
theorem get1_cons (q : Int × Int) (l : KVs) (k : Int) : get1 (q :: l) k = if q.1 = k then some q.2 else get1 l k := by
  unfold get1
  rw [List.find?_cons]
  by_cases h : q.1 = k <;> simp [h]
theorem get1_mem {l : KVs} {k v : Int} (h : get1 l k = some v) : (k, v) ∈ l := by
  induction l with
  | nil => cases h
  | cons q l ih =>
    rw [get1_cons] at h
    by_cases e : q.1 = k
    · rw [if_pos e] at h
      have := Option.some.inj h
      subst this
      rw [← e]
      exact List.mem_cons_self
    · rw [if_neg e] at h
      exact List.mem_cons_of_mem _ (ih h)
theorem mem_get1 {l : KVs} (hn : (keys l).Nodup) {q : Int × Int} (h : q ∈ l) : get1 l q.1 = some q.2 := by
  induction l with
  | nil => cases h
  | cons p l ih =>
    rw [get1_cons]
    have hn' : p.1 ∉ keys l ∧ (keys l).Nodup := by simpa [keys] using hn
    rcases List.mem_cons.mp h with e | h
    · subst e; rw [if_pos rfl]
    · have : p.1 ≠ q.1 := fun z => hn'.1 (by rw [z]; exact List.mem_map.mpr ⟨q, h, rfl⟩)
      rw [if_neg this]
      exact ih hn'.2 h
theorem get1_none {l : KVs} {k : Int} : get1 l k = none ↔ k ∉ keys l := by
  induction l with
  | nil => simp [get1, keys]
  | cons q l ih =>
    rw [get1_cons]
    by_cases e : q.1 = k
    · simp [e, keys]
    · rw [if_neg e, ih]
      have : k ≠ q.1 := fun z => e z.symm
      simp [keys, this]
theorem any_keys (l : KVs) (k : Int) : (l.any fun q => decide (q.1 = k)) = decide (k ∈ keys l) := by
  induction l with
  | nil => rfl
  | cons q l ih =>
    rw [List.any_cons, ih]
    have h : (k ∈ keys (q :: l)) ↔ (q.1 = k ∨ k ∈ keys l) := by
      unfold keys
      rw [List.map_cons, List.mem_cons]
      exact ⟨fun h => h.imp_left Eq.symm, fun h => h.imp_left Eq.symm⟩
    rw [decide_eq_decide.mpr h, Bool.decide_or]
theorem keys_put (l : KVs) (k v : Int) : keys (put1 l k v) = if k ∈ keys l then keys l else keys l ++ [k] := by
  unfold put1
  rw [any_keys]
  by_cases h : k ∈ keys l
  · rw [if_pos (decide_eq_true h), if_pos h]
    unfold keys
    rw [List.map_map]
    refine List.map_congr_left fun q _ => ?_
    show (if q.1 = k then (q.1, v) else q).1 = q.1
    split <;> rfl
  · rw [if_neg (by simpa using h), if_neg h]
    simp [keys]
theorem get1_map (l : KVs) (k v j : Int) : get1 (l.map fun q => if q.1 = k then (q.1, v) else q) j = if j = k then (get1 l j).map (fun _ => v) else get1 l j := by
  induction l with
  | nil => simp [get1]
  | cons q l ih =>
    rw [List.map_cons, get1_cons, get1_cons, ih]
    by_cases e : q.1 = k
    · by_cases f : q.1 = j
      · have : j = k := by omega
        simp [e, f, this]
      · simp [e, f]
        by_cases g : j = k
        · omega
        · have : k ≠ j := fun z => g z.symm
          simp [g, this]
    · by_cases f : q.1 = j
      · have : j ≠ k := by omega
        have h2 : q.1 ≠ k := e
        simp [h2, f, this]
      · simp [e, f]
theorem get1_app (l : KVs) (k v j : Int) (h : k ∉ keys l) : get1 (l ++ [(k, v)]) j = if j = k then some v else get1 l j := by
  induction l with
  | nil =>
    show get1 [(k, v)] j = _
    rw [get1_cons]
    by_cases e : k = j
    · simp [e]
    · have : j ≠ k := fun z => e z.symm
      simp [e, this]
  | cons q l ih =>
    have h' : k ≠ q.1 ∧ k ∉ keys l := by simpa [keys, not_or] using h
    rw [List.cons_append, get1_cons, get1_cons, ih h'.2]
    by_cases f : q.1 = j
    · have : j ≠ k := fun z => h'.1 (by omega)
      simp [f, this]
    · simp [f]
theorem get1_put (l : KVs) (k v j : Int) : get1 (put1 l k v) j = if j = k then some v else get1 l j := by
  unfold put1
  rw [any_keys]
  by_cases h : k ∈ keys l
  · rw [if_pos (decide_eq_true h), get1_map]
    by_cases e : j = k
    · subst e
      rw [if_pos rfl, if_pos rfl]
      cases g : get1 l j with
      | none => exact absurd h (get1_none.mp g)
      | some x => rfl
    · rw [if_neg e, if_neg e]
  · rw [if_neg (by simpa using h), get1_app l k v j h]
theorem put_nodup {l : KVs} (hn : (keys l).Nodup) (k v : Int) : (keys (put1 l k v)).Nodup := by
  rw [keys_put]
  by_cases h : k ∈ keys l
  · rw [if_pos h]; exact hn
  · rw [if_neg h, List.nodup_append]
    refine ⟨hn, by simp, fun a ha b hb => ?_⟩
    rw [List.mem_singleton.mp hb]
    exact fun z => h (z ▸ ha)
theorem put_length (l : KVs) (k v : Int) : (put1 l k v).length ≤ l.length + 1 := by
  unfold put1
  split <;> simp

/-! ### rows -/
def IsMin (m : Int) (l : List Int) : Prop := m ∈ l ∧ ∀ x ∈ l, m ≤ x
theorem IsMin.eq {m m' : Int} {l : List Int} (h : IsMin m l) (h' : IsMin m' l) : m = m' := Int.le_antisymm (h.2 _ h'.1) (h'.2 _ h.1)
def minL : List Int → Int
  | [] => 0
  | [a] => a
  | a :: b :: r => min a (minL (b :: r))
theorem minL_is : ∀ {l : List Int}, l ≠ [] → IsMin (minL l) l
  | [], h => absurd rfl h
  | [a], _ => ⟨List.mem_cons_self, fun x hx => by rw [List.mem_singleton.mp hx]; exact Int.le_refl _⟩
  | a :: b :: r, _ => by
    have ih := minL_is (l := b :: r) (by simp)
    show IsMin (min a (minL (b :: r))) (a :: b :: r)
    refine ⟨?_, fun x hx => ?_⟩
    · by_cases h : a ≤ minL (b :: r)
      · rw [Int.min_eq_left h]; exact List.mem_cons_self
      · rw [Int.min_eq_right (by omega)]; exact List.mem_cons_of_mem _ ih.1
    · rcases List.mem_cons.mp hx with e | hx
      · rw [e]; exact Int.min_le_left _ _
      · exact Int.le_trans (Int.min_le_right _ _) (ih.2 x hx)
theorem minL_eq {m : Int} {l : List Int} (h : IsMin m l) : minL l = m := (minL_is (fun z => by rw [z] at h; cases h.1)).eq h
def rowLen (r : Row) : Int := (r.map (·.1)).sum
def rowRoom (r : Row) : Int := minL (r.map (·.2))
/-- two rows alike: as long, as roomy -/
def Alike (r r' : Row) : Prop := rowLen r = rowLen r' ∧ rowRoom r = rowRoom r'
def plus : Option Int → Option Int → Option Int
  | none, y => y
  | some x, none => some x
  | some x, some y => some (x + y)
theorem plus_none (a : Option Int) : plus a none = a := by cases a <;> rfl
theorem plus_comm (a b : Option Int) : plus a b = plus b a := by cases a <;> cases b <;> simp [plus, Int.add_comm]
theorem plus_assoc (a b c : Option Int) : plus (plus a b) c = plus a (plus b c) := by cases a <;> cases b <;> cases c <;> simp [plus, Int.add_assoc]
def one (row : Row) (k : Int) : Option Int := if rowLen row = k then some (rowRoom row) else none
def roomOf : Bun → Int → Option Int
  | [], _ => none
  | row :: b, k => plus (one row k) (roomOf b k)
theorem roomOf_perm {b b' : Bun} (h : b.Perm b') (k : Int) : roomOf b k = roomOf b' k := by
  induction h with
  | nil => rfl
  | cons x _ ih => show plus _ _ = plus _ _; rw [ih]
  | swap x y l => show plus _ (plus _ _) = plus _ (plus _ _); rw [← plus_assoc, ← plus_assoc, plus_comm (one y k)]
  | trans _ _ h1 h2 => exact h1.trans h2
def dictFrom (l : KVs) (b : Bun) : KVs := b.foldl (fun l row => add1 l (rowLen row) (rowRoom row)) l
abbrev dictOf (b : Bun) : KVs := dictFrom [] b
theorem get1_add (l : KVs) (row : Row) (j : Int) : get1 (add1 l (rowLen row) (rowRoom row)) j = plus (get1 l j) (one row j) := by
  unfold add1 one
  rw [get1_put]
  by_cases e : j = rowLen row
  · subst e
    rw [if_pos rfl, if_pos rfl]
    cases get1 l (rowLen row) <;> simp [plus]
  · have e' : rowLen row ≠ j := fun z => e z.symm
    rw [if_neg e, if_neg e', plus_none]
theorem dict_from : ∀ (b : Bun) (l : KVs), (keys l).Nodup → (keys (dictFrom l b)).Nodup ∧ ∀ k, get1 (dictFrom l b) k = plus (get1 l k) (roomOf b k)
  | [], l, h => ⟨h, fun k => (plus_none _).symm⟩
  | row :: b, l, h => by
    have h1 : (keys (add1 l (rowLen row) (rowRoom row))).Nodup := put_nodup h _ _
    obtain ⟨a, c⟩ := dict_from b (add1 l (rowLen row) (rowRoom row)) h1
    refine ⟨a, fun k => ?_⟩
    show get1 (dictFrom (add1 l (rowLen row) (rowRoom row)) b) k = plus (get1 l k) (plus (one row k) (roomOf b k))
    rw [c k, get1_add, plus_assoc]
theorem dict_nodup (b : Bun) : (keys (dictOf b)).Nodup := (dict_from b [] List.nodup_nil).1
theorem dict_get (b : Bun) (k : Int) : get1 (dictOf b) k = roomOf b k := (dict_from b [] List.nodup_nil).2 k
theorem nodup_of_keys {l : KVs} (h : (keys l).Nodup) : l.Nodup := by
  unfold keys at h
  unfold List.Nodup at h ⊢
  rw [List.pairwise_map] at h
  exact h.imp fun hab z => hab (by rw [z])
theorem perm_of_get {l l' : KVs} (h : (keys l).Nodup) (h' : (keys l').Nodup) (e : ∀ k, get1 l k = get1 l' k) : l.Perm l' := by
  rw [List.perm_ext_iff_of_nodup (nodup_of_keys h) (nodup_of_keys h')]
  intro q
  constructor
  · intro hq
    have := mem_get1 h hq
    rw [e] at this
    exact get1_mem this
  · intro hq
    have := mem_get1 h' hq
    rw [← e] at this
    exact get1_mem this
/-! ### lanes -/
def leK (p q : Int × Int) : Bool := decide (p.1 ≤ q.1)
def lanesOf (b : Bun) : KVs := (dictOf b).mergeSort leK
theorem lanes_perm (b : Bun) : (lanesOf b).Perm (dictOf b) := List.mergeSort_perm _ _
theorem lanes_sorted (b : Bun) : (lanesOf b).Pairwise fun p q => p.1 ≤ q.1 := by
  have h := List.pairwise_mergeSort (le := leK) (fun a b c h1 h2 => by simp [leK] at *; omega) (fun a b => by simp [leK]; omega) (dictOf b)
  exact h.imp fun h => of_decide_eq_true h
theorem perm_keys {l l' : KVs} (h : l.Perm l') : (keys l).Perm (keys l') := h.map _
theorem sorted_eq {l l' : KVs} (hn : (keys l).Nodup) (h : l.Perm l') (s : l.Pairwise fun p q => p.1 ≤ q.1) (s' : l'.Pairwise fun p q => p.1 ≤ q.1) : l = l' := by
  refine List.Perm.eq_of_pairwise (le := fun p q => p.1 ≤ q.1) (fun p q hp hq h1 h2 => ?_) s s' h
  have e : p.1 = q.1 := Int.le_antisymm h1 h2
  have a := mem_get1 hn hp
  have c := mem_get1 hn (h.mem_iff.mpr hq)
  rw [e, c] at a
  exact Prod.ext e (Option.some.inj a).symm
theorem lanes_uniq {b : Bun} {L : KVs} (h : L.Perm (dictOf b)) (s : L.Pairwise fun p q => p.1 ≤ q.1) : L = lanesOf b :=
  sorted_eq (((perm_keys h).nodup_iff).mpr (dict_nodup b)) (h.trans (lanes_perm b).symm) s (lanes_sorted b)
theorem lanes_nodup (b : Bun) : (keys (lanesOf b)).Nodup := ((perm_keys (lanes_perm b)).nodup_iff).mpr (dict_nodup b)
theorem lanes_congr {b b' : Bun} (h : ∀ k, roomOf b k = roomOf b' k) : lanesOf b = lanesOf b' :=
  lanes_uniq ((lanes_perm b).trans (perm_of_get (dict_nodup b) (dict_nodup b') fun k => by rw [dict_get, dict_get, h])) (lanes_sorted b)
/-- the lanes from the sorted keys -/
theorem lanes_of_keys {b : Bun} {ks : List Int} (h : ks.Perm (keys (dictOf b))) (s : ks.Pairwise (· ≤ ·)) : (ks.map fun k => (k, (get1 (dictOf b) k).getD 0)) = lanesOf b := by
  refine lanes_uniq ?_ ?_
  · have h1 := h.map fun k => (k, (get1 (dictOf b) k).getD 0)
    have e : (keys (dictOf b)).map (fun k => (k, (get1 (dictOf b) k).getD 0)) = dictOf b := by
      unfold keys
      rw [List.map_map]
      have : ∀ q ∈ dictOf b, ((fun k => (k, (get1 (dictOf b) k).getD 0)) ∘ fun (x : Int × Int) => x.1) q = q := fun q hq => by
        show (q.1, (get1 (dictOf b) q.1).getD 0) = q
        rw [mem_get1 (dict_nodup b) hq]
        rfl
      rw [List.map_congr_left this, List.map_id']
    rw [e] at h1
    exact h1
  · rw [List.pairwise_map]
    exact s
theorem lanes_ne {b : Bun} (h : b ≠ []) : lanesOf b ≠ [] := fun z => by
  have e := (lanes_perm b)
  rw [z] at e
  have hn : dictOf b = [] := e.symm.eq_nil
  cases b with
  | nil => exact h rfl
  | cons row b =>
    have g := dict_get (row :: b) (rowLen row)
    rw [hn] at g
    have : roomOf (row :: b) (rowLen row) = plus (some (rowRoom row)) (roomOf b (rowLen row)) := by
      show plus (one row (rowLen row)) _ = _
      unfold one
      rw [if_pos rfl]
    rw [this] at g
    cases hh : roomOf b (rowLen row) <;> rw [hh] at g <;> simp [plus, get1] at g
theorem dict_length : ∀ (b : Bun) (l : KVs), (dictFrom l b).length ≤ l.length + b.length
  | [], l => by simp [dictFrom]
  | row :: b, l => by
    have h := dict_length b (add1 l (rowLen row) (rowRoom row))
    have h2 := put_length l (rowLen row) ((get1 l (rowLen row)).getD 0 + rowRoom row)
    show (dictFrom (add1 l (rowLen row) (rowRoom row)) b).length ≤ _
    unfold add1 at h ⊢
    rw [List.length_cons]
    omega
theorem lanes_length (b : Bun) : (lanesOf b).length ≤ b.length := by
  have h := dict_length b []
  rw [(lanes_perm b).length_eq]
  simpa using h
/-! ### rooms and rests -/
def roomTo (L : KVs) (n : Int) : Int := ((L.filter fun q => decide (q.1 ≤ n)).map (·.2)).sum
def restIn (L : KVs) (rate : Int) : Option Int := (L.find? fun q => !decide (roomTo L q.1 < rate)).map (·.1)
def lastKey (L : KVs) : Int := (L.getLast?.map (·.1)).getD 0
def topRoom (L : KVs) : Int := roomTo L (lastKey L)
theorem roomTo_top {L : KVs} {n : Int} (h : ∀ q ∈ L, q.1 ≤ n) : roomTo L n = (L.map (·.2)).sum := by
  unfold roomTo
  rw [List.filter_eq_self.mpr fun q hq => decide_eq_true (h q hq)]
theorem le_last {L : KVs} (s : L.Pairwise fun p q => p.1 ≤ q.1) : ∀ q ∈ L, q.1 ≤ lastKey L := by
  induction L with
  | nil => intro q hq; cases hq
  | cons a L ih =>
    intro q hq
    cases L with
    | nil => rw [List.mem_singleton.mp hq]; exact Int.le_refl _
    | cons b L =>
      have e : lastKey (a :: b :: L) = lastKey (b :: L) := by unfold lastKey; rw [List.getLast?_cons_cons]
      rw [e]
      rcases List.mem_cons.mp hq with z | hq
      · rw [z]
        exact Int.le_trans (List.rel_of_pairwise_cons s List.mem_cons_self) (ih s.tail b List.mem_cons_self)
      · exact ih s.tail q hq
theorem topRoom_eq {L : KVs} (s : L.Pairwise fun p q => p.1 ≤ q.1) {n : Int} (h : ∀ q ∈ L, q.1 ≤ n) : topRoom L = roomTo L n := by
  unfold topRoom
  rw [roomTo_top (le_last s), roomTo_top h]
/-! ### unlike ones -/
def rowsFrom (acc : List KVs) (ls : List KVs) : List KVs := ls.foldl (fun acc L => if L ∈ acc then acc else acc ++ [L]) acc
abbrev rowsOf (ls : List KVs) : List KVs := rowsFrom [] ls
theorem rows_from : ∀ (ls acc : List KVs), acc.Nodup → (rowsFrom acc ls).Nodup ∧ (∀ L, L ∈ rowsFrom acc ls ↔ L ∈ acc ∨ L ∈ ls) ∧ (rowsFrom acc ls).length ≤ acc.length + ls.length
  | [], acc, h => ⟨h, fun L => by simp [rowsFrom], by simp [rowsFrom]⟩
  | M :: ls, acc, h => by
    show (rowsFrom (if M ∈ acc then acc else acc ++ [M]) ls).Nodup ∧ (∀ L, L ∈ rowsFrom (if M ∈ acc then acc else acc ++ [M]) ls ↔ _) ∧ (rowsFrom (if M ∈ acc then acc else acc ++ [M]) ls).length ≤ _
    by_cases e : M ∈ acc
    · rw [if_pos e]
      obtain ⟨a, b, c⟩ := rows_from ls acc h
      refine ⟨a, fun L => ?_, by rw [List.length_cons]; omega⟩
      rw [b, List.mem_cons]
      exact ⟨fun z => z.imp_right .inr, fun z => z.elim .inl fun z => z.elim (fun z => .inl (z ▸ e)) .inr⟩
    · rw [if_neg e]
      have h' : (acc ++ [M]).Nodup := by
        rw [List.nodup_append]
        exact ⟨h, by simp, fun a ha b hb => by rw [List.mem_singleton.mp hb]; exact fun z => e (z ▸ ha)⟩
      obtain ⟨a, b, c⟩ := rows_from ls (acc ++ [M]) h'
      refine ⟨a, fun L => ?_, ?_⟩
      · rw [b, List.mem_append, List.mem_singleton, List.mem_cons, or_assoc]
      · rw [List.length_append, List.length_singleton] at c
        rw [List.length_cons]
        omega
theorem rows_perm {ls ls' : List KVs} (h : ∀ L, L ∈ ls ↔ L ∈ ls') : (rowsOf ls).Perm (rowsOf ls') := by
  obtain ⟨a, b, _⟩ := rows_from ls [] List.nodup_nil
  obtain ⟨a', b', _⟩ := rows_from ls' [] List.nodup_nil
  rw [List.perm_ext_iff_of_nodup a a']
  intro L
  rw [b, b', h]
/-! ### lists of rates -/
def upTo (lo hi : Int) : List Int := (List.range (hi + 1 - lo).toNat).map fun (i : Nat) => lo + (i : Int)
def nextOf (s : List Int) : Int := match s.getLast? with
  | some x => x + 1
  | none => 1
def longer (many : Int) (s : List Int) : List (List Int) := (upTo (nextOf s) many).map fun r => s ++ [r]
def choices (many : Int) : Nat → List (List Int)
  | 0 => [[]]
  | n + 1 => (choices many n).flatMap (longer many)
def Fine (many : Int) (s : List Int) : Prop := ∀ x ∈ s, 1 ≤ x ∧ x ≤ many
theorem mem_upTo {lo hi x : Int} (h : x ∈ upTo lo hi) : lo ≤ x ∧ x ≤ hi := by
  unfold upTo at h
  obtain ⟨i, hi', rfl⟩ := List.mem_map.mp h
  have := List.mem_range.mp hi'
  omega
theorem Fine.next {many : Int} {s : List Int} (h : Fine many s) : 1 ≤ nextOf s ∧ nextOf s ≤ max many 0 + 1 := by
  unfold nextOf
  cases e : s.getLast? with
  | none => exact ⟨Int.le_refl 1, by show (1 : Int) ≤ _; omega⟩
  | some x =>
    have := h x (List.mem_of_getLast? e)
    refine ⟨?_, ?_⟩
    · show 1 ≤ x + 1; omega
    · show x + 1 ≤ _; omega
theorem Fine.longer {many : Int} {s : List Int} (h : Fine many s) : ∀ t ∈ longer many s, Fine many t := by
  intro t ht x hx
  obtain ⟨r, hr, rfl⟩ := List.mem_map.mp ht
  rcases List.mem_append.mp hx with q | q
  · exact h x q
  · rw [List.mem_singleton.mp q]
    have := mem_upTo hr
    have := h.next
    omega
theorem choices_fine (many : Int) : ∀ n, ∀ s ∈ choices many n, Fine many s
  | 0, s, h => by rw [List.mem_singleton.mp h]; intro x hx; cases hx
  | n + 1, s, h => by
    obtain ⟨t, ht, hs⟩ := List.mem_flatMap.mp h
    exact (choices_fine many n t ht).longer s hs
theorem longer_length {many : Int} {s : List Int} (h : Fine many s) : (longer many s).length ≤ many.toNat := by
  unfold longer upTo
  rw [List.length_map, List.length_map, List.length_range]
  have := h.next
  omega
theorem flat_length {many : Int} : ∀ (l : List (List Int)), (∀ s ∈ l, Fine many s) → (l.flatMap (longer many)).length ≤ l.length * many.toNat
  | [], _ => by simp
  | s :: l, h => by
    have h1 := flat_length l fun t ht => h t (List.mem_cons_of_mem _ ht)
    have h2 := longer_length (h s List.mem_cons_self)
    rw [List.flatMap_cons, List.length_append, List.length_cons, Nat.add_mul, Nat.one_mul]
    omega
theorem choices_length (many : Int) : ∀ n, (choices many n).length ≤ many.toNat ^ n
  | 0 => by simp [choices]
  | n + 1 => by
    have h := flat_length (choices many n) (choices_fine many n)
    have h2 := Nat.mul_le_mul_right many.toNat (choices_length many n)
    rw [Nat.pow_succ]
    exact Nat.le_trans h h2
/-- told apart by these rates -/
def restsBy (rows : List KVs) (rates : List Int) : List (List (Option Int)) := rows.map fun L => rates.map (restIn L)
def apart (rows : List KVs) (rates : List Int) : Bool := decide (restsBy rows rates).Nodup
def answerAt (rows : List KVs) (many : Int) (n : Nat) : Option (List Int) := (choices many n).find? (apart rows)
def answer (rows : List KVs) (many : Int) : List Int := ((List.range rows.length).findSome? (answerAt rows many)).getD []
theorem apart_perm {rows rows' : List KVs} (h : rows.Perm rows') (rates : List Int) : apart rows rates = apart rows' rates := by
  unfold apart restsBy
  exact decide_eq_decide.mpr (h.map _).nodup_iff
theorem answer_perm {rows rows' : List KVs} (h : rows.Perm rows') (many : Int) : answer rows many = answer rows' many := by
  unfold answer
  rw [h.length_eq]
  congr 1
  have : answerAt rows many = answerAt rows' many := by
    funext n
    unfold answerAt
    congr 1
    funext r
    exact apart_perm h r
  rw [this]
def maxL (l : List Int) : Int := l.foldr max 0
theorem maxL_is (l : List Int) : (maxL l = 0 ∨ maxL l ∈ l) ∧ 0 ≤ maxL l ∧ ∀ x ∈ l, x ≤ maxL l := by
  induction l with
  | nil => exact ⟨.inl rfl, Int.le_refl _, fun x hx => by cases hx⟩
  | cons a l ih =>
    obtain ⟨h1, h2, h3⟩ := ih
    show (max a (maxL l) = 0 ∨ max a (maxL l) ∈ a :: l) ∧ 0 ≤ max a (maxL l) ∧ ∀ x ∈ a :: l, x ≤ max a (maxL l)
    refine ⟨?_, by omega, fun x hx => ?_⟩
    · by_cases c : a ≤ maxL l
      · rw [Int.max_eq_right c]
        exact h1.imp_right (List.mem_cons_of_mem _)
      · rw [Int.max_eq_left (by omega)]
        exact .inr List.mem_cons_self
    · rcases List.mem_cons.mp hx with e | hx
      · rw [e]; exact Int.le_max_left _ _
      · exact Int.le_trans (h3 x hx) (Int.le_max_right _ _)
theorem maxL_eq {m : Int} {l : List Int} (h1 : m = 0 ∨ m ∈ l) (h0 : 0 ≤ m) (h2 : ∀ x ∈ l, x ≤ m) : m = maxL l := by
  obtain ⟨a, b, c⟩ := maxL_is l
  refine Int.le_antisymm ?_ ?_
  · rcases h1 with e | e
    · omega
    · exact c m e
  · rcases a with e | e
    · omega
    · exact h2 _ e
theorem maxL_perm {l l' : List Int} (h : l.Perm l') : maxL l = maxL l' := by
  obtain ⟨a, b, c⟩ := maxL_is l
  exact maxL_eq (a.imp_right fun z => h.mem_iff.mp z) b fun x hx => c x (h.mem_iff.mpr hx)
def manyOf (rows : List KVs) : Int := maxL (rows.map topRoom)
/-- the rates of these bundles -/
def ratesOf (bs : List Bun) : List Int := answer (rowsOf (bs.map lanesOf)) (manyOf (rowsOf (bs.map lanesOf)))
theorem rates_congr {bs bs' : List Bun} (h : ∀ L, L ∈ bs.map lanesOf ↔ L ∈ bs'.map lanesOf) : ratesOf bs = ratesOf bs' := by
  have p := rows_perm h
  unfold ratesOf manyOf
  rw [answer_perm p, maxL_perm (p.map topRoom)]
/-! ### each once, in order -/
def dd {α : Type} [DecidableEq α] (acc l : List α) : List α := l.foldl (fun acc x => if x ∈ acc then acc else acc ++ [x]) acc
theorem dd_snoc {α : Type} [DecidableEq α] (acc l : List α) (x : α) : dd acc (l ++ [x]) = if x ∈ dd acc l then dd acc l else dd acc l ++ [x] := by
  unfold dd
  rw [List.foldl_append]
  rfl
def pushNew {α : Type} [DecidableEq α] (l : List α) (x : α) : List α := if x ∈ l then l else l ++ [x]
theorem pushNew_old {α : Type} [DecidableEq α] {l : List α} {x : α} (h : x ∈ l) : pushNew l x = l := if_pos h
theorem pushNew_new {α : Type} [DecidableEq α] {l : List α} {x : α} (h : ¬ x ∈ l) : pushNew l x = l ++ [x] := if_neg h
theorem pushNew_nodup {α : Type} [DecidableEq α] {l : List α} {x : α} (h : l.Nodup) : (pushNew l x).Nodup := by
  by_cases e : x ∈ l
  · rw [pushNew_old e]; exact h
  · rw [pushNew_new e, List.nodup_append]
    exact ⟨h, by simp, fun a ha b hb => by rw [List.mem_singleton.mp hb]; exact fun z => e (z ▸ ha)⟩
theorem dd_push {α : Type} [DecidableEq α] (acc l : List α) (x : α) : dd acc (l ++ [x]) = pushNew (dd acc l) x := dd_snoc acc l x
theorem dd_spec {α : Type} [DecidableEq α] : ∀ (l acc : List α), acc.Nodup → (dd acc l).Nodup ∧ (∀ x, x ∈ dd acc l ↔ x ∈ acc ∨ x ∈ l) ∧ (dd acc l).length ≤ acc.length + l.length ∧ ((dd acc l).length = acc.length + l.length ↔ (acc ++ l).Nodup)
  | [], acc, h => ⟨h, fun x => by simp [dd], by simp [dd], by simp [dd, h]⟩
  | a :: l, acc, h => by
    by_cases e : a ∈ acc
    · have e1 : dd acc (a :: l) = dd acc l := by unfold dd; rw [List.foldl_cons, if_pos e]
      obtain ⟨p, q, r, t⟩ := dd_spec l acc h
      rw [e1]
      refine ⟨p, fun x => ?_, by rw [List.length_cons]; omega, ?_⟩
      · rw [q, List.mem_cons]
        exact ⟨fun z => z.imp_right .inr, fun z => z.elim .inl fun z => z.elim (fun z => .inl (z ▸ e)) .inr⟩
      · rw [List.length_cons]
        refine ⟨fun z => by omega, fun z => ?_⟩
        rw [List.nodup_append] at z
        exact absurd rfl (z.2.2 a e a List.mem_cons_self)
    · have e1 : dd acc (a :: l) = dd (acc ++ [a]) l := by unfold dd; rw [List.foldl_cons, if_neg e]
      have h' : (acc ++ [a]).Nodup := by
        rw [List.nodup_append]
        exact ⟨h, by simp, fun x hx y hy => by rw [List.mem_singleton.mp hy]; exact fun z => e (z ▸ hx)⟩
      obtain ⟨p, q, r, t⟩ := dd_spec l (acc ++ [a]) h'
      rw [e1]
      rw [List.length_append, List.length_singleton] at r t
      refine ⟨p, fun x => ?_, by rw [List.length_cons]; omega, ?_⟩
      · rw [q, List.mem_append, List.mem_singleton, List.mem_cons, or_assoc]
      · rw [List.append_assoc, List.singleton_append] at t
        rw [← t, List.length_cons]
        omega
theorem dd_len {α : Type} [DecidableEq α] (l : List α) : (dd [] l).length = l.length ↔ l.Nodup := by
  obtain ⟨_, _, _, t⟩ := dd_spec l [] List.nodup_nil
  simpa using t
theorem dd_le {α : Type} [DecidableEq α] (l : List α) : (dd [] l).length ≤ l.length := by
  obtain ⟨_, _, t, _⟩ := dd_spec l [] List.nodup_nil
  simpa using t
theorem nodup_inj {α β : Type} {f : α → β} (hf : ∀ a b, f a = f b → a = b) (l : List α) : (l.map f).Nodup ↔ l.Nodup := by
  unfold List.Nodup
  rw [List.pairwise_map]
  exact ⟨fun h => h.imp fun hab z => hab (by rw [z]), fun h => h.imp fun hab z => hab (hf _ _ z)⟩
end Qm
set_option Elab.async false
set_option linter.all false
set_option maxRecDepth 100000
set_option maxHeartbeats 4000000
/-! # Lanes, rooms, rests -/
namespace Qb
open PySem L2
open PySem.Spec hiding Row
open PyProof.Rows hiding St
open Qm
variable {P : Program} {w : World} {K : PySem.W.Frag} {mg : Str → Option Value} {base : Heap}
/-! ### road_of -/
theorem scRoad : FnScope ["row", "length", "room"] ["row"] (defScope sRoadOf) := ⟨rfl, rfl, rfl, by decide +kernel, rfl, by decide +kernel, by decide +kernel⟩
def spRoad : Sp := fun vs H Q _ => ∃ (x : V) (row : Row), vs = [x] ∧ RowR H x row ∧ row ≠ [] ∧ row.length ≤ 100 ∧ ∀ H' p, Same H H' → H p = none → H' p = some (.tup [.int (rowLen row), .int (rowRoom row)]) → Q (.ref p) H'
theorem small100 {n : Nat} (h : n ≤ 100) : n ≤ sizeLine := Nat.le_trans h (by decide)
/-- [one of the two for length, room in row] -/
theorem lc_pairs {K : PySem.W.Frag} {i j k : Nat} {te : TE} {σ : L2.St} {H : Hp} {Q : VK} {a : Addr} {xs : List V} {row : Row} (f : Int × Int → Int) (hv : σ[i]? = some (some (.ref a))) (h : Sq H a xs) (hp : Paired (PairR H) xs row) (hl : row.length ≤ 100)
    (hw : ∀ u v : V, wipe (((wipe σ [j, k]).set j (some u)).set k (some v)) [j, k] = wipe σ [j, k])
    (he : ∀ (q : Int × Int) (H' : Hp) (Q' : VK), Q' (.int (f q)) H' → te (((wipe σ [j, k]).set j (some (.int q.1))).set k (some (.int q.2))) H' Q')
    (fin : ∀ D H', H D = none → Same H H' → H' D = some (.lst ((row.map f).map V.int)) → Q (.ref D) H') :
    tLc (iSq K i) (gSq K 2 (gCons (gName j) (gCons (gName k) gNil))) tYes te [j, k] σ H Q := by
  refine lc_fm (R := PairR) (R' := IntR) (fun q => some (f q)) mPairR mIntR hv h hp (small100 hl) (fun D H' x y hy hD _ s0 hR Kt Kf k1 k2 => ?_) (fun D H' hD s0 hL => ?_)
  · refine g_pair (mPairR _ _ _ _ (hid_sub _ _) hR) ⟨hw _ _, ?_⟩
    exact iteY (B := Kf H') rfl (he y H' Kt (k1 _ rfl _ _ (Same.refl _) rfl))
  · obtain ⟨_, zs, e, hz, hpz⟩ := hL
    cases e
    refine fin D H' hD s0 ?_
    rw [hz, ints_eq hpz, show (fun q => some (f q)) = some ∘ f from rfl, List.filterMap_eq_map]
theorem okRoadOf (T : Txt K mg) : FnOk P w K mg base CX0 1 T.f_roadOf T.d_roadOf ["row"] spRoad := by
  refine T.D_roadOf.F.ok scRoad (fun vs H Q E h => ?_) (fun cdv A outer s H vs Q E hr h => ?_)
  · obtain ⟨x, q, rfl, _⟩ := h
    rfl
  · obtain ⟨x, row, rfl, ⟨a, xs, rfl, ha, hp⟩, hne, hl, q⟩ := h
    refine ⟨_, pss_one (ps_ret (pe_tup (pa_cons (pe_callB (cr_sum rfl) (by rfl) T.z_sum (by decide +kernel) (pa_cons (pe_lc (own := [("length", 1), ("room", 2)]) (g := gSq K 2 (gCons (gName 1) (gCons (gName 2) gNil))) (tt := tYes) rfl scRoad.nd (pi_sq (pv 0)) (blkOk_by (N := ["row", "length", "room"]) (sc := defScope sRoadOf) (by decide +kernel))
        (fun _ _ _ _ _ => pg_sq rfl (pgs_cons (pg_name (i := 1) scRoad.nd rfl (Or.inl rfl)) (pgs_cons (pg_name (i := 2) scRoad.nd rfl (Or.inl rfl)) pgs_nil))) (fun _ _ _ _ _ => pts_nil) (fun _ _ _ _ _ => pv 1)) pa_nil))
      (pa_cons (pe_callB (cr_min rfl) (by rfl) T.z_min (by decide +kernel) (pa_cons (pe_lc (own := [("length", 1), ("room", 2)]) (g := gSq K 2 (gCons (gName 1) (gCons (gName 2) gNil))) (tt := tYes) rfl scRoad.nd (pi_sq (pv 0)) (blkOk_by (N := ["row", "length", "room"]) (sc := defScope sRoadOf) (by decide +kernel))
        (fun _ _ _ _ _ => pg_sq rfl (pgs_cons (pg_name (i := 1) scRoad.nd rfl (Or.inl rfl)) (pgs_cons (pg_name (i := 2) scRoad.nd rfl (Or.inl rfl)) pgs_nil))) (fun _ _ _ _ _ => pts_nil) (fun _ _ _ _ _ => pv 2)) pa_nil)) pa_nil)))), ?_⟩
    refine cb1 (lc_pairs (·.1) rfl ha hp hl (fun _ _ => rfl) (fun q H' Q' k => ⟨_, rfl, k⟩) fun D H1 hD s1 hz => ⟨D, _, rfl, SqL.of hz, ?_⟩)
    refine cb1 (lc_pairs (·.2) rfl (ha.go s1) (hp.mono fun _ _ r => mPairR _ _ _ _ s1 r) hl (fun _ _ => rfl) (fun q H' Q' k => ⟨_, rfl, k⟩) fun D2 H2 hD2 s2 hz2 => ⟨D2, _, rfl, SqL.of hz2, ?_, fun m hm hle => ?_⟩)
    · cases row with
      | nil => exact absurd rfl hne
      | cons => exact Nat.succ_pos _
    · refine ⟨by show 2 ≤ sizeLine; decide, fun p hp2 => ?_⟩
      have s12 := s1.trans s2
      have em : m = rowRoom row := (minL_eq ⟨hm, hle⟩).symm
      subst em
      exact q _ p (s12.trans (same_new hp2)) (s12.free hp2) upd_same
/-! ### for x in a list or a tuple -/
theorem for_sq {K : PySem.W.Frag} {i : Nat} {g : TG} {tb : TS} {D : Ends} {σ : L2.St} {H : Hp} {a : Addr} {xs : List V} (hv : σ[i]? = some (some (.ref a))) (h : Sq H a xs) (Pv : Nat → L2.St → Hp → Prop) (h0 : Pv 0 σ H)
    (hk : ∀ n σ H', n ≤ xs.length → Pv n σ H' → H' a = H a)
    (hs : ∀ n x σ H', xs[n]? = some x → Pv n σ H' → g x σ H' fun σ2 H2 => tb { D with nx := Pv (n + 1), ct := Pv (n + 1), bk := D.nx } σ2 H2)
    (hd : ∀ σ H', Pv xs.length σ H' → D.nx σ H') : tFor (iSq K i) g tb D σ H := by
  rcases h with h | h
  · exact .inl ⟨_, hv, a, rfl, ⟨xs, SqL.of h⟩, for_list (K := K) (a := a) (xs := xs) Pv h0 (fun n σ H' hn p => SqL.of ((hk n σ H' hn p).trans h)) hs hd⟩
  · exact .inr ⟨_, hv, a, rfl, ⟨xs, SqT.of h⟩, for_tup (K := K) (a := a) (xs := xs) Pv h0 (fun n σ H' hn p => SqT.of ((hk n σ H' hn p).trans h)) hs hd⟩
theorem sq_keep {H H' : Hp} {a : Addr} {xs : List V} (h : Sq H a xs) (s : Same H H') : H' a = H a := by
  rcases h with z | z
  · rw [z, s _ _ z]
  · rw [z, s _ _ z]
/-! ### a dict of ints -/
def emb (q : Int × Int) : Key × V := (Sum.inl q.1, .int q.2)
theorem valV_emb (l : KVs) (k : Int) : valV (l.map emb) (Sum.inl k) = (get1 l k).map V.int := by
  induction l with
  | nil => rfl
  | cons q l ih =>
    rw [List.map_cons, get1_cons]
    by_cases e : q.1 = k
    · rw [valV_pos (show (emb q).1 = Sum.inl k from congrArg _ e), if_pos e]
      rfl
    · rw [valV_neg (show ¬ (emb q).1 = Sum.inl k from fun z => e (Sum.inl.inj z)), if_neg e, ih]
theorem putK_emb (l : KVs) (k v : Int) : putK (l.map emb) (Sum.inl k) (.int v) = (put1 l k v).map emb := by
  unfold putK put1
  have e1 : ((l.map emb).any fun kv => decide (kv.1 = (Sum.inl k : Key))) = l.any fun q => decide (q.1 = k) := by
    rw [List.any_map]
    congr 1
    funext q
    show decide ((Sum.inl q.1 : Key) = Sum.inl k) = _
    exact decide_eq_decide.mpr ⟨Sum.inl.inj, congrArg _⟩
  rw [e1]
  by_cases h : (l.any fun q => decide (q.1 = k)) = true
  · rw [if_pos h, if_pos h, List.map_map, List.map_map]
    refine List.map_congr_left fun q _ => ?_
    show (if (Sum.inl q.1 : Key) = Sum.inl k then _ else _) = emb (if q.1 = k then _ else _)
    by_cases e : q.1 = k
    · rw [if_pos (congrArg _ e), if_pos e]; rfl
    · rw [if_neg (fun z => e (Sum.inl.inj z)), if_neg e]
  · rw [if_neg h, if_neg h, List.map_append]; rfl
theorem keys_emb (l : KVs) : (l.map emb).map (·.1) = (keys l).map Sum.inl := by
  unfold keys
  rw [List.map_map, List.map_map]
  rfl
/-! ### joined_lanes -/
theorem scJoined : FnScope ["bundle", "found", "row", "length", "room"] ["bundle"] (defScope sJoined) := ⟨rfl, rfl, rfl, by decide +kernel, rfl, by decide +kernel, by decide +kernel⟩
/-- a bundle that is well formed and small -/
def FineB (b : Bun) : Prop := b ≠ [] ∧ b.length ≤ 50 ∧ ∀ row ∈ b, row ≠ [] ∧ row.length ≤ 100
def spJoined : Sp := fun vs H Q _ => ∃ (x : V) (b : Bun), vs = [x] ∧ BunR H x b ∧ FineB b ∧ ∀ H' p, Same H H' → H p = none → LanesR H' (.ref p) (lanesOf b) → Q (.ref p) H'
theorem dict_snoc (b : Bun) (row : Row) : dictOf (b ++ [row]) = add1 (dictOf b) (rowLen row) (rowRoom row) := by
  unfold dictOf dictFrom
  rw [List.foldl_append]
  rfl
theorem okJoined (T : Txt K mg) : FnOk P w K mg base CX0 2 T.f_joined T.d_joined ["bundle"] spJoined := by
  refine T.D_joined.F.ok scJoined (fun vs H Q E h => ?_) (fun cdv A outer s H vs Q E hr h => ?_)
  · obtain ⟨x, q, rfl, _⟩ := h
    rfl
  · obtain ⟨x, b, rfl, ⟨a, xs, rfl, ha, hp⟩, ⟨hne, hl, hrow⟩, q⟩ := h
    have hu := hu_of hr
    refine ⟨_, pss_cons (ps_set (i := 1) scJoined.nd rfl (Or.inr rfl) pe_dnewK)
      (pss_cons (ps_for PassesOwn.never rfl (pi_sq (pv 0)) (pg_name (i := 2) scJoined.nd rfl (.inl rfl))
        (pss_cons (ps_asg (pe_df (okRoadOf T) T.D_roadOf hr rfl (pa_cons (pv 2) pa_nil)) (pg_tup rfl (pgs_cons (pg_name (i := 3) scJoined.nd rfl (.inl rfl)) (pgs_cons (pg_name (i := 4) scJoined.nd rfl (.inl rfl)) pgs_nil))))
        (pss_one (ps_dput hu (pv 1) (pv 3) (pe_op op_add (pe_dget2 hu (pv 1) (pv 3) pe_int ⟨rfl, rfl, rfl, rfl⟩) (pv 4)) rfl))))
      (pss_one (ps_ret (pe_lc (own := [("length", 3)]) (g := gName 3) (tt := tYes) rfl scJoined.nd (pi_list (pe_callB (call_sortedDI rfl) (by rfl) T.z_sorted (by decide +kernel) (pa_cons (pv 1) pa_nil))) (blkOk_by (N := ["bundle", "found", "row", "length", "room"]) (sc := defScope sJoined) (by decide +kernel))
        (fun _ _ _ _ _ => pg_name (i := 3) scJoined.nd rfl (Or.inl rfl)) (fun _ _ _ _ _ => pts_nil) (fun _ _ _ _ _ => pe_tup (pa_cons (pv 3) (pa_cons (pe_dget hu (pv 1) (pv 3) (fun _ _ => rfl)) pa_nil)))))))  , ?_⟩
    refine fun d hd => ?_
    have lx := hp.length
    refine for_sq (K := K) (a := a) (xs := xs) rfl (ha.go (same_new hd)) (fun n σ H' => ∃ r2 r3 r4, σ = [some (.ref a), some (.ref d), r2, r3, r4] ∧ Same H (hid [d] H') ∧ H' d = some (.dK ((dictOf (b.take n)).map emb)))
      ⟨none, none, none, rfl, same_hid (same_new hd) (fun c hc => by rw [List.mem_singleton.mp hc]; exact hd), upd_same⟩ (fun n σ H' _ p => ?_) ?_ ?_
    · obtain ⟨_, _, _, _, s0, _⟩ := p
      rw [sq_keep ha (s0.trans (hid_sub _ _)), upd_ne (fun z => by rw [z] at ha; exact ha.elim (fun q => by rw [hd] at q; cases q) (fun q => by rw [hd] at q; cases q))]
    · rintro n x σ H' hx ⟨r2, r3, r4, rfl, s0, hd'⟩
      obtain ⟨row, hrw, rx⟩ := pd_get hp hx
      have hmem := List.mem_of_getElem? hrw
      have sH : Same H H' := s0.trans (hid_sub _ _)
      refine ⟨_, rfl, x, row, rfl, mRowR _ _ _ _ sH rx, (hrow row hmem).1, (hrow row hmem).2, fun H2 t s2 ht h2t => ?_⟩
      refine ⟨t, _, rfl, SqT.of h2t, rfl, _, _, rfl, _, _, rfl, rfl, ?_⟩
      have hd2 := s2 _ _ hd'
      refine ⟨_, rfl, d, rfl, .inl ⟨_, .of hd2⟩, _, rfl, _, DGet.k (k := Sum.inl (rowLen row)) hd2, _, rfl, ?_⟩
      rw [valV_emb]
      refine ⟨(get1 (dictOf (b.take n)) (rowLen row)).getD 0, rowRoom row, ?_, rfl, ?_⟩
      · cases get1 (dictOf (b.take n)) (rowLen row) <;> rfl
      · have hlen : ((dictOf (b.take n)).map emb).length < sizeLine := by
          rw [List.length_map]
          have h1 := dict_length (b.take n) []
          rw [List.length_take, List.length_nil] at h1
          refine small1000 ?_
          show (dictFrom [] (b.take n)).length ≤ 1000
          omega
        refine ⟨_, rfl, _, rfl, d, _, rfl, DPut.k (k := Sum.inl (rowLen row)) hd2 hlen, ?_⟩
        refine ⟨_, _, _, rfl, ?_, ?_⟩
        · rw [hid_at (List.mem_singleton_self _)]
          exact s0.trans (hid_mono s2)
        · rw [upd_same, List.take_add_one, hrw]
          show _ = some (HO.dK ((dictOf (b.take n ++ [row])).map emb))
          rw [dict_snoc, putK_emb]
          rfl
    · rintro σ H' ⟨r2, r3, r4, rfl, s0, hd'⟩
      rw [lx, List.take_length] at hd'
      refine ⟨_, rfl, d, _, keys (dictOf b), rfl, .of hd', keys_emb _, ?_, fun ks p perm sorted hp2 => ?_⟩
      · have h1 := dict_length b []
        rw [List.length_nil] at h1
        show (keys (dictFrom [] b)).length < 64
        unfold keys
        rw [List.length_map]
        omega
      · have hp1 : upd H' p (.lst (ks.map V.int)) p = some (.lst (ks.map V.int)) := upd_same
        have sp : Same H' (upd H' p (.lst (ks.map V.int))) := same_new hp2
        have sH : Same H (upd H' p (.lst (ks.map V.int))) := (s0.trans (hid_sub _ _)).trans sp
        refine ⟨p, rfl, ⟨_, SqL.of hp1⟩, lc_fmb (R := IntR) (R' := TpR) (fun k => some (k, (get1 (dictOf b) k).getD 0)) mIntR mTpR hp1 (ints_of ks) ?_ ?_ ?_⟩
        · have h1 := dict_length b []
          rw [List.length_nil] at h1
          have h2 : ks.length = (dictOf b).length := by rw [perm.length_eq]; unfold keys; rw [List.length_map]
          refine small100 ?_
          have h3 : (dictOf b).length = (dictFrom [] b).length := rfl
          omega
        · intro D H2 x y hy hD ⟨acc, hDl⟩ s2 hR Kt Kf k1 k2
          cases (show x = V.int y from hR)
          have hd2 : H2 d = some (.dK ((dictOf b).map emb)) := hid_sub _ _ _ _ (s2 _ _ (sp _ _ hd'))
          refine ⟨rfl, ?_⟩
          refine iteY (B := Kf H2) rfl ?_
          have hk : ∃ v, get1 (dictOf b) y = some v := by
            have : y ∈ keys (dictOf b) := perm.mem_iff.mp hy
            cases e : get1 (dictOf b) y with
            | none => exact absurd this (get1_none.mp e)
            | some v => exact ⟨v, rfl⟩
          obtain ⟨v, hv⟩ := hk
          refine ⟨_, rfl, _, rfl, _, rfl, d, .int v, rfl, ?_, ?_⟩
          · have z := DGet.k (k := Sum.inl y) hd2
            rw [valV_emb, hv] at z
            exact z
          · refine ⟨by show 2 ≤ sizeLine; decide, fun t ht => k1 _ rfl _ _ (same_new ht) ⟨t, rfl, ?_⟩⟩
            have nt : t ∉ [D] := fun z => by
              rw [List.mem_singleton.mp z, hDl] at ht
              cases ht
            rw [hid_put nt, upd_same, hv]
            rfl
        · rintro D H2 hD s2 hL
          refine q _ D (sH.trans s2) (sH.free hD) ?_
          rw [show (fun k => some (k, (get1 (dictOf b) k).getD 0)) = some ∘ (fun k => (k, (get1 (dictOf b) k).getD 0)) from rfl, List.filterMap_eq_map, lanes_of_keys perm sorted] at hL
          exact hL
end Qb
set_option Elab.async false
set_option linter.all false
set_option maxRecDepth 100000
set_option maxHeartbeats 4000000
/-! # Rooms and rests -/
namespace Qb
open PySem L2
open PySem.Spec hiding Row
open PyProof.Rows hiding St
open Qm
variable {P : Program} {w : World} {K : PySem.W.Frag} {mg : Str → Option Value} {base : Heap}
/-! ### data as plain values -/
def PdOk (n : Nat) (d : PyData) : Prop := d.canLay0 = true ∧ d.depth ≤ n
theorem PdOk.all {α : Type} {f : α → PyData} {n : Nat} : ∀ {l : List α}, (∀ x ∈ l, PdOk n (f x)) → PyData.canLayAll0 (l.map f) = true ∧ PyData.depthAll (l.map f) ≤ n
  | [], _ => ⟨rfl, Nat.zero_le _⟩
  | x :: l, h => by
    obtain ⟨a, b⟩ := PdOk.all (l := l) fun y hy => h y (List.mem_cons_of_mem _ hy)
    obtain ⟨c, d⟩ := h x List.mem_cons_self
    refine ⟨?_, ?_⟩
    · show ((f x).canLay0 && PyData.canLayAll0 (l.map f)) = true
      rw [a, c]; rfl
    · show max (f x).depth (PyData.depthAll (l.map f)) ≤ n
      omega
theorem PdOk.list {α : Type} {f : α → PyData} {n : Nat} {l : List α} (h : ∀ x ∈ l, PdOk n (f x)) : PdOk (n + 1) (.list (l.map f)) := ⟨(PdOk.all h).1, Nat.succ_le_succ (PdOk.all h).2⟩
theorem PdOk.tuple {α : Type} {f : α → PyData} {n : Nat} {l : List α} (h : ∀ x ∈ l, PdOk n (f x)) : PdOk (n + 1) (.tuple (l.map f)) := ⟨(PdOk.all h).1, Nat.succ_le_succ (PdOk.all h).2⟩
theorem PdOk.int (n : Nat) (i : Int) : PdOk n (.int i) := ⟨rfl, Nat.zero_le _⟩
theorem PdOk.shaped {n : Nat} {d : PyData} (h : PdOk n d) (hn : n ≤ 64) : SeqAt.shaped d = true := by
  unfold SeqAt.shaped
  rw [h.1, decide_eq_true (Nat.le_trans h.2 hn)]
  rfl
theorem dp_all {α : Type} {R : DR α} {f : α → PyData} {H : Hp} (hf : ∀ v x, R H v x → Dp K H v (f x)) : ∀ {xs : List V} {l : List α}, Paired (R H) xs l → DpAll K H xs (l.map f)
  | _, _, .nil => .nil
  | _, _, .cons a t => .cons (hf _ _ a) (dp_all hf t)
theorem eqv_all {α : Type} [DecidableEq α] {f : α → PyData} (h : ∀ x y, PyData.eqv (f x) (f y) = decide (x = y)) : ∀ (l m : List α), PyData.eqvAll (l.map f) (m.map f) = decide (l = m)
  | [], [] => rfl
  | [], _ :: _ => rfl
  | _ :: _, [] => rfl
  | x :: l, y :: m => by
    show (PyData.eqv (f x) (f y) && PyData.eqvAll (l.map f) (m.map f)) = _
    rw [h, eqv_all h l m, ← Bool.decide_and]
    exact decide_eq_decide.mpr ⟨fun ⟨a, b⟩ => by rw [a, b], fun e => ⟨(List.cons.inj e).1, (List.cons.inj e).2⟩⟩
def dInts (ns : List Int) : PyData := .list (ns.map PyData.int)
def dPair (q : Int × Int) : PyData := .tuple [.int q.1, .int q.2]
def dLanes (L : KVs) : PyData := .list (L.map dPair)
theorem eqv_int (i j : Int) : PyData.eqv (.int i) (.int j) = decide (i = j) := by
  show (i == j) = _
  by_cases h : i = j <;> simp [h]
theorem eqv_ints (l m : List Int) : PyData.eqv (dInts l) (dInts m) = decide (l = m) := eqv_all eqv_int l m
theorem eqv_pair (p q : Int × Int) : PyData.eqv (dPair p) (dPair q) = decide (p = q) := by
  show (PyData.eqv (.int p.1) (.int q.1) && (PyData.eqv (.int p.2) (.int q.2) && true)) = _
  rw [eqv_int, eqv_int, Bool.and_true, ← Bool.decide_and]
  exact decide_eq_decide.mpr ⟨fun ⟨a, b⟩ => Prod.ext a b, fun e => ⟨by rw [e], by rw [e]⟩⟩
theorem eqv_lanes (l m : KVs) : PyData.eqv (dLanes l) (dLanes m) = decide (l = m) := eqv_all eqv_pair l m
theorem ok_ints (ns : List Int) : PdOk 1 (dInts ns) := PdOk.list fun x _ => PdOk.int 0 x
theorem ok_pair (q : Int × Int) : PdOk 1 (dPair q) := ⟨rfl, by show max 0 (max 0 0) + 1 ≤ 1; decide⟩
theorem ok_lanes (L : KVs) : PdOk 2 (dLanes L) := PdOk.list fun q _ => ok_pair q
theorem dp_ints {H : Hp} {v : V} {ns : List Int} (h : IntsR H v ns) : Dp K H v (dInts ns) := by
  obtain ⟨a, xs, rfl, e, p⟩ := h
  exact .lst (SqL.of e) (dp_all (f := PyData.int) (fun v x r => by rw [show v = .int x from r]; exact .int x) p)
theorem dp_pair {H : Hp} {v : V} {q : Int × Int} (h : TpR H v q) : Dp K H v (dPair q) := by
  obtain ⟨a, rfl, e⟩ := h
  exact .tup (SqT.of e) (.cons (.int _) (.cons (.int _) .nil))
theorem dp_lanes {H : Hp} {v : V} {L : KVs} (h : LanesR H v L) : Dp K H v (dLanes L) := by
  obtain ⟨a, xs, rfl, e, p⟩ := h
  exact .lst (SqL.of e) (dp_all (f := dPair) (fun v x r => dp_pair r) p)
theorem sq1 {te : TE} {i : Nat} {u : TS} {D : Ends} {σ : L2.St} {H : Hp} (h : te σ H fun x H1 => u D (σ.set i (some x)) H1) : tSeq (tAsg te (gName i)) u D σ H := h
/-! ### room_to -/
theorem small_l {n : Nat} (h : n ≤ 1000) : n ≤ sizeLine := Nat.le_trans h (by decide)
theorem lc_rooms {K : PySem.W.Frag} {i m j k : Nat} {tt : TT} {σ : L2.St} {H : Hp} {Q : VK} {a : Addr} {xs : List V} {L : KVs} {n : Int} (hv : σ[i]? = some (some (.ref a))) (h : H a = some (.lst xs)) (hp : Paired (TpR H) xs L) (hl : L.length ≤ 1000)
    (hw : ∀ u v : V, wipe (((wipe σ [j, k]).set j (some u)).set k (some v)) [j, k] = wipe σ [j, k]) (hr : ∀ u v : V, (((wipe σ [j, k]).set j (some u)).set k (some v))[k]? = some (some v))
    (ht : ∀ (q : Int × Int) (H' : Hp) (Q' : Bool → Hp → Prop), Q' (decide (q.1 ≤ n)) H' → tt (((wipe σ [j, k]).set j (some (.int q.1))).set k (some (.int q.2))) H' Q')
    (fin : ∀ D H', H D = none → Same H H' → H' D = some (.lst (((L.filter fun q => decide (q.1 ≤ n)).map (·.2)).map V.int)) → Q (.ref D) H') :
    tLc (iList K (tVar i)) (gTup K 2 (gCons (gName j) (gCons (gName k) gNil))) tt (tVar k) [j, k] σ H Q := by
  refine ⟨_, hv, a, rfl, ⟨xs, SqL.of h⟩, lc_fmb (R := TpR) (R' := IntR) (fun q => if q.1 ≤ n then some q.2 else none) mTpR mIntR h hp (small_l hl) (fun D H' x y hy hD _ s0 hR Kt Kf k1 k2 => ?_) (fun D H' hD s0 hL => ?_)⟩
  · refine g_tp (mTpR _ _ _ _ (hid_sub _ _) hR) ⟨hw _ _, ?_⟩
    refine ht y H' _ ?_
    by_cases c : y.1 ≤ n
    · exact iteY (decide_eq_true c) ⟨_, hr _ _, k1 _ (by rw [if_pos c]) _ _ (Same.refl _) rfl⟩
    · exact iteN (decide_eq_false c) (k2 (by rw [if_neg c]) _ (Same.refl _))
  · obtain ⟨_, zs, e, hz, hpz⟩ := hL
    cases e
    refine fin D H' hD s0 ?_
    rw [hz, ints_eq hpz]
    congr 2
    congr 1
    rw [← List.filterMap_eq_map, List.filterMap_filter]
    congr 1
    funext q
    by_cases c : q.1 ≤ n <;> simp [c]
theorem scRoomTo : FnScope ["known", "number", "length", "room"] ["known", "number"] (defScope sRoomTo) := ⟨rfl, rfl, rfl, by decide +kernel, rfl, by decide +kernel, by decide +kernel⟩
def spRoomTo : Sp := fun vs H Q _ => ∃ (x : V) (L : KVs) (n : Int), vs = [x, .int n] ∧ LanesR H x L ∧ L.length ≤ 1000 ∧ ∀ H', Same H H' → Q (.int (roomTo L n)) H'
theorem okRoomTo (T : Txt K mg) : FnOk P w K mg base CX0 1 T.f_roomTo T.d_roomTo ["known", "number"] spRoomTo := by
  refine T.D_roomTo.F.ok scRoomTo (fun vs H Q E h => ?_) (fun cdv A outer s H vs Q E hr h => ?_)
  · obtain ⟨x, L, n, rfl, _⟩ := h
    rfl
  · obtain ⟨x, L, n, rfl, ⟨a, xs, rfl, ha, hp⟩, hl, q⟩ := h
    refine ⟨_, pss_one (ps_ret (pe_callB (cr_sum rfl) (by rfl) T.z_sum (by decide +kernel) (pa_cons (pe_lc (own := [("length", 2), ("room", 3)]) (g := gTup K 2 (gCons (gName 2) (gCons (gName 3) gNil))) rfl scRoomTo.nd (pi_list (pv 0)) (blkOk_by (N := ["known", "number", "length", "room"]) (sc := defScope sRoomTo) (by decide +kernel))
        (fun _ _ _ _ _ => pg_tup rfl (pgs_cons (pg_name (i := 2) scRoomTo.nd rfl (Or.inl rfl)) (pgs_cons (pg_name (i := 3) scRoomTo.nd rfl (Or.inl rfl)) pgs_nil))) (fun _ _ _ _ _ => pts_one (pt_cmpR op_le (pv 2) (pv 1) (nomark _))) (fun _ _ _ _ _ => pv 3)) pa_nil))), ?_⟩
    refine cb1 (lc_rooms (m := 1) (n := n) rfl ha hp hl (fun _ _ => rfl) (fun _ _ => rfl) (fun q H' Q' k => ⟨_, rfl, _, rfl, _, _, rfl, rfl, _, rfl, k⟩) fun D H1 hD s1 hz => ⟨D, _, rfl, SqL.of hz, q _ s1⟩)
theorem scLRoom : FnScope ["_law_lanes_here", "_law_number", "_law_length", "_law_room_here"] ["_law_lanes_here", "_law_number"] (defScope sLRoom) := ⟨rfl, rfl, rfl, by decide +kernel, rfl, by decide +kernel, by decide +kernel⟩
theorem okLRoom (T : Txt K mg) : FnOk P w K mg base CX0 1 T.f_lroom T.d_lroom ["_law_lanes_here", "_law_number"] spRoomTo := by
  refine T.D_lroom.F.ok scLRoom (fun vs H Q E h => ?_) (fun cdv A outer s H vs Q E hr h => ?_)
  · obtain ⟨x, L, n, rfl, _⟩ := h
    rfl
  · obtain ⟨x, L, n, rfl, ⟨a, xs, rfl, ha, hp⟩, hl, q⟩ := h
    refine ⟨_, pss_one (ps_ret (pe_callB (cr_sum rfl) (by rfl) T.z_sum (by decide +kernel) (pa_cons (pe_lc (own := [("_law_length", 2), ("_law_room_here", 3)]) (g := gTup K 2 (gCons (gName 2) (gCons (gName 3) gNil))) rfl scLRoom.nd (pi_list (pv 0)) (blkOk_by (N := ["_law_lanes_here", "_law_number", "_law_length", "_law_room_here"]) (sc := defScope sLRoom) (by decide +kernel))
        (fun _ _ _ _ _ => pg_tup rfl (pgs_cons (pg_name (i := 2) scLRoom.nd rfl (Or.inl rfl)) (pgs_cons (pg_name (i := 3) scLRoom.nd rfl (Or.inl rfl)) pgs_nil))) (fun _ _ _ _ _ => pts_one (pt_cmpR op_le (pv 2) (pv 1) (nomark _))) (fun _ _ _ _ _ => pv 3)) pa_nil))), ?_⟩
    refine cb1 (lc_rooms (m := 1) (n := n) rfl ha hp hl (fun _ _ => rfl) (fun _ _ => rfl) (fun q H' Q' k => ⟨_, rfl, _, rfl, _, _, rfl, rfl, _, rfl, k⟩) fun D H1 hD s1 hz => ⟨D, _, rfl, SqL.of hz, q _ s1⟩)
theorem scLBelow : FnScope ["_law_one", "_law_other"] ["_law_one", "_law_other"] (defScope sLBelow) := ⟨rfl, rfl, rfl, by decide +kernel, rfl, by decide +kernel, by decide +kernel⟩
theorem okLBelow (T : Txt K mg) : FnOk P w K mg base CX0 1 T.f_lbelow T.d_lbelow ["_law_one", "_law_other"] spBelow := by
  refine T.D_lbelow.F.ok scLBelow (fun vs H Q E h => ?_) (fun cdv A outer s H vs Q E hr h => ?_)
  · obtain ⟨x, y, i, j, rfl, _⟩ := h
    rfl
  · obtain ⟨x, y, i, j, rfl, ⟨a, rfl, ha⟩, ⟨b, rfl, hb⟩, q⟩ := h
    refine ⟨_, pss_one (ps_ret (pe_cmp (pc_lt (pe_op op_mul (pe_ix ix_tup (pv 0) pe_int (fun _ _ => rfl)) (pe_ix ix_tup (pv 1) pe_int (fun _ _ => rfl)))
      (pe_op op_mul (pe_ix ix_tup (pv 1) pe_int (fun _ _ => rfl)) (pe_ix ix_tup (pv 0) pe_int (fun _ _ => rfl)))) rfl)), ?_⟩
    refine ⟨_, rfl, _, _, _, _, rfl, rfl, SqT.of ha, rfl, _, rfl, _, _, _, _, rfl, rfl, SqT.of hb, rfl, _, _, rfl, rfl, .inr (by show -(2 ^ 64) < (1 : Int) ∧ (1 : Int) < 2 ^ 64; decide), ?_⟩
    refine ⟨_, rfl, _, _, _, _, rfl, rfl, SqT.of hb, rfl, _, rfl, _, _, _, _, rfl, rfl, SqT.of ha, rfl, _, _, rfl, rfl, .inr (by show -(2 ^ 64) < (1 : Int) ∧ (1 : Int) < 2 ^ 64; decide), ?_⟩
    refine ⟨_, _, rfl, rfl, ?_⟩
    rw [Int.mul_one, Int.mul_one]
    exact q
/-! ### rest_in -/
def oV : Option Int → V
  | none => .non
  | some i => .int i
def OptR : DR (Option Int) := fun _ v o => v = oV o
theorem mOptR : Mono OptR := fun _ _ _ _ _ h => h
theorem scRest : FnScope ["known", "rate", "length", "room"] ["known", "rate"] (defScope sRestIn) := ⟨rfl, rfl, rfl, by decide +kernel, rfl, by decide +kernel, by decide +kernel⟩
def spRest : Sp := fun vs H Q _ => ∃ (x y : V) (L : KVs) (r : Int), vs = [x, y] ∧ LanesR H x L ∧ TpR H y (r, 1) ∧ L.length ≤ 1000 ∧ ∀ H', Same H H' → Q (oV (restIn L r)) H'
theorem find_none {α : Type} (p : α → Bool) : ∀ (l : List α), (∀ (j : Nat) (x : α), l[j]? = some x → p x = false) → l.find? p = none
  | [], _ => rfl
  | a :: l, h => by
    rw [List.find?_cons, h 0 a rfl]
    exact find_none p l fun j x e => h (j + 1) x (by simpa using e)
theorem find_at {α : Type} (p : α → Bool) : ∀ (l : List α) (i : Nat) (y : α), l[i]? = some y → p y = true → (∀ (j : Nat) (x : α), j < i → l[j]? = some x → p x = false) → l.find? p = some y
  | [], i, y, e, _, _ => by simp at e
  | a :: l, 0, y, e, h, _ => by
    simp only [List.getElem?_cons_zero, Option.some.injEq] at e
    rw [List.find?_cons, e, h]
  | a :: l, i + 1, y, e, h, b => by
    rw [List.find?_cons, b 0 a (Nat.succ_pos _) rfl]
    exact find_at p l i y (by simpa using e) h fun j x hj hx => b (j + 1) x (by omega) (by simpa using hx)
theorem okRestIn (T : Txt K mg) : FnOk P w K mg base CX0 2 T.f_restIn T.d_restIn ["known", "rate"] spRest := by
  refine T.D_restIn.F.ok scRest (fun vs H Q E h => ?_) (fun cdv A outer s H vs Q E hr h => ?_)
  · obtain ⟨x, y, L, r, rfl, _⟩ := h
    rfl
  · obtain ⟨x, y, L, r, rfl, ⟨a, xs, rfl, ha, hp⟩, hy, hl, q⟩ := h
    refine ⟨_, pss_cons (ps_for PassesOwn.never rfl (pi_list (pv 0)) (pg_tup rfl (pgs_cons (pg_name (i := 2) scRest.nd rfl (Or.inl rfl)) (pgs_cons (pg_name (i := 3) scRest.nd rfl (Or.inl rfl)) pgs_nil)))
        (pss_one (ps_if (pt_not (pt_val (pe_df (okBelow T) T.D_below hr rfl (pa_cons (pe_tup (pa_cons (pe_df (okRoomTo T) T.D_roomTo hr rfl (pa_cons (pv 0) (pa_cons (pv 2) pa_nil))) (pa_cons pe_int pa_nil))) (pa_cons (pv 1) pa_nil))))) (pss_one (ps_ret (pv 2))) pss_nil)))
      (pss_one (ps_ret pe_non)), ?_⟩
    have lx := hp.length
    refine ⟨_, rfl, a, rfl, ⟨xs, SqL.of ha⟩, for_list (K := K) (a := a) (xs := xs) (fun n σ H' => ∃ r2 r3, σ = [some (.ref a), some y, r2, r3] ∧ Same H H' ∧ ∀ j p, j < n → L[j]? = some p → (!decide (roomTo L p.1 < r)) = false)
      ⟨none, none, rfl, Same.refl _, fun j p hj => absurd hj (Nat.not_lt_zero _)⟩ (fun n σ H' _ ⟨_, _, _, s1, _⟩ => SqL.of (s1 _ _ ha)) ?_ ?_⟩
    · rintro n x σ H' hx ⟨r2, r3, rfl, s1, hok⟩
      obtain ⟨p, hpn, rx⟩ := pd_get hp hx
      refine g_tp (mTpR _ _ _ _ s1 rx) ?_
      refine ⟨_, rfl, _, rfl, .ref a, L, p.1, rfl, ⟨a, xs, rfl, s1 _ _ ha, hp.mono fun _ _ z => mTpR _ _ _ _ s1 z⟩, hl, fun H2 s2 => ⟨by show 2 ≤ sizeLine; decide, fun t ht => ?_⟩⟩
      refine ⟨_, rfl, .ref t, y, roomTo L p.1, r, rfl, ⟨t, rfl, upd_same⟩, mTpR _ _ _ _ ((s1.trans s2).trans (same_new ht)) hy, ?_⟩
      refine ⟨_, rfl, ?_⟩
      by_cases c : roomTo L p.1 < r
      · refine iteN (by rw [decide_eq_true c]; rfl) ⟨_, _, rfl, (s1.trans s2).trans (same_new ht), fun j z hj hz => ?_⟩
        by_cases e : j = n
        · rw [e, hpn] at hz
          rw [← Option.some.inj hz, decide_eq_true c]; rfl
        · exact hok j z (by omega) hz
      · refine iteY (by rw [decide_eq_false c]; rfl) ⟨_, rfl, ?_⟩
        have e : restIn L r = some p.1 := by
          unfold restIn
          rw [find_at _ L n p hpn (by rw [decide_eq_false c]; rfl) hok]
          rfl
        rw [e] at q
        exact q _ ((s1.trans s2).trans (same_new ht))
    · rintro σ H' ⟨r2, r3, rfl, s1, hok⟩
      have z := q _ s1
      have e : restIn L r = none := by
        unfold restIn
        rw [find_none _ L fun j p hj => hok j p (by rw [lx]; exact (List.getElem?_eq_some_iff.mp hj).1) hj]
        rfl
      rw [e] at z
      exact z
/-! ### _law_rest_in -/
theorem scLRest : FnScope ["_law_lanes_here", "_law_rate", "_law_some", "_law_length", "_law_room_here"] ["_law_lanes_here", "_law_rate"] (defScope sLRest) := ⟨rfl, rfl, rfl, by decide +kernel, rfl, by decide +kernel, by decide +kernel⟩
theorem okLRest (T : Txt K mg) : FnOk P w K mg base CX0 2 T.f_lrest T.d_lrest ["_law_lanes_here", "_law_rate"] spRest := by
  refine T.D_lrest.F.ok scLRest (fun vs H Q E h => ?_) (fun cdv A outer s H vs Q E hr h => ?_)
  · obtain ⟨x, y, L, r, rfl, _⟩ := h
    rfl
  · obtain ⟨x, y, L, r, rfl, ⟨a, xs, rfl, ha, hp⟩, hy, hl, q⟩ := h
    refine ⟨_, pss_cons (ps_setLc (i := 2) (own := [("_law_length", 3), ("_law_room_here", 4)]) (g := gTup K 2 (gCons (gName 3) (gCons (gName 4) gNil))) rfl scLRest.nd rfl rfl (sw_true rfl rfl rfl (by decide +kernel)) (pi_list (pv 0)) (blkOk_by (N := ["_law_lanes_here", "_law_rate", "_law_some", "_law_length", "_law_room_here"]) (sc := defScope sLRest) (by decide +kernel))
        (fun _ _ _ _ _ => pg_tup rfl (pgs_cons (pg_name (i := 3) scLRest.nd rfl (Or.inl rfl)) (pgs_cons (pg_name (i := 4) scLRest.nd rfl (Or.inl rfl)) pgs_nil)))
        (fun _ _ _ _ _ => pts_one (pt_not (pt_val (pe_df (okLBelow T) T.D_lbelow hr rfl (pa_cons (pe_tup (pa_cons (pe_df (okLRoom T) T.D_lroom hr rfl (pa_cons (pv 0) (pa_cons (pv 3) pa_nil))) (pa_cons pe_int pa_nil))) (pa_cons (pv 1) pa_nil)))))) (fun _ _ _ _ _ => pv 3))
      (pss_one (ps_ret (pe_ifExp (pt_cmpR (op_neD hr.units) (pv 2) (pe_lst pa_nil) (nomark _)) (pe_ix ix_list (pv 2) pe_int (fun _ _ => rfl)) pe_non))), ?_⟩
    refine sq1 (lc_fml (R := TpR) (R' := IntR) (fun q => if roomTo L q.1 < r then none else some q.1) mTpR mIntR rfl ha hp (small_l hl) (fun D H' x p hp' hD _ s0 hR Kt Kf k1 k2 => ?_) (fun D H1 hD s1 hL => ?_))
    · refine g_tp (mTpR _ _ _ _ (hid_sub _ _) hR) ⟨rfl, ?_⟩
      have sH : Same H H' := s0.trans (hid_sub _ _)
      refine ⟨_, rfl, _, rfl, .ref a, L, p.1, rfl, ⟨a, xs, rfl, sH _ _ ha, hp.mono fun _ _ z => mTpR _ _ _ _ sH z⟩, hl, fun H2 s2 => ⟨by show 2 ≤ sizeLine; decide, fun t ht => ?_⟩⟩
      refine ⟨_, rfl, .ref t, y, roomTo L p.1, r, rfl, ⟨t, rfl, upd_same⟩, mTpR _ _ _ _ ((sH.trans s2).trans (same_new ht)) hy, ?_⟩
      refine ⟨_, rfl, ?_⟩
      by_cases c : roomTo L p.1 < r
      · exact iteN (by rw [decide_eq_true c]; rfl) (k2 (by rw [if_pos c]) _ (s2.trans (same_new ht)))
      · exact iteY (by rw [decide_eq_false c]; rfl) ⟨_, rfl, k1 _ (by rw [if_neg c]) _ _ (s2.trans (same_new ht)) rfl⟩
    · obtain ⟨_, zs, e, hz, hpz⟩ := hL
      cases e
      have eh : restIn L r = (L.filterMap fun q => if roomTo L q.1 < r then none else some q.1).head? := by
        unfold restIn
        generalize roomTo L = g
        clear hp hl q hpz hz
        induction L with
        | nil => rfl
        | cons p L ih =>
          rw [List.find?_cons, List.filterMap_cons]
          by_cases c : g p.1 < r
          · rw [decide_eq_true c, if_pos c]; exact ih
          · rw [decide_eq_false c, if_neg c]; rfl
      refine ⟨_, rfl, Nat.zero_le _, fun l hl2 => ⟨_, _, dp_ints (mIntsR _ _ _ _ (same_new hl2) ⟨D, zs, rfl, hz, hpz⟩), dp_ints (ns := []) ⟨l, [], rfl, upd_same, .nil⟩, (ok_ints _).shaped (by decide), (ok_ints _).shaped (by decide), _, rfl, ?_⟩⟩
      rw [eqv_ints]
      rw [eh] at q
      revert hpz q
      generalize (L.filterMap fun q => if roomTo L q.1 < r then none else some q.1) = os
      intro q hpz
      have s2 : Same H (upd H1 l (.lst [])) := s1.trans (same_new hl2)
      cases hpz with
      | nil => exact iteN rfl (q _ s2)
      | cons h1 h2 =>
        rename_i v0 i0 vs0 is0
        refine iteY rfl ?_
        cases (show v0 = V.int i0 from h1)
        exact ⟨_, rfl, _, _, _, _, rfl, rfl, SqL.of (same_new hl2 _ _ hz), atI_nat (j := 0) (v := V.int i0) rfl, q _ s2⟩
end Qb
set_option Elab.async false
set_option linter.all false
set_option maxRecDepth 100000
set_option maxHeartbeats 4000000
/-! # Lists of rates -/
namespace Qb
open PySem L2
open PySem.Spec hiding Row
open PyProof.Rows hiding St
open Qm
variable {P : Program} {w : World} {K : PySem.W.Frag} {mg : Str → Option Value} {base : Heap}
/-- [e for x in a list for r in range(lo, hi)] -/
theorem lc2_flat {α β : Type} {R : DR α} {R' : DR β} {K : PySem.W.Frag} {i j0 j1 : Nat} {wi1 : TI} {te : TE} {vs : List Nat} {σ : L2.St} {H : Hp} {Q : VK} {a : Addr} {xs : List V} {l : List α} (lo : α → Int) (cnt : α → Nat) (h : α → Nat → β) (m : Mono R) (m' : Mono R')
    (hv : σ[i]? = some (some (.ref a))) (ha : H a = some (.lst xs)) (hp : Paired (R H) xs l) (hl : (l.flatMap fun y => (List.range (cnt y)).map (h y)).length < sizeLine)
    (hw : ∀ x : V, wipe ((wipe σ vs).set j0 (some x)) vs = wipe σ vs)
    (hw1 : ∀ x v : V, wipe ((wipe ((wipe σ vs).set j0 (some x)) [j1]).set j1 (some v)) [j1] = wipe ((wipe σ vs).set j0 (some x)) [j1])
    (inn : ∀ D H' x y, y ∈ l → Same H (hid [D] H') → R (hid [D] H') x y → ∀ S : It → Hp → Prop, S (Itr (lo y) (cnt y)) H' → wi1 ((wipe σ vs).set j0 (some x)) H' S)
    (step : ∀ D H' x y j, y ∈ l → j < cnt y → H D = none → (∃ acc, H' D = some (.lst acc)) → Same H (hid [D] H') → R (hid [D] H') x y → ∀ Kt : V → Hp → Prop, (∀ v H2, Same H' H2 → R' (hid [D] H2) v (h y j) → Kt v H2) →
      te ((wipe ((wipe σ vs).set j0 (some x)) [j1]).set j1 (some (.int (lo y + j)))) H' Kt)
    (fin : ∀ D H', H D = none → Same H H' → LstR R' H' (.ref D) (l.flatMap fun y => (List.range (cnt y)).map (h y)) → Q (.ref D) H') :
    tLc2 (iList K (tVar i)) (gName j0) tYes wi1 (gName j1) tYes te vs [j1] σ H Q := by
  generalize hf : (fun y => (List.range (cnt y)).map (h y)) = f at hl fin
  have hxl := hp.length
  refine ⟨_, hv, a, rfl, ⟨xs, SqL.of ha⟩, fun D hD => ⟨fun n k H' => k = xs.length - n ∧ n ≤ xs.length ∧ MapI R' H D ((l.take n).flatMap f) H', ⟨xs.length, rfl, Nat.zero_le _, by simpa using MapI.start hD⟩, ?_⟩⟩
  rintro n k H' ⟨rfl, hn, p⟩
  have s0 : Same H (hid [D] H') := by obtain ⟨acc, _, s0, _⟩ := p; exact s0
  have hq : SqL K H' a xs := SqL.of (hid_sub _ _ _ _ (s0 _ _ ha))
  by_cases hlt : n < xs.length
  · refine .inr ⟨⟨xs, xs[n], hq, by simp [hlt]⟩, fun H2 => n + 1 ≤ xs.length ∧ MapI R' H D ((l.take (n + 1)).flatMap f) H2, fun H2 q => ⟨_, (by omega : xs.length - (n + 1) < xs.length - n), rfl, q.1, q.2⟩, fun x H2 y => ?_⟩
    obtain ⟨e, y⟩ := y
    subst e
    have hx := y xs hq
    obtain ⟨z, hz, r⟩ := pd_get hp hx
    have hmem := List.mem_of_getElem? hz
    refine ⟨hw x, inn D H2 x z hmem s0 (m _ _ _ _ s0 r) _ ?_⟩
    have ef : f z = (List.range (cnt z)).map (h z) := by rw [← hf]
    have hbig : ((l.take n).flatMap f).length + (f z).length ≤ (l.flatMap f).length := by
      have e1 : l = l.take n ++ (z :: l.drop (n + 1)) := by
        obtain ⟨q1, q2⟩ := List.getElem?_eq_some_iff.mp hz
        rw [← q2, List.getElem_cons_drop, List.take_append_drop]
      conv => rhs; rw [e1]
      rw [List.flatMap_append, List.flatMap_cons, List.length_append, List.length_append]
      omega
    refine ⟨fun j k H3 => k = cnt z - j ∧ j ≤ cnt z ∧ MapI R' H D ((l.take n).flatMap f ++ (f z).take j) H3, ⟨cnt z, rfl, Nat.zero_le _, by simpa using p⟩, ?_⟩
    rintro j k H3 ⟨rfl, hj, p3⟩
    have s3 : Same H (hid [D] H3) := by obtain ⟨acc, _, s3, _⟩ := p3; exact s3
    by_cases hjlt : j < cnt z
    · refine .inr ⟨hjlt, fun H4 => j + 1 ≤ cnt z ∧ MapI R' H D ((l.take n).flatMap f ++ (f z).take (j + 1)) H4, fun H4 q => ⟨_, (by omega : cnt z - (j + 1) < cnt z - j), rfl, q.1, q.2⟩, fun v H4 y4 => ?_⟩
      obtain ⟨e4, ev⟩ := y4
      subst e4 ev
      refine ⟨hw1 _ _, ?_⟩
      refine iteY (B := j + 1 ≤ cnt z ∧ MapI R' H D ((l.take n).flatMap f ++ (f z).take (j + 1)) H4) rfl ?_
      refine step D H4 x z j hmem hjlt hD (let ⟨acc, e, _⟩ := p3; ⟨acc, e⟩) s3 (m _ _ _ _ s3 r) _ (fun v H5 s5 rz => ?_)
      have hle : ((l.take n).flatMap f ++ (f z).take j).length < sizeLine := by
        rw [List.length_append, List.length_take]
        have : (f z).length = cnt z := by rw [ef, List.length_map, List.length_range]
        omega
      obtain ⟨acc, e1, e2, e3⟩ := p3.add m' s5 hle rz
      refine ⟨acc, e1, e2, hjlt, ?_⟩
      have et : (f z).take (j + 1) = (f z).take j ++ [h z j] := by
        rw [List.take_add_one]
        congr 1
        rw [ef, List.getElem?_map, List.getElem?_range hjlt]
        rfl
      rw [et, ← List.append_assoc]
      exact e3
    · have e : j = cnt z := by omega
      subst e
      refine .inl ⟨Nat.le_refl _, hlt, ?_⟩
      have et : (l.take (n + 1)).flatMap f = (l.take n).flatMap f ++ (f z).take (cnt z) := by
        have e1 : (f z).take (cnt z) = f z := List.take_of_length_le (by rw [ef, List.length_map, List.length_range]; exact Nat.le_refl _)
        rw [e1, List.take_add_one, hz, List.flatMap_append]
        simp
      rw [et]
      exact p3
  · have e : n = xs.length := by omega
    subst e
    refine .inl ⟨⟨xs, hq, Nat.le_refl _⟩, ?_⟩
    rw [hxl, List.take_length] at p
    obtain ⟨s1, s2⟩ := p.out m' hD
    exact fin D H' hD s1 s2
theorem as1 {te : TE} {i : Nat} {D : Ends} {σ : L2.St} {H : Hp} (h : te σ H fun x H1 => D.nx (σ.set i (some x)) H1) : tAsg te (gName i) D σ H := h
/-- a test by truth, the written part named -/
def tTru (K : PySem.W.Frag) (ta : TE) : TT := fun σ H Q => ta σ H fun x H' => ∃ k, TruV K x H' k ∧ Q k H'
/-! ### choices_of -/
/-- a list of ints that was not there at H0 -/
def NewR (H0 : Hp) : DR (List Int) := fun H v l => ∃ a, v = .ref a ∧ H0 a = none ∧ H a = some (.lst (l.map V.int))
theorem mNewR (H0 : Hp) : Mono (NewR H0) := fun _ _ _ _ s ⟨a, e, n, h⟩ => ⟨a, e, n, s _ _ h⟩
def cntOf (many : Int) (s : List Int) : Nat := (many + 1 - nextOf s).toNat
def extOf (s : List Int) (j : Nat) : List Int := s ++ [nextOf s + (j : Int)]
theorem longer_eq (many : Int) (s : List Int) : (List.range (cntOf many s)).map (extOf s) = longer many s := by
  unfold longer Qm.upTo
  rw [List.map_map]
  rfl
theorem flat_eq (many : Int) (l : List (List Int)) : (l.flatMap fun y => (List.range (cntOf many y)).map (extOf y)) = l.flatMap (longer many) := by
  congr 1
  funext y
  exact longer_eq many y
theorem choices_len (many : Int) : ∀ n, ∀ s ∈ choices many n, s.length = n
  | 0, s, h => by rw [List.mem_singleton.mp h]; rfl
  | n + 1, s, h => by
    obtain ⟨t, ht, hs⟩ := List.mem_flatMap.mp h
    obtain ⟨r, _, rfl⟩ := List.mem_map.mp hs
    rw [List.length_append, choices_len many n t ht]
    rfl
theorem small1000' {n : Nat} (h : n ≤ 1000) : n ≤ sizeLine := Nat.le_trans h (by decide)
theorem scChoices : FnScope ["many", "size", "found", "_", "some", "rate"] ["many", "size"] (defScope sChoices) := ⟨rfl, rfl, rfl, by decide +kernel, rfl, by decide +kernel, by decide +kernel⟩
def spChoices : Sp := fun vs H Q _ => ∃ (many : Int) (n : Nat), vs = [.int many, .int (n : Nat)] ∧ 0 ≤ many ∧ many ≤ 100 ∧ n ≤ 100 ∧ (∀ k, k ≤ n → many.toNat ^ k < sizeLine) ∧
  ∀ H' p xs, Same H H' → H p = none → H' p = some (.lst xs) → Paired (NewR H H') xs (choices many n) → Q (.ref p) H'
theorem next_bounds {many : Int} {s : List Int} (h : Fine many s) (h0 : 0 ≤ many) (h1 : many ≤ 100) : 1 ≤ nextOf s ∧ nextOf s ≤ 101 := by
  have := h.next
  omega
theorem okChoices (T : Txt K mg) : FnOk P w K mg base CX0 1 T.f_choices T.d_choices ["many", "size"] spChoices := by
  refine T.D_choices.F.ok scChoices (fun vs H Q E h => ?_) (fun cdv A outer s H vs Q E hr h => ?_)
  · obtain ⟨many, n, rfl, _⟩ := h
    rfl
  · obtain ⟨many, N, rfl, h0, h1, hN, hb, q⟩ := h
    refine ⟨_, pss_cons (ps_set (i := 2) scChoices.nd rfl (.inl rfl) (pe_lst (pa_cons (pe_lst pa_nil) pa_nil)))
      (pss_cons (ps_for PassesOwn.never rfl (pi_range1 (by rfl) T.z_range (pa_cons (pv 1) pa_nil)) (pg_name (i := 3) scChoices.nd rfl (.inl rfl))
        (pss_one (ps_setLc2 (i := 2) (own := [("some", 4), ("rate", 5)]) (vs1 := [5]) (g := gName 4) (g1 := gName 5) (tt := tYes) (tt1 := tYes) rfl scChoices.nd rfl rfl (sw_true rfl rfl rfl (by decide +kernel)) (pi_list (pv 2)) (blkOk_by (N := ["many", "size", "found", "_", "some", "rate"]) (sc := defScope sChoices) (by decide +kernel)) (by decide)
          (fun _ _ _ _ _ => pg_name (i := 4) scChoices.nd rfl (Or.inl rfl)) (fun _ _ _ _ _ => pts_nil)
          (fun _ _ _ _ _ => pi_range2 (by rfl) T.z_range (pa_cons (pe_ifExp (show PT _ _ (tTru K (tVar 4)) from pt_truth (pv 4) (by intro _; rfl)) (pe_op op_add (pe_ix (show IxR _ (rIxL K) from ix_list) (pv 4) (pe_un un_neg pe_int) (fun _ _ => rfl)) pe_int) pe_int) (pa_cons (pe_op op_add (pv 0) pe_int) pa_nil)))
          (fun _ _ _ _ _ => pg_name (i := 5) scChoices.nd rfl (Or.inl rfl)) (fun _ _ _ _ _ => pts_nil)
          (fun _ _ _ _ _ => pe_op op_cat (pv 4) (pe_lst (pa_cons (pv 5) pa_nil))))))
      (pss_one (ps_ret (pv 2)))), ?_⟩
    refine ⟨Nat.zero_le _, fun e he => ⟨by show 1 ≤ sizeLine; decide, fun f hf => ?_⟩⟩
    refine ⟨_, rfl, (N : Int), rfl, by omega, by omega, for_range (lo := 0) (n := ((N : Nat) : Int).toNat) (fun i σ H' => ∃ f r3 xs, σ = [some (.int many), some (.int (N : Nat)), some (.ref f), r3, none, none] ∧ Same H H' ∧ H f = none ∧ H' f = some (.lst xs) ∧ Paired (NewR H H') xs (choices many i)) ?_ ?_ ?_⟩
    · have nf : f ≠ e := fun z => by rw [z, upd_same] at hf; cases hf
      have hf0 : H f = none := by rw [upd_ne nf] at hf; exact hf
      refine ⟨f, none, [.ref e], rfl, (same_new he).trans (same_new hf), hf0, upd_same, .cons ⟨e, rfl, he, ?_⟩ .nil⟩
      rw [upd_ne nf.symm, upd_same]
      rfl
    · rintro i σ H1 hi ⟨f1, r3, xs, rfl, s1, hf1, hx, hp⟩
      rw [Int.toNat_natCast] at hi
      have hfine := choices_fine many i
      have hlen : ((choices many i).flatMap fun y => (List.range (cntOf many y)).map (extOf y)).length < sizeLine := by
        rw [flat_eq]
        exact Nat.lt_of_le_of_lt (choices_length many (i + 1)) (hb (i + 1) hi)
      refine as1 (lc2_flat (R := NewR H) (R' := NewR H) nextOf (cntOf many) extOf (mNewR H) (mNewR H) rfl hx hp hlen (fun _ => rfl) (fun _ _ => rfl) ?_ ?_ ?_)
      · rintro D H2 x y hy s2 ⟨b, rfl, hb0, hb2⟩ S k
        have nb := next_bounds (hfine y hy) h0 h1
        have hb3 := hid_sub _ _ _ _ hb2
        have fin : ∀ z : Int, z = nextOf y → (tCons (tOp (rI0 fun i j => V.int (i + j)) (tVar 0) (tC (V.int 1))) tNil) [some (V.int many), some (.int (N : Nat)), some (.ref f1), some (.int (0 + (i : Nat))), some (.ref b), none] H2 (fun vs H1 => ∃ i j : Int, (V.int z :: vs) = [.int i, .int j] ∧ (-(2 ^ 62) ≤ i ∧ i < 2 ^ 62 ∧ -(2 ^ 62) ≤ j ∧ j < 2 ^ 62) ∧ S (Itr i (j - i).toNat) H1) := fun z hz => by
          subst hz
          exact ⟨_, rfl, _, _, rfl, rfl, _, _, rfl, ⟨by omega, by omega, by omega, by omega⟩, k⟩
        refine ⟨_, rfl, _, .inl ⟨_, SqL.of hb3, rfl⟩, ?_⟩
        rcases List.eq_nil_or_concat y with ey | ⟨y0, z, ey⟩
        · subst ey
          exact iteN rfl (fin 1 rfl)
        · rw [List.concat_eq_append] at ey
          subst ey
          refine iteY (by rw [List.map_append]; cases y0 <;> rfl) ?_
          refine ⟨_, rfl, _, rfl, b, _, _, .int z, rfl, rfl, SqL.of hb3, by rw [List.map_append]; exact atI_last _ _, _, _, rfl, rfl, fin (z + 1) ?_⟩
          unfold nextOf
          rw [List.getLast?_append]
          rfl
      · rintro D H2 x y j hy hj hD ⟨acc, hDl⟩ s2 ⟨b, rfl, hb0, hb2⟩ Kt k
        have hb3 := hid_sub _ _ _ _ hb2
        have ln : y.length ≤ 100 := by rw [choices_len many i y hy]; omega
        refine ⟨_, rfl, _, rfl, by show 1 ≤ sizeLine; decide, fun t ht => ?_⟩
        refine ⟨b, t, _, _, rfl, rfl, same_new ht _ _ hb3, upd_same, ?_, fun p hp2 => ?_⟩
        · rw [List.length_map]
          exact small1000' (by show y.length + 1 ≤ 1000; omega)
        · have st := (same_new (o := HO.lst [.int (nextOf y + (j : Nat))]) ht).trans (same_new (o := HO.lst (y.map V.int ++ [.int (nextOf y + (j : Nat))])) hp2)
          have np : p ∉ [D] := fun z => by
            rw [List.mem_singleton.mp z, same_new ht _ _ hDl] at hp2
            cases hp2
          refine k _ _ st ⟨p, rfl, ?_, ?_⟩
          · exact ((s1.trans (s2.trans (hid_sub _ _))).trans (same_new ht)).free hp2
          · rw [hid_put np, upd_same]
            unfold extOf
            rw [List.map_append]
            rfl
      · rintro D H2 hD s2 ⟨_, zs, e1, hz, hpz⟩
        cases e1
        exact ⟨D, _, zs, rfl, s1.trans s2, s1.free hD, hz, by rw [flat_eq] at hpz; exact hpz⟩
    · rintro σ H1 ⟨f1, r3, xs, rfl, s1, hf1, hx, hp⟩
      rw [Int.toNat_natCast] at hp
      exact ⟨_, rfl, q _ f1 xs s1 hf1 hx hp⟩
end Qb
set_option Elab.async false
set_option linter.all false
set_option maxRecDepth 100000
set_option maxHeartbeats 4000000
/-! # The law's lists of rates -/
namespace Qb
open PySem L2
open PySem.Spec hiding Row
open PyProof.Rows hiding St
open Qm
variable {P : Program} {w : World} {K : PySem.W.Frag} {mg : Str → Option Value} {base : Heap}
/-- [e for r in range(lo, hi)] -/
theorem lc_rng {β : Type} {R' : DR β} {wi : TI} {j0 : Nat} {te : TE} {vs : List Nat} {σ : L2.St} {H : Hp} {Q : VK} (lo : Int) (cnt : Nat) (h : Nat → β) (m' : Mono R') (hc : cnt ≤ sizeLine)
    (hw : ∀ x : V, wipe ((wipe σ vs).set j0 (some x)) vs = wipe σ vs)
    (inn : ∀ S : It → Hp → Prop, (∀ H1, Same H H1 → S (Itr lo cnt) H1) → wi σ H S)
    (step : ∀ D H' j, j < cnt → H D = none → (∃ acc, H' D = some (.lst acc)) → Same H (hid [D] H') → ∀ Kt : V → Hp → Prop, (∀ v H2, Same H' H2 → R' (hid [D] H2) v (h j) → Kt v H2) → te ((wipe σ vs).set j0 (some (.int (lo + (j : Nat))))) H' Kt)
    (fin : ∀ D H', H D = none → Same H H' → LstR R' H' (.ref D) ((List.range cnt).map h) → Q (.ref D) H') :
    tLc wi (gName j0) tYes te vs σ H Q := by
  refine inn _ fun H1 s1 D hD => ?_
  refine lc_range (lo := lo) (n := cnt) (fun n H' => MapI R' H1 D (((List.range cnt).map h).take n) H') (by simpa using MapI.start hD) (fun n H' hn p => ?_) (fun H' p => ?_)
  · have s0 : Same H1 (hid [D] H') := by obtain ⟨acc, _, s0, _⟩ := p; exact s0
    refine ⟨hw _, ?_⟩
    refine iteY (B := MapI R' H1 D (((List.range cnt).map h).take (n + 1)) H') rfl ?_
    refine step D H' n hn (s1.free hD) (let ⟨acc, e, _⟩ := p; ⟨acc, e⟩) (s1.trans s0) _ (fun v H2 s2 rz => ?_)
    have hle : (((List.range cnt).map h).take n).length < sizeLine := by
      rw [List.length_take, List.length_map, List.length_range]
      omega
    obtain ⟨acc, e1, e2, e3⟩ := p.add m' s2 hle rz
    refine ⟨acc, e1, e2, ?_⟩
    have et : ((List.range cnt).map h).take (n + 1) = ((List.range cnt).map h).take n ++ [h n] := by
      rw [List.take_add_one]
      congr 1
      rw [List.getElem?_map, List.getElem?_range hn]
      rfl
    rw [et]
    exact e3
  · rw [List.take_of_length_le (by rw [List.length_map, List.length_range]; exact Nat.le_refl _)] at p
    obtain ⟨a, b⟩ := p.out m' hD
    exact fin D H' (s1.free hD) (s1.trans a) b
theorem MapI.addAll {β : Type} {R' : DR β} {H : Hp} {D : Addr} {out : List β} {H' H2 : Hp} {zs : List V} {l : List β} (m : Mono R') (h : MapI R' H D out H') (s : Same H' H2) (r : Paired (R' (hid [D] H2)) zs l) :
    ∃ acc, H2 D = some (.lst acc) ∧ acc.length = out.length ∧ MapI R' H D (out ++ l) (upd H2 D (.lst (acc ++ zs))) := by
  obtain ⟨acc, e, s0, p⟩ := h.keep m s
  refine ⟨acc, e, p.length, _, upd_same, ?_, ?_⟩
  · rw [hid_at (List.mem_singleton_self _)]; exact s0
  · rw [hid_at (List.mem_singleton_self _)]
    exact pd_app p r
theorem tc1 {ta : TE} {σ : L2.St} {H : Hp} {Q : List V → Hp → Prop} (h : ta σ H fun v H1 => Q [v] H1) : tCons ta tNil σ H Q := h
theorem scLists : FnScope ["_law_most", "_law_many", "_law_found", "_law_k", "_law_later", "_law_some", "_law_rate"] ["_law_most", "_law_many"] (defScope sLists) := ⟨rfl, rfl, rfl, by decide +kernel, rfl, by decide +kernel, by decide +kernel⟩
theorem okLists (T : Txt K mg) : FnOk P w K mg base CX0 1 T.f_lists T.d_lists ["_law_most", "_law_many"] spChoices := by
  refine T.D_lists.F.ok scLists (fun vs H Q E h => ?_) (fun cdv A outer s H vs Q E hr h => ?_)
  · obtain ⟨many, n, rfl, _⟩ := h
    rfl
  · obtain ⟨many, N, rfl, h0, h1, hN, hb, q⟩ := h
    refine ⟨_, pss_cons (ps_set (i := 2) scLists.nd rfl (.inl rfl) (pe_lst (pa_cons (pe_lst pa_nil) pa_nil)))
      (pss_cons (ps_for PassesOwn.never rfl (pi_range1 (by rfl) T.z_range (pa_cons (pv 1) pa_nil)) (pg_name (i := 3) scLists.nd rfl (.inl rfl))
        (pss_cons (ps_set (i := 4) scLists.nd rfl (.inl rfl) (pe_lst pa_nil))
        (pss_cons (ps_for PassesOwn.never rfl (pi_list (pv 2)) (pg_name (i := 5) scLists.nd rfl (.inr rfl))
          (pss_one (ps_expr (pe_bm PySem.F.plainAttrs_list PySem.F.slot_list_extend PySem.F.type_list_extend mt_extend (pv 4) (pa_cons
            (pe_lc (own := [("_law_rate", 6)]) (g := gName 6) (tt := tYes) rfl scLists.nd (pi_range2 (by rfl) T.z_range (pa_cons (pe_ifExp (pt_cmpR (op_neD hr.units) (pv 5) (pe_lst pa_nil) (nomark _)) (pe_op op_add (pe_ix (show IxR _ (rIxL K) from ix_list) (pv 5) (pe_un un_neg pe_int) (fun _ _ => rfl)) pe_int) pe_int) (pa_cons (pe_op op_add (pv 0) pe_int) pa_nil)))
              (blkOk_by (N := ["_law_most", "_law_many", "_law_found", "_law_k", "_law_later", "_law_some", "_law_rate"]) (sc := defScope sLists) (by decide +kernel))
              (fun _ _ _ _ _ => pg_name (i := 6) scLists.nd rfl (Or.inl rfl)) (fun _ _ _ _ _ => pts_nil) (fun _ _ _ _ _ => pe_op op_cat (pv 5) (pe_lst (pa_cons (pv 6) pa_nil)))) pa_nil)))))
        (pss_one (ps_set (i := 2) scLists.nd rfl (.inl rfl) (pv 4))))))
      (pss_one (ps_ret (pv 2)))), ?_⟩
    refine ⟨Nat.zero_le _, fun e he => ⟨by show 1 ≤ sizeLine; decide, fun f hf => ?_⟩⟩
    refine ⟨_, rfl, (N : Int), rfl, by omega, by omega, for_range (lo := 0) (n := ((N : Nat) : Int).toNat) (fun i σ H' => ∃ f r3 r4 r5 xs, σ = [some (.int many), some (.int (N : Nat)), some (.ref f), r3, r4, r5, none] ∧ Same H H' ∧ H f = none ∧ H' f = some (.lst xs) ∧ Paired (NewR H H') xs (choices many i)) ?_ ?_ ?_⟩
    · have nf : f ≠ e := fun z => by rw [z, upd_same] at hf; cases hf
      have hf0 : H f = none := by rw [upd_ne nf] at hf; exact hf
      refine ⟨f, none, none, none, [.ref e], rfl, (same_new he).trans (same_new hf), hf0, upd_same, .cons ⟨e, rfl, he, ?_⟩ .nil⟩
      rw [upd_ne nf.symm, upd_same]
      rfl
    · rintro i σ H1 hi ⟨f1, r3, r4, r5, xs, rfl, s1, hf1, hx, hp⟩
      rw [Int.toNat_natCast] at hi
      have hfine := choices_fine many i
      have hlenI := choices_len many i
      have hlen : ((choices many i).flatMap (longer many)).length < sizeLine := Nat.lt_of_le_of_lt (choices_length many (i + 1)) (hb (i + 1) hi)
      refine ⟨Nat.zero_le _, fun la hla => ?_⟩
      have lx := hp.length
      have sa : Same H1 (upd H1 la (.lst [])) := same_new hla
      refine ⟨_, rfl, f1, rfl, ⟨xs, SqL.of (sa _ _ hx)⟩, for_list (K := K) (a := f1) (xs := xs) (fun n σ H' => ∃ r5, σ = [some (.int many), some (.int (N : Nat)), some (.ref f1), some (.int (0 + (i : Nat))), some (.ref la), r5, none] ∧ MapI (NewR H) H1 la (((choices many i).take n).flatMap (longer many)) H') ⟨r5, rfl, by simpa using MapI.start hla⟩ (fun n σ H' _ ⟨_, _, acc, _, s0, _⟩ => SqL.of (hid_sub _ _ _ _ (s0 _ _ hx))) ?_ ?_⟩
      · rintro n x σ H' hxn ⟨r5', rfl, p⟩
        obtain ⟨y, hy, b, rfl, hb0, hb1⟩ := pd_get hp hxn
        have hmem := List.mem_of_getElem? hy
        have s0 : Same H1 (hid [la] H') := by obtain ⟨acc, _, s0, _⟩ := p; exact s0
        have hb2 : H' b = some (.lst (y.map V.int)) := hid_sub _ _ _ _ (s0 _ _ hb1)
        have hly : y.length ≤ 100 := by rw [hlenI y hmem]; omega
        have nb := next_bounds (hfine y hmem) h0 h1
        obtain ⟨acc0, hacc0, _⟩ := id p
        refine ⟨_, rfl, .inl ⟨rfl, _, SqL.of hacc0⟩, ?_⟩
        have hcnt : cntOf many y ≤ 100 := by unfold cntOf; omega
        refine tc1 (lc_rng (R' := NewR H') (nextOf y) (cntOf many y) (extOf y) (mNewR H') (small100 hcnt) (fun _ => rfl) ?_ ?_ ?_)
        · intro S k
          have fin : ∀ (z : Int) (H2 : Hp), Same H' H2 → z = nextOf y → (tCons (tOp (rI0 fun i j => V.int (i + j)) (tVar 0) (tC (V.int 1))) tNil) [some (V.int many), some (.int (N : Nat)), some (.ref f1), some (.int (0 + (i : Nat))), some (.ref la), some (.ref b), none] H2 (fun vs H1 => ∃ i j : Int, (V.int z :: vs) = [.int i, .int j] ∧ (-(2 ^ 62) ≤ i ∧ i < 2 ^ 62 ∧ -(2 ^ 62) ≤ j ∧ j < 2 ^ 62) ∧ S (Itr i (j - i).toNat) H1) := fun z H2 s2 hz => by
            subst hz
            exact ⟨_, rfl, _, _, rfl, rfl, _, _, rfl, ⟨by omega, by omega, by omega, by omega⟩, k _ s2⟩
          refine ⟨_, rfl, Nat.zero_le _, fun l hl2 => ⟨dInts y, dInts [], dp_ints ⟨b, _, rfl, same_new hl2 _ _ hb2, ints_of y⟩, dp_ints (ns := []) ⟨l, [], rfl, upd_same, .nil⟩, (ok_ints _).shaped (by decide), (ok_ints _).shaped (by decide), _, rfl, ?_⟩⟩
          rw [eqv_ints]
          rcases List.eq_nil_or_concat y with ey | ⟨y0, z, ey⟩
          · subst ey
            exact iteN rfl (fin 1 _ (same_new hl2) rfl)
          · rw [List.concat_eq_append] at ey
            subst ey
            refine iteY (by rw [decide_eq_false (by simp)]; rfl) ?_
            refine ⟨_, rfl, _, rfl, b, _, _, .int z, rfl, rfl, SqL.of (same_new hl2 _ _ hb2), by rw [List.map_append]; exact atI_last _ _, _, _, rfl, rfl, fin (z + 1) _ (same_new hl2) ?_⟩
            unfold nextOf
            rw [List.getLast?_append]
            rfl
        · intro D H2 j hj hD ⟨acc, hDl⟩ s2 Kt k
          have hb3 : H2 b = some (.lst (y.map V.int)) := hid_sub _ _ _ _ (s2 _ _ hb2)
          refine ⟨_, rfl, _, rfl, by show 1 ≤ sizeLine; decide, fun t ht => ?_⟩
          refine ⟨b, t, _, _, rfl, rfl, same_new ht _ _ hb3, upd_same, ?_, fun p hp2 => ?_⟩
          · rw [List.length_map]
            exact small1000' (by show y.length + 1 ≤ 1000; omega)
          · have st := (same_new (o := HO.lst [.int (nextOf y + (j : Nat))]) ht).trans (same_new (o := HO.lst (y.map V.int ++ [.int (nextOf y + (j : Nat))])) hp2)
            have np : p ∉ [D] := fun z => by
              rw [List.mem_singleton.mp z, same_new ht _ _ hDl] at hp2
              cases hp2
            refine k _ _ st ⟨p, rfl, ?_, ?_⟩
            · exact ((s2.trans (hid_sub _ _)).trans (same_new ht)).free hp2
            · rw [hid_put np, upd_same]
              unfold extOf
              rw [List.map_append]
              rfl
        · rintro D H2 hD s2 ⟨_, zs, e1, hz, hpz⟩
          cases e1
          rw [longer_eq] at hpz
          have sH' : Same H H' := s1.trans (s0.trans (hid_sub _ _))
          obtain ⟨acc, ha1, ha2, ha3⟩ := p.addAll (mNewR H) s2 (hpz.mono fun v y ⟨c, e1, n1, h1⟩ => (⟨c, e1, sH'.free n1, by
            rw [hid_eq (fun z => by rw [List.mem_singleton.mp z, hacc0] at n1; cases n1)]; exact h1⟩ : NewR H (hid [la] H2) v y))
          refine ⟨la, D, acc, zs, rfl, rfl, ha1, hz, ?_, ?_⟩
          · rw [ha2, hpz.length]
            have e1 : choices many i = (choices many i).take n ++ (y :: (choices many i).drop (n + 1)) := by
              obtain ⟨q1, q2⟩ := List.getElem?_eq_some_iff.mp hy
              rw [← q2, List.getElem_cons_drop, List.take_append_drop]
            rw [e1, List.flatMap_append, List.flatMap_cons, List.length_append, List.length_append] at hlen
            omega
          · refine ⟨_, rfl, ?_⟩
            rw [List.take_add_one, hy, List.flatMap_append]
            simpa using ha3
      · rintro σ H' ⟨r5', rfl, p⟩
        rw [lx, List.take_length] at p
        obtain ⟨acc, e1, s0, pp⟩ := p
        exact ⟨_, rfl, la, _, _, _, acc, rfl, s1.trans (s0.trans (hid_sub _ _)), s1.free hla, e1, pp.mono fun _ _ z => mNewR H _ _ _ _ (hid_sub _ _) z⟩
    · rintro σ H1 ⟨f1, r3, r4, r5, xs, rfl, s1, hf1, hx, hp⟩
      rw [Int.toNat_natCast] at hp
      exact ⟨_, rfl, q _ f1 xs s1 hf1 hx hp⟩
end Qb
set_option Elab.async false
set_option linter.all false
set_option maxRecDepth 100000
set_option maxHeartbeats 4000000
/-! # A dict whose keys are tuples of None, ints, texts -/
namespace Qb
open PySem L2
open PySem.Spec hiding Row
open PyProof.Rows hiding St
/-- a key's part as a value -/
def okV : Option Key → V
  | none => .non
  | some k => kV k
abbrev NKey := List (Option Key)
abbrev NEnt := NKey × Addr × Value
abbrev nkd (P : Program) (w : World) : HeapKind P w NKey := tupleKind (noneKind P w)
/-- what stands at D: a dict's object with these entries -/
def nObj (P : Program) (w : World) (D : Addr) (es : List NEnt) : HO := .ext fun h =>
  (D == sysModules) = false ∧ es.length ≤ sizeLine ∧ ∃ o rs ep, h.get? D = some o ∧ o.ExactDict ∧ o.data = .dict rs ep ∧ rs.toList = es.map (entryOfKey (nkd P w))
/-- the keys' own tuples stand in H, no key twice -/
structure NDict (P : Program) (w : World) (H : Hp) (D : Addr) (es : List NEnt) : Prop where
  at_ : H D = some (nObj P w D es)
  tups : ∀ x ∈ es, H x.2.1 = some (.tup (x.1.map okV))
  nd : (es.map (·.1)).Nodup
theorem nk_is {P : Program} {w : World} : ∀ {k : Option Key} {u : Value}, RelV (okV k) u → (noneKind P w).is k u = true
  | none, u, r => by rw [show u = Value.none from r]; rfl
  | some k, u, r => kV_is (P := P) (w := w) r
theorem items_are {P : Program} {w : World} : ∀ {ks : NKey} {us : List Value}, Vals (ks.map okV) us → ItemsAre (noneKind P w) ks us
  | [], us, r => by cases r; exact .nil
  | k :: ks, us, r => by cases r with | cons a t => exact .cons (nk_is a) (items_are t)
theorem key_at {P : Program} {w : World} {H : Hp} {h : Heap} {b : Addr} {ks : NKey} (hok : HOk P w H h) (e : H b = some (.tup (ks.map okV))) : (nkd P w).is h ks b := by
  obtain ⟨_, us, r, o, h1, h2, n, h3⟩ := (show ObjOk P w H h b (.tup (ks.map okV)) from hok b _ e)
  exact ⟨o, us.toArray, n, h1, h2, h3, items_are (by simpa using r)⟩
theorem nObj_ok {P : Program} {w : World} {H : Hp} {h : Heap} {D : Addr} {es : List NEnt} (hd : (D == sysModules) = false) (hz : es.length ≤ sizeLine) (x : ∃ o rs ep, h.get? D = some o ∧ o.ExactDict ∧ o.data = .dict rs ep ∧ rs.toList = es.map (entryOfKey (nkd P w))) : ObjOk P w H h D (nObj P w D es) := by
  refine ⟨⟨hd, hz, x⟩, ?_, ?_⟩
  · obtain ⟨o, _, _, e, _⟩ := x
    exact ⟨o, e⟩
  · rintro h1 h2 ⟨a, b, o, rs, ep, e, c⟩ keep
    exact ⟨a, b, o, rs, ep, keep o e, c⟩
theorem NDict.of {P : Program} {w : World} {H : Hp} {h : Heap} {D : Addr} {es : List NEnt} (n : NDict P w H D es) (hok : HOk P w H h) : (D == sysModules) = false ∧ es.length ≤ sizeLine ∧ h.DictOfH (nkd P w) D es := by
  obtain ⟨⟨hd, hz, o, rs, ep, e1, e2, e3, e4⟩, _⟩ := (show ObjOk P w H h D (nObj P w D es) from hok D _ n.at_)
  exact ⟨hd, hz, o, rs, ep, e1, e2, e3, e4, fun x hx => key_at hok (n.tups x hx), n.nd⟩
section
variable {X : Cx} {pins : List (Addr × Obj)} {σ : L2.St} {H : Hp} {s : Shared}
theorem storedH_length {es : List NEnt} {k : NKey} {a : Addr} {v : Value} : (storedH es k a v).length ≤ es.length + 1 := by
  unfold storedH
  split <;> simp
/-- d[t] = True or False within a comprehension -/
theorem nd_store {D b : Addr} {es : List NEnt} {ks : NKey} {v : Value} {A : Around} {E : Value → Shared → Prop} {Q : Unit → Shared → Prop} (hu : A.units < cLine) (I : Inv X pins σ H s) (n : NDict X.prog X.w H D es) (hb : H b = some (.tup (ks.map okV))) (hz : es.length < sizeLine)
    (k : ∀ s', Inv X pins σ (upd H D (nObj X.prog X.w D (storedH es ks b v))) s' → Q () s') : wpAny (model X.prog X.w) A (dictSet D (.ref b) v) Q E s := by
  obtain ⟨hd, hz', dd⟩ := n.of I.hok
  refine wpAny_dictSet_heap (knd := nkd X.prog X.w) (hsz := hz') hu (key_at I.hok hb) dd fun h' dd' sb => k _ ?_
  obtain ⟨o, rs, ep, e1, e2, e3, e4, _⟩ := dd'
  have hl := storedH_length (es := es) (k := ks) (a := b) (v := v)
  exact d_write I (by rw [n.at_]; exact True.intro) sb ⟨o, e1⟩ (nObj_ok hd (by omega) ⟨o, rs, ep, e1, e2, e3, e4⟩)
/-- {t: True for x in xs}, t a tuple of None, ints, texts; D the new dict -/
def tDn (P : Program) (w : World) (wi : TI) (g : TG) (tk tv : TE) (vs : List Nat) : TE := fun σ H Q => wi σ H fun J H1 => ∀ D, H1 D = none → ∃ W : Nat → Nat → Hp → Prop, (∃ m, W 0 m (upd H1 D (nObj P w D []))) ∧ ∀ i m H2, W i m H2 →
  (J.stop i H2 ∧ Q (.ref D) H2) ∨ (J.go i H2 ∧ ∃ Nx : Hp → Prop, (∀ H', Nx H' → ∃ m', m' < m ∧ W (i + 1) m' H') ∧ ∀ x H', J.yld i H2 x H' → g x (wipe σ vs) H' fun σ2 H3 => wipe σ2 vs = wipe σ vs ∧
    tk σ2 H3 fun y H4 => tv σ2 H4 fun z H5 => ∃ (es : List NEnt) (ks : NKey) (b : Addr) (c : Bool), y = .ref b ∧ z = .bl c ∧ H5 b = some (.tup (ks.map okV)) ∧ NDict P w H5 D es ∧ es.length < sizeLine ∧ Nx (upd H5 D (nObj P w D (storedH es ks b (.bool c)))))
theorem sw_dict {kx vx : Expr} {gs : List Comprehension} {scope : Scope} {pos py : Pos} {y : Str} {l : Nat} {env : Env} (hk : env.scope.kind = .function) (hy : env.scope.names.lookup y = some .local) (hl : (py.line == pos.line) = true)
    (ha : (scope.names.any fun (n, k) => n == y && (k == .local || k == .cell)) = false) : swapsWith (.DictComp kx vx gs scope pos) (some (.Name y py)) l env = pure true := by
  have h1 : env.blockKind = .function := by unfold Env.blockKind; rw [hk]; rfl
  have h2 : env.kindOf y = some .local := hy
  unfold swapsWith
  simp only [h1, h2, ha, Expr.pos, hl]
  rfl
/-- the heap behind the making of the new dict -/
theorem nd_made {P : Program} {w : World} {H : Hp} (h : Heap) (big : sysModules < h.objs.size) : ObjOk P w H (h.push { cls := .type "dict", data := .dict #[] }) h.objs.size (nObj P w h.objs.size []) :=
  nObj_ok (beq_eq_false_iff_ne.mpr fun z => Nat.lt_irrefl _ (z ▸ big)) (Nat.zero_le _) ⟨_, #[], 0, Heap.get?_push_size _ rfl, ⟨rfl, rfl, rfl⟩, rfl, rfl⟩
abbrev Bk (X : Cx) (scope : Scope) (s : Shared) (H : Hp) (C : Addr) (cl : List (Str × Addr)) (fp : List Addr) : Cx := X.blk s H scope (compEnvC scope cl C X.env) fp
theorem nd_core {Q : VK} {kx vx tg iter : Expr} {scope : Scope} {own : List (Str × Nat)} {pos pos' : Pos} {wi : TI} {g : TG} {tk tv : TE} {use : Option (Value → Sem Unit)} {Qf : Value → Shared → Prop}
    (calm : X.calm = true) (hu : X.A.units < cLine) (nodup : X.N.Nodup) (I : Inv X pins σ H s) (pi : PI X tg iter wi) (ok : BlkOk X.N X.env.scope scope own)
    (pg : ∀ s H C cl fp, PG (Bk X scope s H C cl fp) tg g) (pk : ∀ s H C cl fp, PE (Bk X scope s H C cl fp) kx tk) (pv : ∀ s H C cl fp, PE (Bk X scope s H C cl fp) vx tv)
    (unf : ∀ x, foldedSetIterable iter X.env x = pure x) (rd : tDn X.prog X.w wi g tk tv (own.map (·.2)) σ H Q)
    (out : ∀ D C s' m H', Inv X pins σ H' s' → Q (.ref D) H' → s'.heap.Ns C m → FpOk X pins H' C → compPost (model X.prog X.w) X.A X.xe use Qf (.ref D) C (.ok .next) s') :
    wpAny (model X.prog X.w) X.A (comprehension (.DictComp kx vx [⟨tg, iter, [], 0⟩] scope pos) scope X.env pos' newDict false (eval iter X.env) use) Qf X.xe s := by
  have cells : ∀ y ∈ scope.names, y.2 = .free → ∃ c, X.env.cells.lookup y.1 = some c := fun y hy e =>
    (ok.free y hy e).elim (fun q => I.ok.has _ (.inl q)) fun q => I.ok.has _ (.inr q)
  refine wpAny_comprehension_free (use := use) rfl unf (closure_ok cells) ok.kind (fun y hy e => by rw [ok.uniq y hy, e]) ?_
  refine thn (pi.run pins s σ H _ I rd) fun itv0 s1 h1 => thn h1 fun itv s2 h2 => ?_
  obtain ⟨it, fp, tn, J, H2, rfl, I2, T, tn2, fp2, rd2⟩ := h2
  refine wpAny_newObj_type (newEnv_comp ?_)
  obtain ⟨D, eD⟩ : ∃ D, D = s2.heap.objs.size := ⟨_, rfl⟩
  have freeD : H2 D = none := I2.hok.fresh (by rw [eD]; exact Nat.le_refl _)
  obtain ⟨W, ⟨m0, w0⟩, turn⟩ := rd2 D freeD
  obtain ⟨s3, e3⟩ : ∃ s3 : Shared, s3 = { s2 with heap := s2.heap.push { cls := .type "dict", data := .dict #[] } } := ⟨_, rfl⟩
  have I3 : Inv X pins σ (upd H2 D (nObj X.prog X.w D [])) s3 := by
    have mk := nd_made (P := X.prog) (w := X.w) (H := upd H2 D (nObj X.prog X.w D [])) s2.heap I2.big
    rw [← eD] at mk
    rw [e3]
    exact I2.laid (t' := s2.toks) (fun b o q => Heap.get?_push_of_some _ q) (by rw [eD]; exact Nat.le_refl _) mk
  have below : ∀ b ∈ fp, b < s2.heap.objs.size := fun b hb => let ⟨o, q, _⟩ := T.obj _ _ tn2 b hb; Heap.lt_size q
  obtain ⟨H3, eH⟩ : ∃ H3, H3 = upd H2 D (nObj X.prog X.w D []) := ⟨_, rfl⟩
  rw [← eH] at I3 w0
  have fp3 : ∀ b ∈ fp, FpOk X pins H3 b ∧ b < s3.heap.objs.size := fun b hb => by
    have lt := below b hb
    have nb : b ≠ D := by rw [eD]; exact Nat.ne_of_lt lt
    refine ⟨⟨?_, (fp2 b hb).2⟩, ?_⟩
    · rw [eH, upd_ne nb]; exact (fp2 b hb).1
    · rw [e3]; show b < (s2.heap.push _).objs.size; rw [Heap.size_push]; exact Nat.lt_succ_of_lt lt
  have tn3 : tn 0 s3.heap := T.keep _ _ _ tn2 fun b _ o q => by rw [e3]; exact Heap.get?_push_of_some _ q
  have I4 := block_start I3 ok nodup fp3
  have pg4 := pg s3 H3 s3.heap.objs.size (cellsFrom (s3.heap.objs.size + 1) scope.names (cloFrom X.env.cells scope.names [])) fp
  have pk4 := pk s3 H3 s3.heap.objs.size (cellsFrom (s3.heap.objs.size + 1) scope.names (cloFrom X.env.cells scope.names [])) fp
  have pv4 := pv s3 H3 s3.heap.objs.size (cellsFrom (s3.heap.objs.size + 1) scope.names (cloFrom X.env.cells scope.names [])) fp
  obtain ⟨ce, ece⟩ : ∃ ce, ce = compEnvC scope (cellsFrom (s3.heap.objs.size + 1) scope.names (cloFrom X.env.cells scope.names [])) s3.heap.objs.size X.env := ⟨_, rfl⟩
  have cL : ce.locals = s3.heap.objs.size := by rw [ece]; rfl
  obtain ⟨s4, e4⟩ : ∃ s4 : Shared, s4 = { s3 with heap := pushCells (s3.heap.push { cls := .type "dict", data := .dict #[] }) scope.names } := ⟨_, rfl⟩
  have goal4 : codeAny (model X.prog X.w) X.A (.compStart (.DictComp kx vx [⟨tg, iter, [], 0⟩] scope pos) 0 (.ref it) (.ref D) ce) (compPost (model X.prog X.w) X.A X.xe use Qf (.ref D) s3.heap.objs.size) s4 := by
    unfold Bk at pg4 pk4 pv4
    rw [← ece] at I4 pg4 pk4 pv4
    rw [← e4] at I4
    have tn4 : tn 0 s4.heap := T.keep _ _ _ tn3 fun b _ o q => by rw [e4]; exact pushCells_keeps _ _ _ _ (Heap.get?_push_of_some _ q)
    have still : ∀ {σ' : L2.St} {H' : Hp} {s' : Shared}, Inv (X.blk s3 H3 scope ce fp) [] σ' H' s' → (∀ b ∈ fp, H' b = none) → ∀ b ∈ fp, FpOk (X.blk s3 H3 scope ce fp) [] H' b := fun {σ' H' s'} I' hn b hb =>
      ⟨hn b hb, (I'.ok.exf b hb).1, I'.ok.exfs b hb, .inl hb, fun x c q => (I'.ok.exf b hb).2 x c q, fun p hp => absurd (show p ∈ ([] : List (Addr × Obj)) ++ [] from hp) (by simp)⟩
    have loop : codeAny (model X.prog X.w) X.A (.compLoop (.DictComp kx vx [⟨tg, iter, [], 0⟩] scope pos) 0 (.ref it) (.ref D) ce) (compPost (model X.prog X.w) X.A X.xe use Qf (.ref D) s3.heap.objs.size) s4 := by
      refine compLoop_anyD (fun n s' => ∃ i H', Inv (X.blk s3 H3 scope ce fp) [] (wipe σ (own.map (·.2))) H' s' ∧ tn i s'.heap ∧ (∀ b ∈ fp, H' b = none) ∧ W i n H') ?_ m0 ⟨0, H3, I4, tn4, fun b hb => (fp3 b hb).1.1, w0⟩
      rintro n s5 ⟨i, H5, I5, tn5, n5, w5⟩
      rcases turn i n H5 w5 with ⟨stop, q5⟩ | ⟨go, Nx, dec, step⟩
      · refine thnF (T.done (X.blk s3 H3 scope ce fp) rfl rfl rfl calm i [] s5 _ H5 (fun _ _ => False) I5 (still I5 n5) tn5 stop) fun r s6 ⟨hr, I6⟩ => ?_
        cases hr
        have I7 : Inv X pins σ H5 s6 := I3.call' (ch := fp) I6.os I6.base I6.hok I6.bare fun b hb => ⟨(fp3 b hb).1.2.2.2.1, (fp3 b hb).1.2.1, (fp3 b hb).1.2.2.2.2.1, (fp3 b hb).1.2.2.2.2.2⟩
        have nC : H5 s3.heap.objs.size = none := by rw [← cL]; exact I6.free
        obtain ⟨m, hm, _⟩ := I6.loc
        have hm' : s6.heap.Ns s3.heap.objs.size m := by rw [← cL]; exact hm
        exact out D s3.heap.objs.size s6 m H5 I7 q5 hm' (I3.fpOk (Nat.le_refl _) nC)
      · refine thnF (T.item (X.blk s3 H3 scope ce fp) rfl rfl rfl calm i [] s5 _ H5 (fun _ _ => False) I5 (still I5 n5) tn5 go) fun r s6 ⟨u, hr, h6⟩ => ?_
        cases hr
        refine thnF h6 fun _ s7 ⟨x, H7, I7, r7, y7, tn7, n7⟩ => ?_
        have I7p := I7.pinned (still I7 n7) (T.obj _ _ tn7)
        refine thnF (pg4.run _ s7 _ H7 x u _ I7p r7 (step x H7 y7)) fun _ s8 ⟨σ8, H8, I8, w8, q8⟩ => ?_
        refine wpAny_tests_nil ?_
        simp only [if_true]
        refine thnF (pk4.run _ s8 σ8 H8 _ I8 q8) fun z1 s9 ⟨yk, H9, I9, r9, q9⟩ => ?_
        refine thnF (pv4.run _ s9 σ8 H9 _ I9 q9) fun z2 s10 ⟨yv, H10, I10, r10, es, ks, b, c, ek, ev, hb, nd, hz, nx⟩ => ?_
        subst ek ev
        cases (show z1 = Value.ref b from r9)
        cases (show z2 = Value.bool c from r10)
        refine nd_store (X := X.blk s3 H3 scope ce fp) hu I10 nd hb hz fun s11 I11 => ?_
        obtain ⟨m', hm, w'⟩ := dec _ nx
        have pinned : ∀ b ∈ fp, ∀ o, s7.heap.get? b = some o → s11.heap.get? b = some o ∧ (upd H10 D (nObj X.prog X.w D (storedH es ks _ (.bool c)))) b = none := fun b hb o q =>
          let z := I11.pin (b, o) (List.mem_append_right _ (List.mem_append_right _ (mem_pinsAt hb q)))
          ⟨z.1, z.2.1⟩
        have len : (wipe σ (own.map (·.2))).length = σ8.length := by rw [← w8, wipe_length]
        refine ⟨m', hm, i + 1, _, (I11.unpinned (pins := [])).weak len (fun j v q => ?_), T.keep _ _ _ tn7 fun b hb o q => (pinned b hb o q).1, fun b hb => ?_, w'⟩
        · rw [← w8] at q
          exact (wipe_some q).1
        · obtain ⟨o, q, _⟩ := T.obj _ _ tn7 b hb
          exact (pinned b hb o q).2
    exact codeAny_compStart_dict loop (T.self X.A 0 _ _ _ tn4 loop)
  rw [e4, e3, ece, eD] at goal4
  rw [e3] at goal4
  exact goal4
/-- name = {t: b for x in xs} on one line, the name a local -/
theorem ps_setDn {i : Nat} {y : Str} {py : Pos} {kx vx tg iter : Expr} {scope : Scope} {own : List (Str × Nat)} {pos spos : Pos} {wi : TI} {g : TG} {tk tv : TE}
    (calm : X.calm = true) (hu : X.A.units < cLine) (nodup : X.N.Nodup) (hy : X.N[i]? = some y) (hl : X.env.scope.names.lookup y = some .local)
    (sw : swapsWith (.DictComp kx vx [⟨tg, iter, [], 0⟩] scope pos) (some (.Name y py)) spos.line X.env = pure true) (pi : PI X tg iter wi) (ok : BlkOk X.N X.env.scope scope own)
    (pg : ∀ s H C cl fp, PG (Bk X scope s H C cl fp) tg g) (pk : ∀ s H C cl fp, PE (Bk X scope s H C cl fp) kx tk) (pv : ∀ s H C cl fp, PE (Bk X scope s H C cl fp) vx tv)
    (unf : ∀ x, foldedSetIterable iter X.env x = pure x := by intro _; rfl) :
    PS X (.Assign [.Name y py] (.DictComp kx vx [⟨tg, iter, [], 0⟩] scope pos) spos) (tAsg (tDn X.prog X.w wi g tk tv (own.map (·.2))) (gName i)) := by
  constructor
  intro pins s σ H D I h
  rw [exec_Assign_Name_used _ _ _ _ sw]
  refine wpAny_bind (wpAny_standAt (wpAny_bind ?_))
  show wpAny _ X.A (do let _ ← comprehension (.DictComp kx vx [⟨tg, iter, [], 0⟩] scope pos) scope X.env (firstIterPos [⟨tg, iter, [], 0⟩] pos) newDict false (eval iter X.env) (some (assign (.Name y py) X.env))) _ _ s
  have rd : tDn X.prog X.w wi g tk tv (own.map (·.2)) σ H (fun x H1 => D.nx (σ.set i (some x)) H1) := h
  refine wpAny_bind (thn (nd_core (Qf := fun _ s' => SP X pins D .next s') calm hu nodup I pi ok pg pk pv unf rd fun L C s' m H' I' q hn f => ?_) fun _ s' hq => wpAny_pure (wpAny_pure hq))
  show wpAny _ _ (assign (.Name y py) X.env (.ref L)) _ _ _
  refine wpAny_assign_Name (store_ok2 (v := V.ref L) I' nodup hy (.inl hl) rfl (fun s2 I2 ⟨a, sb, ha⟩ => ?_) (.inr hl))
  obtain ⟨f0, f1, f2, f3, f4, f5⟩ := f
  have ne : C ≠ a := ha.elim (fun z => by rw [z]; exact f1) fun z e => f4 y a z e.symm
  exact ⟨m, hn.sameBut sb ne, fun h3 sb3 => ⟨_, H', I2.turned (t' := s2.toks) (fun b o hb e => (sb3.2 b hb).trans e) f0 f1 f3 f4 f5, q⟩⟩
/-- len of it -/
def rLenN (P : Program) (w : World) : List V → Hp → VK → Prop := fun xs H Q => ∃ (p : Addr) (es : List NEnt), xs = [.ref p] ∧ NDict P w H p es ∧ Q (.int ((es.length : Nat) : Int)) H
theorem call_lenN : CallR X (.builtin "len") (rLenN X.prog X.w) := by
  intro pins s σ H xs us Q I r h
  obtain ⟨p, es, rfl, nd, q⟩ := h
  obtain ⟨u, rfl, rx⟩ := vals1 r
  cases (show u = Value.ref p from rx)
  obtain ⟨hd, hz, dd⟩ := nd.of I.hok
  exact PySem.call_len_dictH hd dd (by rw [sizeLine_eq] at hz; omega) ⟨.int ((es.length : Nat) : Int), H, I.tok _, ⟨_, rfl⟩, q⟩
end
end Qb
set_option Elab.async false
set_option linter.all false
set_option maxRecDepth 100000
set_option maxHeartbeats 4000000
/-! # are_told_apart -/
namespace Qb
open PySem L2
open PySem.Spec hiding Row
open PyProof.Rows hiding St
open Qm
variable {P : Program} {w : World} {K : PySem.W.Frag} {mg : Str → Option Value} {base : Heap}
/-! ### the dict on its way -/
theorem NDict.keep {H H' : Hp} {D : Addr} {es : List NEnt} (n : NDict P w H D es) (s : Same H H') : NDict P w H' D es := ⟨s _ _ n.at_, fun x hx => s _ _ (n.tups x hx), n.nd⟩
theorem NDict.start {H : Hp} {D : Addr} : NDict P w (upd H D (nObj P w D [])) D [] := ⟨upd_same, fun x hx => (by cases hx), List.nodup_nil⟩
def nks (es : List NEnt) : List NKey := es.map fun x : NEnt => x.1
theorem atKey_some {es : List NEnt} {k : NKey} : (atKey es k).isSome = true ↔ k ∈ nks es := by
  unfold atKey nks
  rw [Option.isSome_map, List.find?_isSome]
  exact ⟨fun ⟨x, hx, e⟩ => List.mem_map.mpr ⟨x, hx, of_decide_eq_true e⟩, fun h => let ⟨x, hx, e⟩ := List.mem_map.mp h; ⟨x, hx, decide_eq_true e⟩⟩
theorem nks_stored (es : List NEnt) (k : NKey) (a : Addr) (v : Value) : nks (storedH es k a v) = pushNew (nks es) k := by
  unfold storedH
  by_cases h : k ∈ nks es
  · rw [if_pos (atKey_some.mpr h), pushNew_old h]
    unfold nks
    rw [List.map_map]
    refine List.map_congr_left fun x _ => ?_
    show (putAt k v x).1 = x.1
    unfold putAt
    split <;> rfl
  · rw [if_neg (fun z => h (atKey_some.mp z)), pushNew_new h]
    unfold nks
    rw [List.map_append]
    rfl
theorem NDict.put {H : Hp} {D b : Addr} {es : List NEnt} {ks : NKey} {v : Value} (n : NDict P w H D es) (hb : H b = some (.tup (ks.map okV))) : NDict P w (upd H D (nObj P w D (storedH es ks b v))) D (storedH es ks b v) := by
  have ne : ∀ {c : Addr} {xs : List V}, H c = some (.tup xs) → c ≠ D := fun {c xs} hc => ne_of hc n.at_ fun z => by
    have z' : HO.tup _ = HO.ext _ := z
    cases z'
  refine ⟨upd_same, fun x hx => ?_, ?_⟩
  · have old : ∀ y ∈ es, upd H D (nObj P w D (storedH es ks b v)) y.2.1 = some (.tup (y.1.map okV)) := fun y hy => by
      rw [upd_ne (ne (n.tups y hy))]; exact n.tups y hy
    unfold storedH at hx
    split at hx
    · obtain ⟨y, hy, rfl⟩ := List.mem_map.mp hx
      unfold putAt
      split
      · exact old y hy
      · exact old y hy
    · rcases List.mem_append.mp hx with hx | hx
      · exact old x hx
      · rw [List.mem_singleton.mp hx]
        show upd H D _ b = _
        rw [upd_ne (ne hb)]
        exact hb
  · show (nks (storedH es ks b v)).Nodup
    rw [nks_stored]
    exact pushNew_nodup n.nd
/-- over a list that stays, by its name -/
theorem dn_ls {K : PySem.W.Frag} {i : Nat} {g : TG} {tk tv : TE} {vs : List Nat} {σ : L2.St} {H : Hp} {Q : VK} {a : Addr} {xs : List V} (hv : σ[i]? = some (some (.ref a))) (h : H a = some (.lst xs)) (Pv : Addr → Nat → Hp → Prop)
    (h0 : ∀ D, H D = none → Pv D 0 (upd H D (nObj P w D []))) (hk : ∀ D n H', n ≤ xs.length → Pv D n H' → H' a = some (.lst xs))
    (hs : ∀ D, H D = none → ∀ n x H', xs[n]? = some x → Pv D n H' → g x (wipe σ vs) H' fun σ2 H2 => wipe σ2 vs = wipe σ vs ∧
      tk σ2 H2 fun y H4 => tv σ2 H4 fun z H5 => ∃ (es : List NEnt) (ks : NKey) (b : Addr) (c : Bool), y = .ref b ∧ z = .bl c ∧ H5 b = some (.tup (ks.map okV)) ∧ NDict P w H5 D es ∧ es.length < sizeLine ∧ Pv D (n + 1) (upd H5 D (nObj P w D (storedH es ks b (.bool c)))))
    (hd : ∀ D H', H D = none → Pv D xs.length H' → Q (.ref D) H') : tDn P w (iList K (tVar i)) g tk tv vs σ H Q := by
  refine ⟨_, hv, a, rfl, ⟨xs, SqL.of h⟩, fun D hD => ⟨fun n m H' => m = xs.length - n ∧ n ≤ xs.length ∧ Pv D n H', ⟨xs.length, rfl, Nat.zero_le _, h0 D hD⟩, ?_⟩⟩
  rintro n m H' ⟨rfl, hn, p⟩
  have q : SqL K H' a xs := SqL.of (hk D n H' hn p)
  by_cases hlt : n < xs.length
  · refine .inr ⟨⟨xs, xs[n], q, by simp [hlt]⟩, Pv D (n + 1), fun H2 z => ⟨_, (by omega : xs.length - (n + 1) < xs.length - n), rfl, hlt, z⟩, fun x H2 y => ?_⟩
    obtain ⟨e, y⟩ := y
    subst e
    exact hs D hD n x H2 (y xs q) p
  · have e : n = xs.length := by omega
    subst e
    exact .inl ⟨⟨xs, q, Nat.le_refl _⟩, hd D H' hD p⟩
/-! ### are_told_apart -/
theorem scApart : FnScope ["rows", "rates", "known_rests", "known", "rate"] ["rows", "rates"] (defScope sApart) := ⟨rfl, rfl, rfl, by decide +kernel, rfl, by decide +kernel, by decide +kernel⟩
def dcScope (s : Stmt) : Scope := match defBody s with
  | .Assign _ (.DictComp _ _ _ sc _) _ :: _ => sc
  | _ => defScope s
def rTupOf (K : PySem.W.Frag) : List V → Hp → VK → Prop := fun xs H Q => ∃ p ys, xs = [.ref p] ∧ ((SqL K H p ys ∧ ∀ l, H l = none → Q (.ref l) (upd H l (.tup ys))) ∨ (SqT K H p ys ∧ Q (.ref p) H))
def tKey (K : PySem.W.Frag) : TE := tCB (rTupOf K) (tCons (tLc (iList K (tVar 1)) (gName 4) tYes (tCall spRest [] E0 (tCons (tVar 3) (tCons (tTup (tCons (tVar 4) (tCons (tC (.int 1)) tNil))) tNil))) [4]) tNil)
def emO : Option Int → Option Key := Option.map Sum.inl
theorem okV_emO (o : Option Int) : okV (emO o) = oV o := by cases o <;> rfl
theorem emO_inj (a b : Option Int) (h : emO a = emO b) : a = b := by
  cases a with
  | none => cases b with
    | none => rfl
    | some => cases h
  | some x => cases b with
    | none => cases h
    | some y => rw [Sum.inl.inj (Option.some.inj h)]
def emN (l : List (Option Int)) : NKey := l.map emO
theorem emN_inj : ∀ (a b : List (Option Int)), emN a = emN b → a = b
  | [], [], _ => rfl
  | [], _ :: _, h => by cases h
  | _ :: _, [], h => by cases h
  | x :: a, y :: b, h => by rw [emO_inj x y (List.cons.inj h).1, emN_inj a b (List.cons.inj h).2]
theorem emN_okV (l : List (Option Int)) : (emN l).map okV = l.map oV := by
  unfold emN
  rw [List.map_map]
  exact List.map_congr_left fun o _ => okV_emO o
theorem opts_eq {H : Hp} {xs : List V} {ns : List (Option Int)} (h : Paired (OptR H) xs ns) : xs = ns.map oV := by
  induction h with
  | nil => rfl
  | cons a _ ih => rw [List.map_cons, ih]; rw [show _ = _ from a]
def RowsR : DR (List KVs) := LstR LanesR
theorem mRowsR : Mono RowsR := mLstR mLanesR
def spApart : Sp := fun vs H Q _ => ∃ (x y : V) (rows : List KVs) (rates : List Int), vs = [x, y] ∧ RowsR H x rows ∧ IntsR H y rates ∧ rows.length ≤ 100 ∧ (∀ L ∈ rows, L.length ≤ 1000) ∧ rates.length ≤ 100 ∧ ∀ H', Same H H' → Q (.bl (apart rows rates)) H'
theorem okApart (T : Txt K mg) : FnOk P w K mg base CX0 3 T.f_apart T.d_apart ["rows", "rates"] spApart := by
  refine T.D_apart.F.ok scApart (fun vs H Q E h => ?_) (fun cdv A outer s H vs Q E hr h => ?_)
  · obtain ⟨x, y, rows, rates, rfl, _⟩ := h
    rfl
  · obtain ⟨x, y, rows, rates, rfl, ⟨a, xs, rfl, ha, hp⟩, ⟨b, zs, rfl, hb, hq⟩, hl, hL, hlr, q⟩ := h
    have hu := hu_of hr
    refine ⟨_, pss_cons (ps_setDn (i := 2) (own := [("known", 3)]) (g := gName 3) (tk := tKey K) (tv := tC (.bl true)) rfl (by show (A.deeper _).units < cLine; omega) scApart.nd rfl rfl (sw_dict rfl rfl rfl (by decide +kernel)) (pi_list (pv 0)) (blkOk_by (N := ["rows", "rates", "known_rests", "known", "rate"]) (sc := defScope sApart) (by decide +kernel))
        (fun _ _ _ _ _ => pg_name (i := 3) scApart.nd rfl (Or.inr rfl))
        (fun _ _ _ _ _ => pe_callTy call_tuple_of (by rfl) T.z_tuple (by decide +kernel) (pa_cons (pe_lc (own := [("rate", 4)]) (g := gName 4) (tt := tYes) rfl scApart.nd (pi_list (pv 1)) (blkOk_by (N := ["rows", "rates", "known_rests", "known", "rate"]) (sc := relS (dcScope sApart) (defScope sApart)) (by decide +kernel))
          (fun _ _ _ _ _ => pg_name (i := 4) scApart.nd rfl (Or.inl rfl)) (fun _ _ _ _ _ => pts_nil)
          (fun _ _ _ _ _ => pe_df (okRestIn T) T.D_restIn hr rfl (pa_cons (pv 3) (pa_cons (pe_tup (pa_cons (pv 4) (pa_cons pe_int pa_nil))) pa_nil)))) pa_nil))
        (fun _ _ _ _ _ => pe_bl))
      (pss_one (ps_ret (pe_cmp (pc_eqI (pe_callB call_lenN (by rfl) T.z_len PySem.boot_len (pa_cons (pv 2) pa_nil)) (pe_callB call_len_seq (by rfl) T.z_len PySem.boot_len (pa_cons (pv 0) pa_nil))) rfl))), ?_⟩
    refine sq1 (dn_ls (K := K) rfl ha (fun D n H' => Same H (hid [D] H') ∧ ∃ es, NDict P w H' D es ∧ nks es = dd [] ((rows.take n).map fun L => emN (rates.map (restIn L)))) (fun D hD => ⟨?_, [], NDict.start, rfl⟩) (fun D n H' _ p => hid_sub _ _ _ _ (p.1 _ _ ha)) ?_ ?_)
    · rw [hid_at (List.mem_singleton_self _)]
      exact same_hid (Same.refl _) (fun c hc => by rw [List.mem_singleton.mp hc]; exact hD)
    · rintro D hD n x H' hx ⟨s0, es, nd, ek⟩
      obtain ⟨L, hLn, rL⟩ := pd_get hp hx
      have hmem := List.mem_of_getElem? hLn
      have sH : Same H H' := s0.trans (hid_sub _ _)
      refine ⟨rfl, cb1 (lc_fml (R := IntR) (R' := OptR) (fun r => some (restIn L r)) mIntR mOptR rfl (sH _ _ hb) (hq.mono fun _ _ z => z) (small100 hlr) (fun D2 H2 z r hr2 hD2 _ s2 hR Kt Kf k1 k2 => ?_) (fun D2 H2 hD2 s2 hL2 => ?_))⟩
      · cases (show z = V.int r from hR)
        have sH2 : Same H H2 := sH.trans (s2.trans (hid_sub _ _))
        refine ⟨rfl, iteY (B := Kf H2) rfl ?_⟩
        refine ⟨_, rfl, _, rfl, by show 2 ≤ sizeLine; decide, fun t ht => ?_⟩
        exact ⟨x, .ref t, L, r, rfl, mLanesR _ _ _ _ (sH2.trans (same_new ht)) rL, ⟨t, rfl, upd_same⟩, hL L hmem, fun H3 s3 => k1 _ rfl _ _ ((same_new ht).trans s3) rfl⟩
      · obtain ⟨_, ws, e, hw, hpw⟩ := hL2
        cases e
        refine ⟨D2, _, rfl, .inl ⟨SqL.of hw, fun t ht => ?_⟩⟩
        have e1 : ws = (emN (rates.map (restIn L))).map okV := by
          rw [emN_okV, opts_eq hpw, show (fun r => some (restIn L r)) = some ∘ restIn L from rfl, List.filterMap_eq_map]
        have hz : es.length < sizeLine := by
          have h1 := dd_le ((rows.take n).map fun L => emN (rates.map (restIn L)))
          rw [← ek, List.length_map, List.length_take] at h1
          unfold nks at h1
          rw [List.length_map] at h1
          exact small1000 (by omega)
        have s3 : Same H' (upd H2 t (.tup ws)) := s2.trans (same_new ht)
        have hbt : upd H2 t (.tup ws) t = some (.tup ((emN (rates.map (restIn L))).map okV)) := by rw [upd_same, e1]
        refine ⟨es, emN (rates.map (restIn L)), t, true, rfl, rfl, hbt, nd.keep s3, hz, ?_, _, (nd.keep s3).put hbt, ?_⟩
        · rw [hid_at (List.mem_singleton_self _)]
          exact s0.trans (hid_mono s3)
        · rw [nks_stored, ek, List.take_add_one, hLn, List.map_append]
          exact (dd_push [] _ _).symm
    · rintro D H' hD ⟨s0, es, nd, ek⟩
      have sH : Same H H' := s0.trans (hid_sub _ _)
      refine ⟨_, rfl, D, es, rfl, nd, _, rfl, a, xs, rfl, .inl (SqL.of (sH _ _ ha)), _, _, rfl, rfl, ?_⟩
      have lx := hp.length
      rw [lx, List.take_length] at ek
      have z := q H' sH
      have e1 : apart rows rates = decide (((es.length : Nat) : Int) = ((xs.length : Nat) : Int)) := by
        unfold apart restsBy
        refine decide_eq_decide.mpr ?_
        have h1 : es.length = (nks es).length := by unfold nks; rw [List.length_map]
        have h2 := dd_len (rows.map fun L => emN (rates.map (restIn L)))
        have h3 : (rows.map fun L => emN (rates.map (restIn L))) = (rows.map fun L => rates.map (restIn L)).map emN := by rw [List.map_map]; rfl
        rw [h3, nodup_inj emN_inj, List.length_map, List.length_map, ← h3, ← ek, ← h1] at h2
        rw [← h2, lx]
        omega
      rw [e1] at z
      exact z
end Qb
set_option Elab.async false
set_option linter.all false
set_option maxRecDepth 100000
set_option maxHeartbeats 4000000
/-! # sorted(d.items()) of a dict of ints; _law_lanes -/
namespace Qb
open PySem L2
open PySem.Spec hiding Row
open PyProof.Rows hiding St
open Qm
section
variable {X : Cx}
/-- one unit deeper -/
def in1X (X : Cx) : Cx := { X with A := X.A.in1 }
theorem inv_in1 {pins : List (Addr × Obj)} {σ : L2.St} {H : Hp} {s : Shared} (I : Inv X pins σ H s) : Inv (in1X X) pins σ H s :=
  ⟨⟨I.ok.mod, I.ok.kind, I.ok.glob, I.ok.blt, I.ok.above, I.ok.inj, I.ok.has, I.ok.cab, I.ok.hd, I.ok.frames, I.ok.stk, I.ok.exf, I.ok.bs, I.ok.bsz, I.ok.noex, I.ok.exfs, I.ok.funs, I.ok.frf⟩, I.os, I.bare, I.base, I.loc, I.cell, I.free, I.freeC, I.pin, I.hok, I.len⟩
theorem inv_out1 {pins : List (Addr × Obj)} {σ : L2.St} {H : Hp} {s : Shared} (O : X.Ok) (I : Inv (in1X X) pins σ H s) : Inv X pins σ H s :=
  ⟨O, I.os, I.bare, I.base, I.loc, I.cell, I.free, I.freeC, I.pin, I.hok, I.len⟩
/-- d.items() -/
def rItemsK : V → List V → Hp → VK → Prop := fun x xs H Q => ∃ (a : Addr) (kvs : List (Key × V)), x = .ref a ∧ xs = [] ∧ H a = some (.dK kvs) ∧ ∀ p, H p = none → Q (.ref p) (upd H p (L2.DX.itemsO p a))
theorem mt_itemsK : MtR X "dict.items" rItemsK := by
  intro pins s σ H x xs v us Q I rx rxs h
  obtain ⟨a, kvs, rfl, rfl, ha, q⟩ := h
  cases rx
  cases rxs
  obtain ⟨z, hd, vs, rel, o, es, ep, ho, hx, hdat, _⟩ := I.hok a _ ha
  refine DT.callItems (es := es) (ep := ep) hd ⟨o, ho, hx, hdat⟩ ?_
  exact ⟨.ref s.heap.objs.size, upd H s.heap.objs.size (L2.DX.itemsO s.heap.objs.size a), I.laid (t' := s.toks) (fun b u e => Heap.get?_push_of_some _ e) (Nat.le_refl _) (L2.DX.itemsO_ok (Heap.get?_push_size _ rfl)), rfl, q _ (I.hok.fresh (Nat.le_refl _))⟩
/-- sorted(d.items()) -/
def rSortedII : List V → Hp → VK → Prop := fun vs H Q => ∃ (p a : Addr) (l : KVs), vs = [.ref p] ∧ H p = some (L2.DX.itemsO p a) ∧ H a = some (.dK (l.map emb)) ∧ l.length ≤ 1000 ∧
  ∀ H' q L, Same H H' → H q = none → L.Perm l → L.Pairwise (fun p q => p.1 ≤ q.1) → LanesR H' (.ref q) L → Q (.ref q) H'
def pairAt (H : Hp) (v : V) : Int × Int := match v with
  | .ref t => match H t with
    | some (.tup [.int i, .int j]) => (i, j)
    | _ => (0, 0)
  | _ => (0, 0)
theorem pairAt_eq {H : Hp} {t : Addr} {i j : Int} (h : H t = some (.tup [.int i, .int j])) : pairAt H (.ref t) = (i, j) := by
  unfold pairAt
  dsimp only
  rw [h]
theorem cr_sortedII (hc : X.calm = true) : CallR X (.builtin "sorted") rSortedII := by
  intro pins s σ H xs us Q I r h
  obtain ⟨p, a, l, rfl, hp, ha, hl, q⟩ := h
  obtain rfl := Vals.ref1 r
  have view : s.heap.IsItemsView p a := (show ObjOk X.prog X.w H s.heap p (L2.DX.itemsO p a) from I.hok p _ hp).1
  obtain ⟨z, hd, vs, rel, dof⟩ := I.hok a _ ha
  obtain ⟨es, ep, ⟨o, ho, hx, hdat⟩, hsz, hes⟩ := dof.raw
  have lv : (l.map emb).length = vs.length := Paired.length rel
  rw [List.length_map] at lv
  have hh : X.A.handled = none := I.ok.hd hc
  refine DT.sortedI (es := es) (ep := ep) hh view ⟨o, ho, hx, hdat⟩ (by rw [sizeLine_eq]; omega) fun h' tk as hk hlt hla hG => ?_
  have nd : as.Nodup := List.Pairwise.imp (fun h => Nat.ne_of_lt h) hG.rise
  -- the pairs that were made
  have pr : ∀ (j : Nat) (b : Addr), as[j]? = some b → ∃ (e : Int × Int) (t1 t2 : Tok), l[j]? = some e ∧ h'.get? b = some { cls := .type "tuple", data := .seq #[Value.int e.1 t1, Value.int e.2 t2] } := by
    intro j b hj
    obtain ⟨en, he, hg⟩ := hG.pairs j b hj
    have hjl : j < es.size := (Array.getElem?_eq_some_iff.mp he).1
    have hjv : j < vs.length := by omega
    have hv : vs[j]? = some vs[j] := List.getElem?_eq_getElem hjv
    generalize vs[j] = kv at hv
    obtain ⟨k, u⟩ := kv
    obtain ⟨h1, h2⟩ := hes j hjl k u hv
    have een : es[j] = en := (Array.getElem?_eq_some_iff.mp he).2
    rw [een] at h1 h2
    obtain ⟨x, hx2, e1, e2⟩ := pd_get' rel hv
    rw [List.getElem?_map] at hx2
    cases hlj : l[j]? with
    | none => rw [hlj] at hx2; cases hx2
    | some e =>
      rw [hlj] at hx2
      cases hx2
      have e1' : Sum.inl e.1 = k := e1
      rw [← e1'] at h1
      obtain ⟨t1, ek⟩ := Value.isInt_shape (k := e.1) (v := en.key) h1
      obtain ⟨t2, eu⟩ := (show RelV (.int e.2) u from e2)
      refine ⟨e, t1, t2, rfl, ?_⟩
      rw [hg, ek, h2, eu]
  -- the heap of the sort
  have kb : ∀ b o, s.heap.get? b = some o → (h'.push { cls := .type "list", data := .seq (as.map Value.ref).toArray }).get? b = some o := fun b o e => Heap.get?_push_of_some _ (hk b o e)
  have hob : (h'.push { cls := .type "list", data := .seq (as.map Value.ref).toArray }).get? h'.objs.size = some { cls := .type "list", data := .seq (as.map Value.ref).toArray } := Heap.get?_push_size _ rfl
  have ka : ∀ b o, h'.get? b = some o → (h'.push { cls := .type "list", data := .seq (as.map Value.ref).toArray }).get? b = some o := fun b o e => Heap.get?_push_of_some _ e
  generalize h'.push { cls := .type "list", data := .seq (as.map Value.ref).toArray } = h2 at kb hob ka ⊢
  have ne0 : ∀ b o, h'.get? b = some o → b ≠ h'.objs.size := fun b o e => Nat.ne_of_lt (Heap.lt_size e)
  have hn0 : H h'.objs.size = none := I.hok.fresh (Nat.le_of_lt hlt)
  have I1 : Inv X pins σ H { s with heap := h2, toks := tk } := I.kept (t' := tk) kb
  have hlen : (as.map V.ref).length ≤ sizeLine := by rw [List.length_map, sizeLine_eq]; omega
  have I2 : Inv X pins σ (upd H h'.objs.size (.lst (as.map V.ref))) { s with heap := h2, toks := tk } :=
    I1.take (h' := h2) (t' := tk) (fun b ob _ e => e) (I.fpOk (Nat.le_of_lt hlt) hn0) ⟨hlen, as.map Value.ref, 0, LiI.vals_refs as, hob⟩
  obtain ⟨H2, I3, g, qt⟩ := L2.DX.takeT (P := fun b vs => ∃ (j : Nat) (e : Int × Int), as[j]? = some b ∧ l[j]? = some e ∧ vs = [.int e.1, .int e.2]) I as _ I2 nd fun b hb => by
    obtain ⟨j, hj⟩ := List.mem_iff_getElem?.mp hb
    obtain ⟨e, t1, t2, he, hg⟩ := pr j b hj
    have hbl : s.heap.objs.size ≤ b := Nat.le_of_lt (hG.above b hb)
    refine ⟨hbl, ?_, [.int e.1, .int e.2], ⟨j, e, hj, he, rfl⟩, fun H3 => ⟨by rw [sizeLine_eq]; show 2 ≤ 16777216; omega, [Value.int e.1 t1, Value.int e.2 t2], .cons ⟨_, rfl⟩ (.cons ⟨_, rfl⟩ .nil), ⟨_, ka _ _ hg, rfl, 0, rfl⟩⟩⟩
    rw [upd_ne (ne0 _ _ hg)]
    exact I.hok.fresh hbl
  have gr : Same H H2 := fun b o e => g b o (by rw [upd_ne (ne_of_none e hn0)]; exact e)
  have hL2 : H2 h'.objs.size = some (.lst (as.map V.ref)) := g _ _ upd_same
  have at2 : ∀ (j : Nat) (b : Addr), as[j]? = some b → ∃ e, l[j]? = some e ∧ H2 b = some (.tup [.int e.1, .int e.2]) := fun j b hj => by
    obtain ⟨vs', ⟨i, e, hi, he, ev⟩, hH⟩ := qt b (List.mem_of_getElem? hj)
    have eij : j = i := (List.getElem?_inj (List.getElem?_eq_some_iff.mp hj).1 nd).mp (hj.trans hi.symm)
    subst eij
    exact ⟨e, he, by rw [hH, ev]⟩
  have at3 : ∀ v ∈ as.map V.ref, ∃ t, v = V.ref t ∧ H2 t = some (.tup [.int (pairAt H2 v).1, .int (pairAt H2 v).2]) := fun v hv => by
    obtain ⟨b, hb, rfl⟩ := List.mem_map.mp hv
    obtain ⟨j, hj⟩ := List.mem_iff_getElem?.mp hb
    obtain ⟨e, _, he⟩ := at2 j b hj
    exact ⟨b, rfl, by rw [pairAt_eq he]; exact he⟩
  have mapL : (as.map V.ref).map (pairAt H2) = l := by
    refine List.ext_getElem? fun j => ?_
    rw [List.getElem?_map, List.getElem?_map]
    cases hj : as[j]? with
    | none =>
      have h1 := List.getElem?_eq_none_iff.mp hj
      exact (List.getElem?_eq_none_iff.mpr (by omega)).symm
    | some b =>
      obtain ⟨e, he, hb⟩ := at2 j b hj
      rw [he]
      show some (pairAt H2 (.ref b)) = some e
      rw [pairAt_eq hb]
  have S := mt_sortPO (X := in1X X) pins { s with heap := h2, toks := tk } σ H2 (.ref h'.objs.size) [] (.ref h'.objs.size) [] (fun _ H' => Q (.ref h'.objs.size) H') (inv_in1 I3) rfl .nil
    ⟨h'.objs.size, as.map V.ref, pairAt H2, rfl, rfl, hL2, at3, fun zs srt stb => ?_⟩
  · refine wpAny_mono S (fun u s' hq => ?_) (fun _ _ e => e)
    obtain ⟨v, H', J, _, q'⟩ := hq
    exact ⟨.ref h'.objs.size, H', inv_out1 I.ok J, rfl, q'⟩
  · have pm : zs.Perm (as.map V.ref) := stb.perm
    have hfr : H2 h'.objs.size ≠ none := by rw [hL2]; intro z; cases z
    have st : Same H (upd H2 h'.objs.size (.lst zs)) := fun b o e => by
      rw [upd_ne (ne_of_none e hn0)]
      exact gr b o e
    have memz : ∀ v ∈ zs, ∃ t, v = V.ref t ∧ H2 t = some (.tup [.int (pairAt H2 v).1, .int (pairAt H2 v).2]) := fun v hv => at3 v (pm.mem_iff.mp hv)
    refine q _ h'.objs.size (zs.map (pairAt H2)) st hn0 ?_ ?_ ⟨h'.objs.size, zs, rfl, upd_same, ?_⟩
    · have h1 := pm.map (pairAt H2)
      rw [mapL] at h1
      exact h1
    · refine List.pairwise_map.mpr (srt.imp fun {x y} h => ?_)
      have h1 := SrtO.lexB_no.mp (show SrtO.lexB (pairAt H2 y) (pairAt H2 x) = false from h)
      omega
    · refine pd_of (by rw [List.length_map]) fun i x y hx hy => ?_
      rw [List.getElem?_map, hx] at hy
      cases hy
      obtain ⟨t, rfl, ht⟩ := memz x (List.mem_of_getElem? hx)
      refine ⟨t, rfl, ?_⟩
      rw [upd_ne (fun e => by rw [e, hL2] at ht; cases ht)]
      exact ht
end
variable {P : Program} {w : World} {K : PySem.W.Frag} {mg : Str → Option Value} {base : Heap}
/-! ### _law_lanes -/
/-- [one of the two for road in row] -/
theorem lc_ixs {K : PySem.W.Frag} {i k : Nat} {te : TE} {σ : L2.St} {H : Hp} {Q : VK} {a : Addr} {xs : List V} {row : Row} (f : Int × Int → Int) (hv : σ[i]? = some (some (.ref a))) (h : Sq H a xs) (hp : Paired (PairR H) xs row) (hl : row.length ≤ 100)
    (hw : ∀ u : V, wipe ((wipe σ [k]).set k (some u)) [k] = wipe σ [k])
    (he : ∀ (x : V) (q : Int × Int) (H' : Hp) (Q' : VK), PairR H' x q → Q' (.int (f q)) H' → te ((wipe σ [k]).set k (some x)) H' Q')
    (fin : ∀ D H', H D = none → Same H H' → H' D = some (.lst ((row.map f).map V.int)) → Q (.ref D) H') :
    tLc (iSq K i) (gName k) tYes te [k] σ H Q := by
  refine lc_fm (R := PairR) (R' := IntR) (fun q => some (f q)) mPairR mIntR hv h hp (small100 hl) (fun D H' x y hy hD _ s0 hR Kt Kf k1 k2 => ?_) (fun D H' hD s0 hL => ?_)
  · refine ⟨hw _, ?_⟩
    exact iteY (B := Kf H') rfl (he x y H' Kt (mPairR _ _ _ _ (hid_sub _ _) hR) (k1 _ rfl _ _ (Same.refl _) rfl))
  · obtain ⟨_, zs, e, hz, hpz⟩ := hL
    cases e
    refine fin D H' hD s0 ?_
    rw [hz, ints_eq hpz, show (fun q => some (f q)) = some ∘ f from rfl, List.filterMap_eq_map]
theorem rIx_pair {K : PySem.W.Frag} {H : Hp} {x : V} {q : Int × Int} {Q : VK} (h : PairR H x q) (j : Int) (v : V) (hj : atI [V.int q.1, V.int q.2] j = some v) (k : Q v H) : rIx K x (.int j) H Q := by
  obtain ⟨a, rfl, h⟩ := h
  exact h.elim (fun h => .inl ⟨_, _, _, _, rfl, rfl, SqL.of h, hj, k⟩) (fun h => .inr (.inl ⟨_, _, _, _, rfl, rfl, SqT.of h, hj, k⟩))
theorem scLLanes : FnScope ["_law_bundle", "_law_found", "_law_row", "_law_length", "_law_road"] ["_law_bundle"] (defScope sLLanes) := ⟨rfl, rfl, rfl, by decide +kernel, rfl, by decide +kernel, by decide +kernel⟩
theorem okLLanes (T : Txt K mg) : FnOk P w K mg base CX0 1 T.f_llanes T.d_llanes ["_law_bundle"] spJoined := by
  refine T.D_llanes.F.ok scLLanes (fun vs H Q E h => ?_) (fun cdv A outer s H vs Q E hr h => ?_)
  · obtain ⟨x, q, rfl, _⟩ := h
    rfl
  · obtain ⟨x, b, rfl, ⟨a, xs, rfl, ha, hp⟩, ⟨hne, hl, hrow⟩, q⟩ := h
    have hu := hu_of hr
    refine ⟨_, pss_cons (ps_set (i := 1) scLLanes.nd rfl (Or.inl rfl) pe_dnewK)
      (pss_cons (ps_for PassesOwn.never rfl (pi_sq (pv 0)) (pg_name (i := 2) scLLanes.nd rfl (.inl rfl))
        (pss_cons (ps_set (i := 3) scLLanes.nd rfl (Or.inl rfl) (pe_callB (cr_sum rfl) (by rfl) T.z_sum (by decide +kernel) (pa_cons (pe_lc (own := [("_law_road", 4)]) (g := gName 4) (tt := tYes) rfl scLLanes.nd (pi_sq (pv 2)) (blkOk_by (N := ["_law_bundle", "_law_found", "_law_row", "_law_length", "_law_road"]) (sc := defScope sLLanes) (by decide +kernel))
            (fun _ _ _ _ _ => pg_name (i := 4) scLLanes.nd rfl (Or.inl rfl)) (fun _ _ _ _ _ => pts_nil) (fun _ _ _ _ _ => pe_ix (show IxR _ (rIx K) from ix_seq) (pv 4) pe_int (fun _ _ => rfl))) pa_nil)))
        (pss_one (ps_dput hu (pv 1) (pv 3) (pe_op op_add (pe_dget2 hu (pv 1) (pv 3) pe_int ⟨rfl, rfl, rfl, rfl⟩)
          (pe_callB (cr_min rfl) (by rfl) T.z_min (by decide +kernel) (pa_cons (pe_lc (own := [("_law_road", 4)]) (g := gName 4) (tt := tYes) rfl scLLanes.nd (pi_sq (pv 2)) (blkOk_by (N := ["_law_bundle", "_law_found", "_law_row", "_law_length", "_law_road"]) (sc := defScope sLLanes) (by decide +kernel))
            (fun _ _ _ _ _ => pg_name (i := 4) scLLanes.nd rfl (Or.inl rfl)) (fun _ _ _ _ _ => pts_nil) (fun _ _ _ _ _ => pe_ix (show IxR _ (rIx K) from ix_seq) (pv 4) pe_int (fun _ _ => rfl))) pa_nil))) rfl))))
      (pss_one (ps_ret (pe_callB (cr_sortedII rfl) (by rfl) T.z_sorted (by decide +kernel) (pa_cons (pe_bm0 PySem.F.plainAttrs_dict PySem.F.slot_dict_items PySem.F.type_dict_items mt_itemsK (pv 1)) pa_nil))))), ?_⟩
    refine fun d hd => ?_
    have lx := hp.length
    refine for_sq (K := K) (a := a) (xs := xs) rfl (ha.go (same_new hd)) (fun n σ H' => ∃ r2 r3, σ = [some (.ref a), some (.ref d), r2, r3, none] ∧ Same H (hid [d] H') ∧ H' d = some (.dK ((dictOf (b.take n)).map emb)))
      ⟨none, none, rfl, same_hid (same_new hd) (fun c hc => by rw [List.mem_singleton.mp hc]; exact hd), upd_same⟩ (fun n σ H' _ p => ?_) ?_ ?_
    · obtain ⟨_, _, _, s0, _⟩ := p
      rw [sq_keep ha (s0.trans (hid_sub _ _)), upd_ne (fun z => by rw [z] at ha; exact ha.elim (fun q => by rw [hd] at q; cases q) (fun q => by rw [hd] at q; cases q))]
    · rintro n x σ H' hx ⟨r2, r3, rfl, s0, hd'⟩
      obtain ⟨row, hrw, rx⟩ := pd_get hp hx
      have hmem := List.mem_of_getElem? hrw
      have sH : Same H H' := s0.trans (hid_sub _ _)
      obtain ⟨b1, ys, rfl, hb1, hp1⟩ := mRowR _ _ _ _ sH rx
      have hrl := (hrow row hmem).2
      have hrn := (hrow row hmem).1
      refine sq1 (cb1 (lc_ixs (·.1) rfl hb1 hp1 hrl (fun _ => rfl) (fun x q H' Q' hq k => ⟨_, rfl, rIx_pair hq 0 (.int q.1) rfl k⟩) fun D H1 hD s1 hz => ⟨D, _, rfl, SqL.of hz, ?_⟩))
      have hd1 := s1 _ _ hd'
      refine ⟨_, rfl, d, rfl, .inl ⟨_, .of hd1⟩, _, rfl, _, DGet.k (k := Sum.inl (rowLen row)) hd1, ?_⟩
      refine cb1 (lc_ixs (·.2) rfl (hb1.go s1) (hp1.mono fun _ _ r => mPairR _ _ _ _ s1 r) hrl (fun _ => rfl) (fun x q H' Q' hq k => ⟨_, rfl, rIx_pair hq 1 (.int q.2) rfl k⟩) fun D2 H2 hD2 s2 hz2 => ⟨D2, _, rfl, SqL.of hz2, ?_, fun m hm hle => ?_⟩)
      · cases row with
        | nil => exact absurd rfl hrn
        | cons => exact Nat.succ_pos _
      · have hd2 := s2 _ _ hd1
        have em : m = rowRoom row := (minL_eq ⟨hm, hle⟩).symm
        subst em
        rw [valV_emb]
        refine ⟨(get1 (dictOf (b.take n)) (rowLen row)).getD 0, rowRoom row, ?_, rfl, ?_⟩
        · cases get1 (dictOf (b.take n)) (rowLen row) <;> rfl
        · have hlen : ((dictOf (b.take n)).map emb).length < sizeLine := by
            rw [List.length_map]
            have h1 := dict_length (b.take n) []
            rw [List.length_take, List.length_nil] at h1
            refine small1000 ?_
            show (dictFrom [] (b.take n)).length ≤ 1000
            omega
          refine ⟨_, rfl, _, rfl, d, _, rfl, DPut.k (k := Sum.inl (rowLen row)) hd2 hlen, ?_⟩
          refine ⟨_, _, rfl, ?_, ?_⟩
          · rw [hid_at (List.mem_singleton_self _)]
            exact s0.trans (hid_mono (s1.trans s2))
          · rw [upd_same, List.take_add_one, hrw]
            show _ = some (HO.dK ((dictOf (b.take n ++ [row])).map emb))
            rw [dict_snoc, putK_emb]
            rfl
    · rintro σ H' ⟨r2, r3, rfl, s0, hd'⟩
      rw [lx, List.take_length] at hd'
      refine ⟨_, rfl, .inr (.inr (.inl ⟨rfl, .inl ⟨_, hd'⟩⟩)), d, _, rfl, rfl, hd', fun p hp2 => ?_⟩
      have sp : Same H' (upd H' p (L2.DX.itemsO p d)) := same_new hp2
      refine ⟨p, d, dictOf b, rfl, upd_same, sp _ _ hd', ?_, fun H2 q2 L s2 hq2 pm srt hL => ?_⟩
      · have h1 := dict_length b []
        rw [List.length_nil] at h1
        show (dictFrom [] b).length ≤ 1000
        omega
      · have s3 : Same H (upd H' p (L2.DX.itemsO p d)) := (s0.trans (hid_sub _ _)).trans sp
        rw [lanes_uniq pm srt] at hL
        exact q H2 q2 (s3.trans s2) (s3.free hq2) hL
end Qb
set_option Elab.async false
set_option linter.all false
set_option maxRecDepth 100000
set_option maxHeartbeats 4000000
/-! # BadBundles, fewest_rates -/
namespace Qb
open PySem L2
open PySem.Spec hiding Row
open PyProof.Rows hiding St
open Qm
variable {P : Program} {w : World} {K : PySem.W.Frag} {mg : Str → Option Value} {base : Heap}
abbrev sBadB : Stmt := topS 8
abbrev sInit : Stmt := inClass sBadB 0
/-- what the top has left of the class BadBundles -/
structure Err (K : PySem.W.Frag) (mg : Str → Option Value) where
  (C : Addr)
  (fI : Addr)
  (dI : FuncData)
  oex : OexC K C
  xf : XfC K C
  iC : PySem.W.findIn K (.ref C) "__init__" = some (some (.ref fI))
  tI : PySem.W.typeIn K (.ref fI) = some (.type "function")
  gC : mg "BadBundles" = some (.ref C)
  F : Fun K "__init__" "BadBundles.__init__" sInit fI dI
  bI : Binds K dI ["self", "index"] []
  no : PySem.W.findIn K (.ref C) "index" = some none
  te : PySem.W.exmOne K (.ref C) (.ref C) = some true
theorem scInit : FnScope ["self", "index"] ["self", "index"] (defScope sInit) := ⟨rfl, rfl, rfl, by decide +kernel, rfl, by decide +kernel, by decide +kernel⟩
def spInit (K : PySem.W.Frag) : Sp := fun vs H Q _ => ∃ (a C : Addr) (y : V), vs = [.ref a, y] ∧ OexC K C ∧ PySem.W.findIn K (.ref C) "index" = some none ∧ H a = some (exo a C none) ∧
  ∀ dx, H dx = none → dx ≠ a → Q .non (upd (upd H dx (exd dx [("index", y)])) a (exo a C (some dx)))
theorem okInit (G : Err K mg) : FnOk P w K mg base CX0 1 G.fI G.dI ["self", "index"] (spInit K) := by
  refine G.F.ok scInit (fun vs H Q E h => ?_) (fun cdv A outer s H vs Q E hr h => ?_)
  · obtain ⟨a, C, y, rfl, _⟩ := h
    rfl
  · obtain ⟨a, C, y, rfl, T, no, ha, q⟩ := h
    exact ⟨_, pss_one (ps_ost (pv 0) (pv 1)), _, rfl, _, rfl, a, C, rfl, T, no, .inl ⟨ha, fun dx h1 h2 => q dx h1 h2⟩⟩
/-- what is told of the exception's dict -/
def Told (H H' : Hp) (d : Addr) (i : Int) : Prop := Same H H' ∧ H d = none ∧ H' d = some (.xd [("index", .int i)])
theorem mk_bad (G : Err K mg) {i : Int} {H1 : Hp} {W : XK} (q : ∀ H' d, Told H1 H' d i → W (.ref G.C) (some d) H') :
    ([V.int i] : List V).length ≤ 1000 ∧ ∀ a, H1 a = none → spInit K (.ref a :: ([V.int i] ++ [])) (upd H1 a (exo a G.C none))
      (fun v H2 => v = .non ∧ ∃ (d : Addr) (fs : List (Str × V)), H2 a = some (exo a G.C (some d)) ∧ H2 d = some (exd d fs) ∧ H1 d = none ∧ W (.ref G.C) (some d) (upd (del H2 a) d (.xd fs))) (fun _ _ _ => False) := by
  refine ⟨by show 1 ≤ 1000; decide, fun a ha => ⟨a, G.C, .int i, rfl, G.oex, G.no, upd_same, fun dx hdx ne => ?_⟩⟩
  have hdx1 : H1 dx = none := by rw [upd_ne ne] at hdx; exact hdx
  refine ⟨rfl, dx, _, upd_same, by rw [upd_ne ne, upd_same], hdx1, q _ dx ⟨fun b o e => ?_, hdx1, upd_same⟩⟩
  rw [upd_ne (ne_of_none e hdx1), del_ne (ne_of_none e ha), upd_ne (ne_of_none e ha), upd_ne (ne_of_none e hdx1), upd_ne (ne_of_none e ha)]
  exact e
/-! ### bundles, good and bad -/
def goodB (b : Bun) : Bool := !b.isEmpty && b.all okRow
/-- a thing that is no bundle, or a bundle -/
def BR : DR (Option Bun) := fun H x o => match o with
  | none => (∃ n, Kd H x n ∧ isLT n = false) ∨ ∃ items, SeqR ItemR H x items ∧ items.length ≤ 100 ∧ badAt items ≠ .non
  | some b => BunR H x b ∧ FineB b ∧ goodB b = true
theorem mBR : Mono BR := fun H H' v o s h => match o, h with
  | none, .inl ⟨n, k, e⟩ => .inl ⟨n, k.go s, e⟩
  | none, .inr ⟨its, r, l, n⟩ => .inr ⟨its, mSeqR mItemR _ _ _ _ s r, l, n⟩
  | some _, ⟨r, f, g⟩ => ⟨mBunR _ _ _ _ s r, f, g⟩
theorem bun_items {H : Hp} {x : V} {b : Bun} (h : BunR H x b) (hl : ∀ row ∈ b, row.length ≤ 100) : SeqR ItemR H x (b.map some) := by
  obtain ⟨a, xs, e, hq, hp⟩ := h
  refine ⟨a, xs, e, hq, pd_of (by rw [hp.length, List.length_map]) fun i x y hx hy => ?_⟩
  rw [List.getElem?_map] at hy
  obtain ⟨row, hr, rr⟩ := pd_get hp hx
  rw [hr] at hy
  cases hy
  exact ⟨rr, hl row (List.mem_of_getElem? hr)⟩
theorem badAt_good {b : Bun} (h : goodB b = true) : badAt (b.map some) = .non := by
  unfold goodB at h
  rw [Bool.and_eq_true] at h
  unfold badAt
  have e1 : (b.map some).isEmpty = false := by
    cases b with
    | nil => exact absurd h.1 (by decide)
    | cons => rfl
  rw [e1, findIdx_none _ _ fun o ho => by
    obtain ⟨row, hr, rfl⟩ := List.mem_map.mp ho
    show (!okRow row) = false
    rw [List.all_eq_true.mp h.2 row hr]
    rfl]
  rfl
/-! ### fewest_rates -/
def spFewest (C : Addr) : Sp := fun vs H Q E => ∃ x : V, vs = [x] ∧ ((∃ n, Kd H x n ∧ isLT n = false ∧ ∀ H' d, Told H H' d 0 → E (.ref C) (some d) H') ∨
  ∃ os : List (Option Bun), SeqR BR H x os ∧ os.length ≤ 100 ∧
    (∀ i : Nat, os[i]? = some none → (∀ j, j < i → ∃ b, os[j]? = some (some b)) → ∀ H' d, Told H H' d (i : Nat) → E (.ref C) (some d) H') ∧
    (∀ bs : List Bun, os = bs.map some → bs.length ≤ 5 ∧ (∀ b ∈ bs, topRoom (lanesOf b) ≤ 9) ∧ ∀ H' p, Same H H' → H p = none → H' p = some (.lst ((ratesOf bs).map V.int)) → Q (.ref p) H'))
abbrev nmFewest : List Str := ["bundles", "rows", "index", "bundle", "many", "size", "some", "known", "rates"]
theorem scFewest : FnScope nmFewest ["bundles"] (defScope sFewest) := ⟨rfl, rfl, rfl, by decide +kernel, rfl, by decide +kernel, by decide +kernel⟩
theorem goods_all {os : List (Option Bun)} (h : ∀ j, j < os.length → ∃ b, os[j]? = some (some b)) : os = (os.filterMap id).map some := by
  induction os with
  | nil => rfl
  | cons o os ih =>
    obtain ⟨b, hb⟩ := h 0 (Nat.succ_pos _)
    cases hb
    rw [List.filterMap_cons]
    show some b :: os = some b :: (os.filterMap id).map some
    rw [← ih fun j hj => ?_]
    obtain ⟨b', hb'⟩ := h (j + 1) (Nat.succ_lt_succ hj)
    exact ⟨b', by simpa using hb'⟩
theorem rows_snoc (ls : List KVs) (L : KVs) : rowsOf (ls ++ [L]) = if L ∈ rowsOf ls then rowsOf ls else rowsOf ls ++ [L] := by
  unfold Qm.rowsOf Qm.rowsFrom
  rw [List.foldl_append]
  rfl
theorem any_lanes (R : List KVs) (L : KVs) : ((R.map dLanes).any fun z => PyData.eqv z (dLanes L)) = decide (L ∈ R) := by
  rw [List.any_map]
  induction R with
  | nil => rfl
  | cons M R ih =>
    rw [List.any_cons, ih]
    show (PyData.eqv (dLanes M) (dLanes L) || decide (L ∈ R)) = _
    rw [eqv_lanes, ← Bool.decide_or]
    refine decide_eq_decide.mpr ?_
    rw [List.mem_cons]
    exact ⟨fun h => h.imp_left Eq.symm, fun h => h.imp_left Eq.symm⟩
theorem dp_rows {H : Hp} {v : V} {R : List KVs} (h : RowsR H v R) : Dp K H v (.list (R.map dLanes)) := by
  obtain ⟨a, xs, rfl, e, p⟩ := h
  exact .lst (SqL.of e) (dp_all (f := dLanes) (fun v x r => dp_lanes r) p)
theorem ok_rows (R : List KVs) : PdOk 3 (.list (R.map dLanes)) := PdOk.list fun L _ => ok_lanes L
/-- the lanes of a good bundle -/
theorem last_of {H : Hp} {xs : List V} {L : KVs} (hp : Paired (TpR H) xs L) (hne : L ≠ []) : ∃ t r, atI xs (-1) = some (.ref t) ∧ H t = some (.tup [.int (lastKey L), .int r]) := by
  rcases List.eq_nil_or_concat L with e | ⟨L0, q, e⟩
  · exact absurd e hne
  · rw [List.concat_eq_append] at e
    subst e
    have hl := hp.length
    rw [List.length_append] at hl
    have hlt : L0.length < xs.length := by rw [hl]; exact Nat.lt_succ_self _
    have hx : xs[L0.length]? = some xs[L0.length] := List.getElem?_eq_getElem hlt
    generalize xs[L0.length] = x at hx
    obtain ⟨q', hq', t, rfl, ht⟩ := pd_get hp hx
    have e2 : (L0 ++ [q])[L0.length]? = some q := by simp
    rw [e2] at hq'
    cases hq'
    refine ⟨t, q.2, ?_, ?_⟩
    · unfold atI ixN
      rw [if_neg (by decide), if_pos (by rw [hl]; simp; omega), show ((-1 : Int) + (xs.length : Nat)).toNat = L0.length by rw [hl]; simp; omega]
      exact hx
    · rw [ht]
      unfold lastKey
      rw [List.getLast?_append]
      rfl
theorem lanes_hid {H : Hp} {r p : Addr} {acc : List V} {L : KVs} (hr : H r = some (.lst acc)) (ne : p ≠ r) (h : LanesR H (.ref p) L) : LanesR (hid [r] H) (.ref p) L := by
  obtain ⟨b, xs, e, hb, hp⟩ := h
  cases e
  refine ⟨p, xs, rfl, by rw [hid_eq (fun z => ne (List.mem_singleton.mp z))]; exact hb, hp.mono fun v q ⟨t, e, ht⟩ => ⟨t, e, ?_⟩⟩
  rw [hid_eq (fun z => ?_)]
  · exact ht
  · rw [List.mem_singleton.mp z, hr] at ht
    cases ht
theorem range_none {β : Type} (f : Nat → Option β) : ∀ n, (∀ j, j < n → f j = none) → (List.range n).findSome? f = none
  | 0, _ => rfl
  | n + 1, h => by
    rw [List.range_succ, List.findSome?_append, range_none f n fun j hj => h j (Nat.lt_succ_of_lt hj)]
    show (none : Option β).or ([n].findSome? f) = none
    rw [List.findSome?_cons, h n (Nat.lt_succ_self n)]
    rfl
theorem range_at {β : Type} (f : Nat → Option β) {i : Nat} {y : β} (h : f i = some y) (hb : ∀ j, j < i → f j = none) : ∀ n, i < n → (List.range n).findSome? f = some y
  | 0, hi => absurd hi (Nat.not_lt_zero _)
  | n + 1, hi => by
    rw [List.range_succ, List.findSome?_append]
    by_cases e : i = n
    · subst e
      rw [range_none f i hb, List.findSome?_cons, h]
      rfl
    · rw [range_at f h hb n (by omega)]
      rfl
theorem find_head {α : Type} (p : α → Bool) (l : List α) : l.find? p = (l.filterMap fun y => if p y = true then some y else none).head? := by
  induction l with
  | nil => rfl
  | cons y l ih =>
    rw [List.find?_cons, List.filterMap_cons]
    cases h : p y with
    | true => rw [if_pos rfl]; rfl
    | false => rw [if_neg (by decide)]; exact ih
theorem op1 {r : R2} {ta tb : TE} {σ : L2.St} {H : Hp} {Q : VK} (h : ta σ H fun x H1 => tb σ H1 fun y H2 => r x y H2 Q) : tOp r ta tb σ H Q := h
/-- a comprehension over a list that comes -/
theorem lcl {K : PySem.W.Frag} {tl : TE} {g : TG} {tt : TT} {te : TE} {vs : List Nat} {σ : L2.St} {H : Hp} {Q : VK} (h : tl σ H fun x H1 => ∃ a, x = .ref a ∧ (∃ xs, SqL K H1 a xs) ∧ tLc (fun _ H1 R => R (Itl K a) H1) g tt te vs σ H1 Q) : tLc (iList K tl) g tt te vs σ H Q := h
theorem pow_small {m : Int} (h0 : 0 ≤ m) (h9 : m ≤ 9) {k : Nat} (hk : k ≤ 4) : m.toNat ^ k < sizeLine := by
  have h1 : m.toNat ^ k ≤ 9 ^ k := Nat.pow_le_pow_left (by omega) k
  have h2 : (9 : Nat) ^ k ≤ 9 ^ 4 := Nat.pow_le_pow_right (by decide) hk
  have h3 : (9 : Nat) ^ 4 < sizeLine := by decide
  omega
theorem okFewest (T : Txt K mg) (G : Err K mg) : FnOk P w K mg base (L2.CX P w) 6 T.f_fewest T.d_fewest ["bundles"] (spFewest G.C) := by
  refine T.D_fewest.F.okX scFewest (fun vs H Q E h => ?_) (fun cdv A outer s H vs Q E hr h => ?_)
  · obtain ⟨x, rfl, _⟩ := h
    rfl
  · obtain ⟨x, rfl, h⟩ := h
    have hu65 : (A.deeper (envOfC "fewest_rates" (defScope sFewest) s.heap.objs.size T.f_fewest cdv)).units + 65 < cLine := by have := hr.un; omega
    refine ⟨_, pss_cons (ps_if (pt_not (pt_val (pe_df (okIsList T) T.D_isList (hr.mono (by decide)) rfl (pa_cons (pv 0) pa_nil))))
        (pss_one (ps_raise rfl (takes_of rfl rfl rfl rfl) (pmk_oex G.oex G.iC G.tI (okInit G) (hr.mono (by decide)) G.bI .nil pass0 (by rfl) G.gC (pa_cons pe_int pa_nil)))) pss_nil)
      (pss_cons (ps_set (i := 1) scFewest.nd rfl (.inr rfl) (pe_lst pa_nil))
      (pss_cons (ps_for (passes_of rfl) rfl (pi_ensq (by rfl) T.z_enumerate (pv 0) (pa_cons (pv 0) pa_nil)) (pg_tup rfl (pgs_cons (pg_name (i := 2) scFewest.nd rfl (.inl rfl)) (pgs_cons (pg_name (i := 3) scFewest.nd rfl (.inl rfl)) pgs_nil)))
        (pss_cons (ps_if (pt_cmpR op_notN (pe_df (okBadRow T) T.D_badRow (hr.mono (by decide)) rfl (pa_cons (pv 3) pa_nil)) pe_non (nomark _))
          (pss_one (ps_raise rfl (takes_of rfl rfl rfl rfl) (pmk_oex G.oex G.iC G.tI (okInit G) (hr.mono (by decide)) G.bI .nil pass0 (by rfl) G.gC (pa_cons (pv 2) pa_nil)))) pss_nil)
        (pss_one (ps_if (pt_cmpR (op_notInD hu65) (pe_df (okJoined T) T.D_joined (hr.mono (by decide)) rfl (pa_cons (pv 3) pa_nil)) (pv 1) rfl)
          (pss_one (ps_expr (pe_bm PySem.F.plainAttrs_list PySem.F.slot_list_append PySem.F.type_list_append mt_append (pv 1) (pa_cons (pe_df (okJoined T) T.D_joined (hr.mono (by decide)) rfl (pa_cons (pv 3) pa_nil)) pa_nil)))) pss_nil))))
      (pss_cons (ps_set (i := 4) scFewest.nd rfl (.inl rfl) (pe_callB (cr_max rfl) (by rfl) T.z_max (by decide +kernel) (pa_cons (pe_op op_cat (pe_lc (own := [("known", 7)]) (g := gName 7) (tt := tYes) rfl scFewest.nd (pi_list (pv 1)) (blkOk_by (N := nmFewest) (sc := defScope sFewest) (by decide +kernel))
          (fun _ _ _ _ _ => pg_name (i := 7) scFewest.nd rfl (Or.inl rfl)) (fun _ _ _ _ _ => pts_nil)
          (fun _ _ _ _ _ => pe_df (okRoomTo T) T.D_roomTo (hr.mono (by decide)) rfl (pa_cons (pv 7) (pa_cons (pe_ix (show IxR _ (rIxT K) from ix_tup) (pe_ix (show IxR _ (rIxL K) from ix_list) (pv 7) (pe_un un_neg pe_int) (fun _ _ => rfl)) pe_int (fun _ _ => rfl)) pa_nil)))) (pe_lst (pa_cons pe_int pa_nil))) pa_nil)))
      (pss_cons (ps_for (passes_of rfl) rfl (pi_range1 (by rfl) T.z_range (pa_cons (pe_callB call_len_seq (by rfl) T.z_len PySem.boot_len (pa_cons (pv 1) pa_nil)) pa_nil)) (pg_name (i := 5) scFewest.nd rfl (.inl rfl))
        (pss_cons (ps_setLc (i := 6) (own := [("rates", 8)]) (g := gName 8) rfl scFewest.nd rfl rfl (sw_true rfl rfl rfl (by decide +kernel)) (pi_list (pe_df (okChoices T) T.D_choices (hr.mono (by decide)) rfl (pa_cons (pv 4) (pa_cons (pv 5) pa_nil)))) (blkOk_by (N := nmFewest) (sc := defScope sFewest) (by decide +kernel))
          (fun _ _ _ _ _ => pg_name (i := 8) scFewest.nd rfl (Or.inl rfl)) (fun _ _ _ _ _ => pts_one (pt_val (pe_df (okApart T) T.D_apart (hr.mono (by decide)) rfl (pa_cons (pv 1) (pa_cons (pv 8) pa_nil))))) (fun _ _ _ _ _ => pv 8))
        (pss_one (ps_if (show PT _ _ (tTru K (tVar 6)) from pt_truth (pv 6) (by intro _; rfl)) (pss_one (ps_ret (pe_ix (show IxR _ (rIxL K) from ix_list) (pv 6) pe_int (fun _ _ => rfl)))) pss_nil))))
      (pss_one (ps_ret (pe_lst pa_nil))))))), ?_⟩
    rcases h with ⟨n, kd, hn, q⟩ | ⟨os, ⟨a, xs, rfl, ha, hp⟩, hl, qE, qG⟩
    · refine ⟨_, rfl, x, n, rfl, kd, fun H1 s1 => ⟨_, rfl, ?_⟩⟩
      rw [hn]
      exact iteT (mk_bad G fun H' d t => q H' d ⟨s1.trans t.1, s1.free t.2.1, t.2.2⟩)
    · obtain ⟨n, kd, hn⟩ := lt_of_sq ha
      refine ⟨_, rfl, _, n, rfl, kd, fun H1 s1 => ⟨_, rfl, ?_⟩⟩
      rw [hn]
      refine iteF ⟨Nat.zero_le _, fun r hr0 => ?_⟩
      have h1 : Sq H1 a xs := ha.go s1
      have p1 : Paired (BR H1) xs os := hp.mono fun _ _ z => mBR _ _ _ _ s1 z
      have lx := hp.length
      refine for_en rfl (h1.go (same_new hr0)) (fun n σ H' => ∃ i2 i3, σ = [some (.ref a), some (.ref r), i2, i3, none, none, none, none, none] ∧ (∀ j, j < n → ∃ b, os[j]? = some (some b)) ∧ MapI LanesR H1 r (rowsOf (((os.take n).filterMap id).map lanesOf)) H')
        ⟨none, none, rfl, fun j hj => absurd hj (Nat.not_lt_zero _), MapI.start hr0⟩ (fun n σ H' _ p => ?_) ?_ ?_
      · obtain ⟨_, _, _, _, acc, _, s0, _⟩ := p
        rw [sq_keep h1 (s0.trans (hid_sub _ _)), upd_ne (fun z => by rw [z] at h1; exact h1.elim (fun q => by rw [hr0] at q; cases q) (fun q => by rw [hr0] at q; cases q))]
      · rintro n x T' σ H' hx ⟨i2, i3, rfl, hg, mi⟩ hT
        obtain ⟨o, ho, rx0⟩ := pd_get p1 hx
        have s0 : Same H1 H' := by
          obtain ⟨acc, _, s0, _⟩ := mi
          exact s0.trans (hid_sub _ _)
        have sT : Same H' (upd H' T' (.tup [.int (n : Nat), x])) := same_new hT
        have rx := mBR _ _ _ _ (s0.trans sT) rx0
        refine ⟨T', _, rfl, SqT.of upd_same, rfl, _, _, rfl, _, _, rfl, rfl, ?_⟩
        cases o with
        | none =>
          have fin : ∀ H2, Same (upd H' T' (.tup [.int (n : Nat), x])) H2 → ∀ H3 d, Told H2 H3 d (n : Nat) → E (.ref G.C) (some d) H3 := fun H2 s2 H3 d t =>
            qE n ho hg H3 d ⟨(((s1.trans s0).trans sT).trans s2).trans t.1, (((s1.trans s0).trans sT).trans s2).free t.2.1, t.2.2⟩
          rcases rx with ⟨m, km, hm⟩ | ⟨items, hs, hil, hb⟩
          · refine ⟨_, rfl, x, rfl, .inl ⟨m, km, hm, fun H2 s2 => ⟨rfl, _, rfl, iteY rfl ⟨_, rfl, mk_bad G (fin H2 s2)⟩⟩⟩⟩
          · refine ⟨_, rfl, x, rfl, .inr ⟨items, hs, hil, fun H2 s2 => ⟨rfl, _, rfl, iteY (by rw [decide_eq_false hb]; rfl) ⟨_, rfl, mk_bad G (fin H2 s2)⟩⟩⟩⟩
        | some b =>
          obtain ⟨rb, fb, gb⟩ := rx
          refine ⟨_, rfl, x, rfl, .inr ⟨b.map some, bun_items rb (fun row hr => (fb.2.2 row hr).2), by rw [List.length_map]; have := fb.2.1; omega, fun H2 s2 => ⟨rfl, _, rfl, ?_⟩⟩⟩
          rw [badAt_good gb]
          refine iteN rfl ?_
          refine ⟨_, rfl, x, b, rfl, mBunR _ _ _ _ s2 rb, fb, fun H3 p3 s3 hp3 hL3 => ?_⟩
          have mi3 := mi.keep mLanesR ((sT.trans s2).trans s3)
          obtain ⟨acc, hacc, ss, hpa⟩ := id mi3
          have hR3 : RowsR H3 (.ref r) (rowsOf (((os.take n).filterMap id).map lanesOf)) := ⟨r, acc, rfl, hacc, hpa.mono fun _ _ z => mLanesR _ _ _ _ (hid_sub _ _) z⟩
          refine ⟨_, rfl, dLanes (lanesOf b), _, dp_lanes hL3, dp_rows hR3, (ok_lanes _).shaped (by decide), (ok_rows _).shaped (by decide), _, rfl, ?_⟩
          rw [any_lanes]
          have hg' : ∀ j, j < n + 1 → ∃ b, os[j]? = some (some b) := fun j hj => by
            by_cases e : j = n
            · exact ⟨b, by rw [e, ho]⟩
            · exact hg j (by omega)
          have e1 : ((os.take (n + 1)).filterMap id).map lanesOf = ((os.take n).filterMap id).map lanesOf ++ [lanesOf b] := by
            rw [List.take_add_one, ho, List.filterMap_append, List.map_append]
            rfl
          have hlen : (rowsOf (((os.take n).filterMap id).map lanesOf)).length < sizeLine := by
            have h2 := (rows_from (((os.take n).filterMap id).map lanesOf) [] List.nodup_nil).2.2
            have h3 := List.length_filterMap_le id (os.take n)
            rw [List.length_take] at h3
            rw [List.length_map, List.length_nil] at h2
            refine small1000 ?_
            show (rowsFrom [] _).length ≤ 1000
            omega
          by_cases c : lanesOf b ∈ rowsOf (((os.take n).filterMap id).map lanesOf)
          · refine iteN (by rw [decide_eq_true c]; rfl) ⟨_, _, rfl, hg', ?_⟩
            rw [e1, rows_snoc, if_pos c]
            exact mi3
          · refine iteY (by rw [decide_eq_false c]; rfl) ?_
            refine ⟨_, rfl, .inl ⟨rfl, _, SqL.of hacc⟩, ?_⟩
            refine ⟨_, rfl, x, b, rfl, mBunR _ _ _ _ (s2.trans s3) rb, fb, fun H4 p4 s4 hp4 hL4 => ?_⟩
            have ne : p4 ≠ r := fun z => by rw [z, hacc] at hp4; cases hp4
            obtain ⟨acc2, a1, a2, a3⟩ := mi3.add mLanesR s4 hlen (lanes_hid (s4 _ _ hacc) ne hL4)
            refine ⟨r, acc2, .ref p4, rfl, rfl, a1, a2, _, _, rfl, hg', ?_⟩
            rw [e1, rows_snoc, if_neg c]
            exact a3
      · rintro σ H' ⟨i2, i3, rfl, hg, mi⟩
        rw [lx, List.take_length] at mi
        rw [lx] at hg
        obtain ⟨hb5, h9, q⟩ := qG (os.filterMap id) (goods_all hg)
        have hfine : ∀ b ∈ os.filterMap id, FineB b := fun b hb => by
          obtain ⟨o, ho, e⟩ := List.mem_filterMap.mp hb
          have e' : o = some b := e
          subst e'
          obtain ⟨j, hj⟩ := List.mem_iff_getElem?.mp ho
          obtain ⟨x, hx, r2⟩ := pd_get' p1 hj
          exact r2.2.1
        generalize os.filterMap id = bs at hb5 h9 q hfine mi
        have hRq : ratesOf bs = answer (rowsOf (bs.map lanesOf)) (manyOf (rowsOf (bs.map lanesOf))) := rfl
        have hRl := (rows_from (bs.map lanesOf) [] List.nodup_nil).2.2
        have hRm := (rows_from (bs.map lanesOf) [] List.nodup_nil).2.1
        have hR5 : (rowsOf (bs.map lanesOf)).length ≤ 5 := by
          rw [List.length_nil, List.length_map] at hRl
          show (rowsFrom [] (bs.map lanesOf)).length ≤ 5
          omega
        have hRL : ∀ L ∈ rowsOf (bs.map lanesOf), L ≠ [] ∧ L.length ≤ 50 ∧ topRoom L ≤ 9 := fun L hL => by
          rcases (hRm L).mp hL with z | z
          · cases z
          · obtain ⟨b, hb, rfl⟩ := List.mem_map.mp z
            have fb := hfine b hb
            exact ⟨lanes_ne fb.1, Nat.le_trans (lanes_length b) fb.2.1, h9 b hb⟩
        rw [hRq] at q
        generalize rowsOf (bs.map lanesOf) = R at q hR5 hRL mi
        clear hRq hRl hRm
        obtain ⟨sH, _, rs, e, hrs, hpr⟩ := mi.out mLanesR hr0
        cases e
        -- many
        refine sq1 (cb1 (op1 (lc_fml (R := LanesR) (R' := IntR) (fun L => some (topRoom L)) mLanesR mIntR rfl hrs hpr (small100 (by omega)) (fun D H2 x L hL hD _ s2 hR Kt Kf k1 k2 => ?_) (fun D H2 hD s2 hL2 => ?_))))
        · obtain ⟨hne, h50, _⟩ := hRL L hL
          obtain ⟨c, ys, rfl, hc, hcp⟩ := mLanesR _ _ _ _ (hid_sub _ _) hR
          obtain ⟨t, r', t1, t2⟩ := last_of hcp hne
          refine ⟨rfl, iteY (B := Kf H2) rfl ?_⟩
          exact ⟨_, rfl, _, rfl, _, rfl, c, ys, _, .ref t, rfl, rfl, SqL.of hc, t1, t, _, _, _, rfl, rfl, SqT.of t2, rfl, .ref c, L, lastKey L, rfl, ⟨c, ys, rfl, hc, hcp⟩, by omega, fun H3 s3 => k1 _ rfl _ _ s3 rfl⟩
        · obtain ⟨_, zs, e, hz, hpz⟩ := hL2
          cases e
          rw [show (fun L => some (topRoom L)) = some ∘ topRoom from rfl, List.filterMap_eq_map] at hpz
          refine ⟨by show 1 ≤ sizeLine; decide, fun l hl2 => ?_⟩
          have lz := hpz.length
          rw [List.length_map] at lz
          refine ⟨D, l, zs, [.int 0], rfl, rfl, same_new hl2 _ _ hz, upd_same, by rw [lz]; exact small1000' (by show R.length + 1 ≤ 1000; omega), fun p hp2 => ?_⟩
          refine ⟨p, R.map topRoom ++ [0], rfl, SqL.of (by rw [upd_same, ints_eq hpz, List.map_append]; rfl), by rw [List.length_append]; exact Nat.succ_pos _, fun m hm hle => ?_⟩
          have em : m = manyOf R := by
            have h0 : (0 : Int) ≤ m := hle 0 (List.mem_append_right _ (List.mem_singleton_self _))
            refine maxL_eq ?_ h0 fun x hx => hle x (List.mem_append_left _ hx)
            rcases List.mem_append.mp hm with z | z
            · exact .inr z
            · exact .inl (List.mem_singleton.mp z)
          have hm0 : 0 ≤ m := hle 0 (List.mem_append_right _ (List.mem_singleton_self _))
          have hm9 : m ≤ 9 := by
            rcases List.mem_append.mp hm with z | z
            · obtain ⟨L, hL, rfl⟩ := List.mem_map.mp z
              exact (hRL L hL).2.2
            · rw [List.mem_singleton.mp z]; decide
          rw [← em] at q
          have s3 : Same H' (upd (upd H2 l (.lst [.int 0])) p (.lst (zs ++ [.int 0]))) := (s2.trans (same_new hl2)).trans (same_new hp2)
          generalize upd (upd H2 l (.lst [.int 0])) p (.lst (zs ++ [.int 0])) = H3 at s3
          have hrs3 := s3 _ _ hrs
          have hpr3 : Paired (LanesR H3) rs R := hpr.mono fun _ _ z => mLanesR _ _ _ _ s3 z
          have sH3 : Same H H3 := (s1.trans sH).trans s3
          have lr := hpr.length
          refine ⟨_, rfl, r, _, rfl, .inl (SqL.of hrs3), _, rfl, by omega, by omega, for_range (lo := 0) (n := ((rs.length : Nat) : Int).toNat) (fun i σ H4 => ∃ i5 i6, σ = [some (.ref a), some (.ref r), i2, i3, some (.int m), i5, i6, none, none] ∧ Same H3 H4 ∧ ∀ j, j < i → answerAt R m j = none)
            ⟨none, none, rfl, Same.refl _, fun j hj => absurd hj (Nat.not_lt_zero _)⟩ ?_ ?_⟩
          · rintro i σ H4 hi ⟨i5, i6, rfl, s4, hno⟩
            rw [Int.toNat_natCast, lr] at hi
            have hfc := choices_fine m i
            have hcl := choices_length m i
            have hcs := pow_small hm0 hm9 (show i ≤ 4 by omega)
            refine sq1 (lcl ⟨_, rfl, _, rfl, m, i, by show [V.int m, V.int (0 + (i : Nat))] = [V.int m, V.int (i : Nat)]; rw [Int.zero_add], hm0, by omega, by omega, fun k hk => pow_small hm0 hm9 (by omega), fun H5 p5 ws s5 hp5 hw5 hpw => ?_⟩)
            refine ⟨p5, rfl, ⟨_, SqL.of hw5⟩, lc_fmb (R := NewR H4) (R' := NewR H4) (fun y => if apart R y = true then some y else none) (mNewR H4) (mNewR H4) hw5 hpw (by omega) (fun D6 H6 x y hy hD _ s6 hR Kt Kf k1 k2 => ?_) (fun D6 H6 hD s6 hL6 => ?_)⟩
            · refine ⟨rfl, ?_⟩
              have hly := choices_len m i y hy
              have s36 : Same H3 H6 := (s4.trans s5).trans (s6.trans (hid_sub _ _))
              obtain ⟨b, rfl, hb0, hb1⟩ := hR
              have hb2 := hid_sub _ _ _ _ hb1
              refine ⟨_, rfl, _, rfl, .ref r, .ref b, R, y, rfl, ⟨r, rs, rfl, s36 _ _ hrs3, hpr3.mono fun _ _ z => mLanesR _ _ _ _ s36 z⟩, ⟨b, _, rfl, hb2, ints_of y⟩, by omega, fun L hL => by have := (hRL L hL).2.1; omega, by omega, fun H7 s7 => ⟨_, rfl, ?_⟩⟩
              cases c : apart R y with
              | true => exact iteY rfl ⟨_, rfl, k1 y (by rw [c]; rfl) _ _ s7 ⟨b, rfl, hb0, hid_mono s7 _ _ hb1⟩⟩
              | false => exact iteN rfl (k2 (by rw [c]; rfl) _ s7)
            · obtain ⟨_, us, e, hus, hpu⟩ := hL6
              cases e
              have e2 : answerAt R m i = ((choices m i).filterMap fun y => if apart R y = true then some y else none).head? := find_head _ _
              refine ⟨_, rfl, _, .inl ⟨_, SqL.of hus, rfl⟩, ?_⟩
              generalize (choices m i).filterMap (fun y => if apart R y = true then some y else none) = F at e2 hpu
              cases hpu with
              | nil =>
                refine iteN rfl ⟨_, _, rfl, (s4.trans s5).trans s6, fun j hj => ?_⟩
                by_cases ej : j = i
                · rw [ej]; exact e2
                · exact hno j (by omega)
              | cons hv _ =>
                obtain ⟨b, rfl, hb0, hb1⟩ := hv
                refine iteY rfl ⟨_, rfl, D6, _, _, .ref b, rfl, rfl, SqL.of hus, atI_nat (j := 0) rfl, ?_⟩
                refine q H6 b (sH3.trans ((s4.trans s5).trans s6)) ((sH3.trans s4).free hb0) ?_
                have e3 : answer R m = _ := congrArg (fun o => Option.getD o []) (range_at (answerAt R m) e2 hno R.length hi)
                rw [e3]
                exact hb1
          · rintro σ H4 ⟨i5, i6, rfl, s4, hno⟩
            rw [Int.toNat_natCast, lr] at hno
            refine ⟨Nat.zero_le _, fun l hl4 => ?_⟩
            have e3 : answer R m = [] := congrArg (fun o => Option.getD o []) (range_none (answerAt R m) R.length hno)
            refine q _ l ((sH3.trans s4).trans (same_new hl4)) ((sH3.trans s4).free hl4) ?_
            rw [e3, upd_same]
            rfl
end Qb
set_option Elab.async false
set_option linter.all false
set_option maxRecDepth 100000
set_option maxHeartbeats 4000000
/-! # Sets of few tuples whose parts are None, ints, texts -/
namespace Qb
open PySem L2
open PySem.Spec hiding Row
open PyProof.Rows hiding St
abbrev nh (P : Program) (w : World) (k : NKey) : Int := tupleKeyHash (noneKind P w) k
/-- no text among the parts -/
def NoTxt (k : NKey) : Prop := ∀ o ∈ k, ∀ x : Str, o ≠ some (Sum.inr x)
def IsN (P : Program) (w : World) (h : Heap) (k : NKey) (a : Addr) : Prop := IsTupleKey (noneKind P w) h k a ∧ NoTxt k
abbrev NPs := List (Addr × NKey)
def row1 (P : Program) (w : World) (p : Addr × NKey) : Int × Value := (nh P w p.2, .ref p.1)
/-- one of the values that such a tuple holds -/
def Flat1 (v : Value) : Prop := v = .none ∨ ∃ i t, v = .int i t
section
variable {P : Program} {w : World} {A : Around} {E : Value → Shared → Prop} {s : Shared}
theorem flat_items {k : NKey} {vs : List Value} (h : ItemsAre (noneKind P w) k vs) : NoTxt k → ∀ v ∈ vs, Flat1 v := by
  induction h with
  | nil => intro _ v hv; cases hv
  | @cons k0 u ks us h1 _ ih =>
    intro hn v hv
    rcases List.mem_cons.mp hv with rfl | hv
    · cases k0 with
      | none => exact .inl (nk_none h1)
      | some k0 =>
        rcases keyIs_shape (show keyIs k0 v = true from h1) with ⟨i, t, _, e⟩ | ⟨x, t, ek, e⟩
        · exact .inr ⟨i, t, e⟩
        · subst ek
          exact absurd rfl (hn _ List.mem_cons_self x)
    · exact ih (fun o ho => hn o (List.mem_cons_of_mem _ ho)) v hv
theorem flat_class (n : Nat) {v : Value} (h : Flat1 v) : ofAClassStatement n v = pure false := by
  rcases h with rfl | ⟨i, t, rfl⟩ <;> cases n <;> rfl
theorem flat_hash (n : Nat) {v : Value} (h : Flat1 v) : hashByValue n v = pure true := by
  rcases h with rfl | ⟨i, t, rfl⟩ <;> cases n <;> rfl
theorem tup_class {k : NKey} {b : Addr} {Q : Bool → Shared → Prop} (hk : IsN P w s.heap k b) (h : Q false s) : wpAny (model P w) A (ofAClassStatement 8 (.ref b)) Q E s := by
  have hT := hk.1.typeIs
  obtain ⟨⟨o, items, n, ho, _, hd, hi⟩, hnt⟩ := hk
  unfold ofAClassStatement
  refine wpAny_bind (wpAny_typeOf hT ?_)
  dsimp only
  simp only [show (("tuple" : String) == "tuple") = true by decide, if_true, Bool.not_true, Bool.false_eq_true, if_false]
  show wpAny _ _ (seqItems? (.ref b) >>= _) _ _ s
  refine wpAny_bind (wpAny_seqItems ho hd ?_)
  dsimp only
  refine wpAny_bind ?_
  show wpAny _ _ (forIn items _ _) _ _ s
  rw [← Array.forIn_toList]
  refine wpAny_forIn_list _ (fun rest r s' => r.1 = none ∧ s' = s ∧ ∀ v ∈ rest, Flat1 v) _ ?_ ?_ _ _ ⟨rfl, rfl, flat_items hi hnt⟩
  · rintro v rest r s' ⟨hr, rfl, hall⟩
    rw [flat_class 7 (hall v List.mem_cons_self)]
    refine wpAny_bind (wpAny_pure ?_)
    simp only [Bool.false_eq_true, if_false]
    exact wpAny_pure ⟨rfl, rfl, fun u hu' => hall u (List.mem_cons_of_mem _ hu')⟩
  · rintro ⟨r1, r2⟩ s' ⟨hr, rfl, _⟩
    cases (show r1 = none from hr)
    exact wpAny_pure h
theorem tup_hash {k : NKey} {b : Addr} {Q : Bool → Shared → Prop} (hk : IsN P w s.heap k b) (h : Q true s) : wpAny (model P w) A (hashByValue 8 (.ref b)) Q E s := by
  have hT := hk.1.typeIs
  obtain ⟨⟨o, items, n, ho, _, hd, hi⟩, hnt⟩ := hk
  unfold hashByValue
  refine wpAny_bind (wpAny_specialOf hT F.slot_tuple_hash.lookup ?_)
  show wpAny _ _ (seqItems? (.ref b) >>= _) _ _ s
  refine wpAny_bind (wpAny_seqItems ho hd ?_)
  refine wpAny_bind ?_
  show wpAny _ _ (forIn items _ _) _ _ s
  rw [← Array.forIn_toList]
  refine wpAny_forIn_list _ (fun rest r s' => r.1 = none ∧ s' = s ∧ ∀ v ∈ rest, Flat1 v) _ ?_ ?_ _ _ ⟨rfl, rfl, flat_items hi hnt⟩
  · rintro v rest r s' ⟨hr, rfl, hall⟩
    rw [flat_hash 7 (hall v List.mem_cons_self)]
    refine wpAny_bind (wpAny_pure ?_)
    simp only [Bool.not_true, Bool.false_eq_true, if_false]
    exact wpAny_pure ⟨rfl, rfl, fun u hu' => hall u (List.mem_cons_of_mem _ hu')⟩
  · rintro ⟨r1, r2⟩ s' ⟨hr, rfl, _⟩
    cases (show r1 = none from hr)
    exact wpAny_pure h
theorem tup_seen {k : NKey} {b : Addr} {Q : Bool → Shared → Prop} (hk : IsN P w s.heap k b) {ys : List Value} (hy : ∀ y ∈ ys, ∃ k' c, y = Value.ref c ∧ IsN P w s.heap k' c) (h : Q false s) :
    wpAny (model P w) A (searchCouldBeSeen (.ref b) ys) Q E s := by
  unfold searchCouldBeSeen
  refine wpAny_bind ?_
  refine wpAny_forIn_list _ (fun rest r s' => r.1 = none ∧ s' = s ∧ ∀ y ∈ rest, ∃ k' c, y = Value.ref c ∧ IsN P w s.heap k' c) _ ?_ ?_ _ _ ⟨rfl, rfl, hy⟩
  · rintro v rest r s' ⟨hr, rfl, hall⟩
    obtain ⟨k', c, rfl, hc⟩ := hall v List.mem_cons_self
    have more : ∀ y ∈ rest, ∃ k' c, y = Value.ref c ∧ IsN P w s'.heap k' c := fun u hu' => hall u (List.mem_cons_of_mem _ hu')
    dsimp only
    by_cases hv : (b == c || (carriedByValue (.ref b) && carriedByValue (.ref c))) = true
    · exact wp_if_pos hv (wpAny_pure ⟨rfl, rfl, more⟩)
    · refine wp_if_neg hv ?_
      refine wpAny_bind (wpAny_eqIsQuiet_tuple hk.1 ?_)
      simp only [Bool.not_true, Bool.false_eq_true, if_false]
      refine wpAny_bind (wpAny_eqIsQuiet_tuple hc.1 ?_)
      simp only [Bool.not_true, Bool.false_eq_true, if_false]
      refine wpAny_bind (tup_class hk ?_)
      simp only [Bool.false_eq_true, if_false]
      refine wpAny_bind (tup_class hc ?_)
      simp only [Bool.false_eq_true, if_false]
      exact wpAny_pure ⟨rfl, rfl, more⟩
  · rintro ⟨r1, r2⟩ s' ⟨hr, rfl, _⟩
    cases (show r1 = none from hr)
    exact wpAny_pure h
/-! ### the probes by number -/
abbrev prb (m : Nat) (h : Int) (c : Nat) : SetTable.Probe := nth m (runAt m (SetTable.bits h % (m + 1)) (SetTable.bits h)) c
theorem prb_add (m : Nat) (h : Int) (c q : Nat) : nth m (prb m h c) q = prb m h (c + q) := (nth_add m c _ q).symm
theorem prb_dummy (m : Nat) (h : Int) (c : Nat) : (prb m h c).dummy = none := by
  have key : ∀ (n : Nat) (p : SetTable.Probe), p.dummy = none → (nth m p n).dummy = none := by
    intro n
    induction n with
    | zero => exact fun p h => h
    | succ n ih =>
      refine fun p h => ih (adv m p) ?_
      unfold adv
      split <;> exact h
  exact key c _ rfl
/-! ### the set -/
structure NSet (P : Program) (w : World) (h : Heap) (a : Addr) (L : NPs) (es : Array (Int × Value)) (ep : Nat) (t : SetTable) : Prop where
  ob : ∃ o, h.get? a = some o ∧ o.ExactSet ∧ o.data = .set es ep t
  rows : es.toList = L.map (row1 P w)
  tab : TabOk t (L.map fun p => nh P w p.2)
  nd : (L.map (·.2)).Nodup
  tup : ∀ p ∈ L, IsN P w h p.2 p.1
  plain : t.plain = true
  led : w.params.followText "set-order" = true ∨ t.led = true
  room : L.length * 5 < t.mask * 3
  few : L.length ≤ 5
variable {a : Addr} {L : NPs} {es : Array (Int × Value)} {ep : Nat} {t : SetTable}
theorem NSet.size (R : NSet P w s.heap a L es ep t) : es.size = L.length := by
  have h := congrArg List.length R.rows
  rw [Array.length_toList, List.length_map] at h
  exact h
theorem fits_of {t : SetTable} {n : Nat} (hs : t.place.size = n) (hd : t.dummies = #[]) (hl : n ≤ t.mask) : t.fits n = true := by
  unfold SetTable.fits SetTable.fill
  rw [hd, Bool.and_eq_true, beq_iff_eq, decide_eq_true_eq]
  show t.place.size = n ∧ t.place.size + 0 ≤ t.mask
  omega
theorem NSet.fits (R : NSet P w s.heap a L es ep t) : t.fits es.size = true := by
  have h1 := R.tab.sz
  rw [List.length_map] at h1
  have h2 := R.size
  have h3 := R.room
  exact fits_of (by omega) R.tab.dm (by omega)
theorem NSet.entry (R : NSet P w s.heap a L es ep t) {i : Nat} {p : Addr × NKey} (h : L[i]? = some p) : es[i]? = some (nh P w p.2, Value.ref p.1) := by
  rw [← Array.getElem?_toList, R.rows, List.getElem?_map, h]
  rfl
/-- from the c-th probe on, none of the key's own place passed -/
theorem nset_from (R : NSet P w s.heap a L es ep t) {x : Addr} {k : NKey} (hx : IsN P w s.heap k x) (hu : A.units < cLine) {K : Nat} (hKf : K < 10 * SetTable.turns t.mask)
    (hK : (prb t.mask (nh P w k) K).j ∉ t.place.toList) (hKb : ∀ c, c < K → (prb t.mask (nh P w k) c).j ∈ t.place.toList) {Q : SetFound → Shared → Prop}
    (hin : k ∈ L.map (·.2) → Q (.there none) s) (hout : k ∉ L.map (·.2) → Q (.free (prb t.mask (nh P w k) K).j false) s) :
    ∀ (f c : Nat) (stand : Option SetTable.Probe), stand.getD (t.probeStart (nh P w k)) = prb t.mask (nh P w k) c → c ≤ K → K - c < f →
      (∀ (i : Nat) p, L[i]? = some p → p.2 = k → ∃ c', c ≤ c' ∧ c' < K ∧ t.place.toList[i]? = some (prb t.mask (nh P w k) c').j) →
      wpAny (model P w) A (setSearchFrom a (.ref x) (nh P w k) true f stand) Q E s := by
  obtain ⟨o, ho, hex, hd⟩ := R.ob
  have hash : ∀ (i : Nat) p, L[i]? = some p → (es[i]?.map (·.1)).getD 0 = nh P w p.2 := fun i p hp => by rw [R.entry hp]; rfl
  intro f
  induction f with
  | zero => exact fun c _ _ _ hf _ => absurd hf (Nat.not_lt_zero _)
  | succ f ih =>
    intro c stand hst hc hf hre
    have jq : ∀ q, (nth t.mask (prb t.mask (nh P w k) c) q).j = (prb t.mask (nh P w k) (c + q)).j := fun q => congrArg SetTable.Probe.j (prb_add _ _ _ _)
    -- an entry with the key's hash is not passed over
    have miss : ∀ N, (∀ k' i' : Nat, k' < N → t.place.toList[i']? = some (nth t.mask (prb t.mask (nh P w k) c) k').j → (es[i']?.map (·.1)).getD 0 ≠ nh P w k) → ∀ (i : Nat) p, L[i]? = some p → p.2 = k → ∃ c', c + N ≤ c' ∧ c' < K ∧ t.place.toList[i]? = some (prb t.mask (nh P w k) c').j := fun N hno i p hp hk => by
      obtain ⟨c', a1, a2, a3⟩ := hre i p hp hk
      refine ⟨c', ?_, a2, a3⟩
      rcases Nat.lt_or_ge c' (c + N) with z | z
      · refine absurd ((hash i p hp).trans (congrArg (nh P w) hk)) (hno (c' - c) i (by omega) ?_)
        rw [jq, show c + (c' - c) = c' by omega]
        exact a3
      · exact z
    rw [setSearchFrom_succ]
    refine wpAny_bind (wpAny_setState_of ho hd R.fits ?_)
    dsimp only
    refine wp_if_neg (by unfold SetTable.gaveWay; rw [mask_odd R.tab.mok]; decide) ?_
    have spec := go_spec t R.tab.ris R.tab.dm (fun i => (es[i]?.map (·.1)).getD 0) (nh P w k) (10 * SetTable.turns t.mask) (K - c) (prb t.mask (nh P w k) c) (prb_dummy _ _ _) (by omega)
      (fun q hq => by rw [jq]; exact hKb _ (by omega)) (by rw [jq, show c + (K - c) = K by omega]; exact hK)
    rcases spec with ⟨q, i, hq, hi, hh, hno, hpr⟩ | ⟨hno, hpr⟩
    · have hpr' : t.probe (fun i => (es[i]?.map (·.1)).getD 0) (nh P w k) (stand.getD (t.probeStart (nh P w k))) = some (.candidate (prb t.mask (nh P w k) (c + q)).j i (prb t.mask (nh P w k) (c + (q + 1)))) := by
        rw [hst, ← jq, ← prb_add]
        exact hpr
      rw [hpr']
      dsimp only
      rw [jq] at hi
      have hil : i < L.length := by
        have h1 := (List.getElem?_eq_some_iff.mp hi).1
        have h2 := R.tab.sz
        rw [List.length_map] at h2
        rw [Array.length_toList] at h1
        omega
      obtain ⟨p, hp⟩ : ∃ p, L[i]? = some p := ⟨_, List.getElem?_eq_getElem hil⟩
      have hmem := List.mem_of_getElem? hp
      have slot : t.slot (prb t.mask (nh P w k) (c + q)).j = .live i := slot_live R.tab.ris hi
      have go : wpAny (model P w) A (searchRest a (.ref x) (nh P w k) true f es t (prb t.mask (nh P w k) (c + q)).j i (prb t.mask (nh P w k) (c + (q + 1)))) Q E s := by
        unfold searchRest
        rw [R.entry hp]
        dsimp only
        refine wpAny_bind (wpAny_holding (wpAny_eqBool_tuple hu (R.tup p hmem).1 hx.1 ?_))
        refine wpAny_bind (wpAny_setState_of ho hd R.fits ?_)
        dsimp only
        by_cases hkk : p.2 = k
        · exact wp_if_pos (by simp [hkk]) (wpAny_pure (hin (List.mem_map.mpr ⟨p, hmem, hkk⟩)))
        · refine wp_if_neg (by simp [hkk]) ?_
          rw [sameMem]
          dsimp only
          simp only [if_true, slot, R.entry hp]
          refine wpAny_bind (wpAny_isSame_ref_self (wpAny_bind (wpAny_pure ?_)))
          simp only [if_true]
          refine wp_if_neg (by simp [hkk]) (ih (c + (q + 1)) _ rfl (by omega) (by omega) fun i0 p0 h0 hk0 => ?_)
          obtain ⟨c', a1, a2, a3⟩ := miss q hno i0 p0 h0 hk0
          refine ⟨c', ?_, a2, a3⟩
          rcases Nat.eq_or_lt_of_le a1 with z | z
          · rw [← z] at a3
            have s0 := slot_live R.tab.ris a3
            rw [slot] at s0
            injection s0 with s0
            rw [← s0, hp] at h0
            exact absurd ((congrArg Prod.snd (Option.some.inj h0)).trans hk0) hkk
          · omega
      by_cases hl : t.led = true
      · exact wp_if_neg (by simp [hl]) go
      · refine wp_if_pos (by simp [hl]) (wpAny_bind (tup_seen hx (fun y hy => ?_) (wp_if_neg (by decide) go)))
        obtain ⟨e, he, ee⟩ := List.mem_map.mp hy
        have he2 : e ∈ es.toList := by
          have he1 : e ∈ es ∧ e.1 = nh P w k := by simpa using he
          simpa using he1.1
        rw [R.rows] at he2
        obtain ⟨p2, hp2, e2⟩ := List.mem_map.mp he2
        exact ⟨p2.2, p2.1, by rw [← ee, ← e2]; rfl, R.tup p2 hp2⟩
    · have hpr' : t.probe (fun i => (es[i]?.map (·.1)).getD 0) (nh P w k) (stand.getD (t.probeStart (nh P w k))) = some (.empty (prb t.mask (nh P w k) K).j none) := by
        have e2 := jq (K - c)
        rw [show c + (K - c) = K by omega] at e2
        rw [hst, ← e2]
        exact hpr
      rw [hpr']
      dsimp only
      refine wpAny_pure (hout fun hm => ?_)
      obtain ⟨p0, h0, hk0⟩ := List.mem_map.mp hm
      obtain ⟨i0, hi0⟩ := List.mem_iff_getElem?.mp h0
      obtain ⟨c', a1, a2, _⟩ := miss (K - c) hno i0 p0 hi0 hk0
      omega
end
end Qb
set_option Elab.async false
set_option linter.all false
set_option maxRecDepth 100000
set_option maxHeartbeats 4000000
/-! # len(set(..)) of few tuples of None and ints -/
namespace Qb
open PySem L2
open PySem.Spec hiding Row
open PyProof.Rows hiding St
section
variable {P : Program} {w : World} {A : Around} {E : Value → Shared → Prop} {s : Shared} {a : Addr} {L : NPs} {es : Array (Int × Value)} {ep : Nat} {t : SetTable}
theorem range_get {α : Type} (L : List α) : ∀ n, (List.range n).filterMap (fun i => L[i]?) = L.take n
  | 0 => rfl
  | n + 1 => by
    rw [List.range_succ, List.filterMap_append, range_get L n, List.take_add_one]
    congr 1
theorem order_of {α : Type} (L : List α) (f : α → Int × Value) (es : Array (Int × Value)) (order : Array Nat) (hr : es.toList = L.map f) (hp : order.toList.Perm (List.range L.length)) :
    ∃ L2 : List α, (order.filterMap (es[·]?)).toList = L2.map f ∧ L2.Perm L ∧ (L2.map fun p => (f p).1) = order.toList.map fun i => (es.map (·.1)).getD i 0 := by
  have at_ : ∀ i : Nat, es[i]? = (L[i]?).map f := fun i => by rw [← Array.getElem?_toList, hr, List.getElem?_map]
  refine ⟨order.toList.filterMap fun i => L[i]?, ?_, ?_, ?_⟩
  · rw [Array.toList_filterMap, List.map_filterMap]
    congr 1
    funext i
    exact at_ i
  · have h1 := hp.filterMap (fun i => L[i]?)
    rw [range_get L L.length, List.take_length] at h1
    exact h1
  · have hl : ∀ i ∈ order.toList, i < L.length := fun i hi => List.mem_range.mp (hp.mem_iff.mp hi)
    generalize order.toList = l at hl
    induction l with
    | nil => rfl
    | cons i l ih =>
      have hi := hl i List.mem_cons_self
      have e0 : L[i]? = some L[i] := List.getElem?_eq_getElem hi
      have e1 : (es.map (·.1)).getD i 0 = (f L[i]).1 := by
        have e2 : (es.map (·.1))[i]? = some (f L[i]).1 := by rw [Array.getElem?_map, at_ i, e0]; rfl
        simp [Array.getD_eq_getD_getElem?, e2]
      rw [List.filterMap_cons_some e0, List.map_cons, List.map_cons, ih fun j hj => hl j (List.mem_cons_of_mem _ hj), e1]
theorem isN_keep {h h' : Heap} {k : NKey} {b : Addr} (x : IsN P w h k b) (hk : ∀ o, h.get? b = some o → h'.get? b = some o) : IsN P w h' k b := by
  obtain ⟨⟨o, items, n, ho, r⟩, q⟩ := x
  exact ⟨⟨o, items, n, hk o ho, r⟩, q⟩
theorem isN_same {h h' : Heap} {k : NKey} {a b : Addr} {o : Obj} {es : Array (Int × Value)} {ep : Nat} {t : SetTable} (x : IsN P w h k b) (ho : h.get? a = some o) (hd : o.data = .set es ep t) (hs : Heap.SameBut a h h') : IsN P w h' k b := by
  refine isN_keep x fun o' ho' => (hs.2 b ?_).trans ho'
  rintro rfl
  obtain ⟨⟨o2, items, n, ho2, _, hd2, _⟩, _⟩ := x
  obtain rfl : o2 = o := Option.some.inj (ho2.symm.trans ho)
  rw [hd] at hd2
  exact nomatch hd2
/-- the table of four with the fifth, laid anew with thirty-two places -/
theorem nset_relay {o : Obj} (ho : s.heap.get? a = some o) (hex : o.ExactSet) (hd : o.data = .set es ep t) (hrows : es.toList = L.map (row1 P w)) (hsz : t.place.size = es.size) (hdm : t.dummies = #[]) (hfl : es.size ≤ t.mask)
    (nd : (L.map (·.2)).Nodup) (tup : ∀ p ∈ L, IsN P w s.heap p.2 p.1) (pl : t.plain = true) (ld : w.params.followText "set-order" = true ∨ t.led = true) (few : L.length ≤ 5) {Q : Unit → Shared → Prop}
    (hQ : ∀ h' L' es' ep' t', Heap.SameBut a s.heap h' → NSet P w h' a L' es' ep' t' → L'.Perm L → Q () { s with heap := h' }) : wpAny (model P w) A (setRelay a (SetTable.grown 5)) Q E s := by
  have hsl : es.size = L.length := by
    have h := congrArg List.length hrows
    rw [Array.length_toList, List.length_map] at h
    exact h
  obtain ⟨t', order, e, hp, T, em, el, epl, ed⟩ := relaid_ok t (hs := es.map (·.1)) (wanted := SetTable.grown 5) (M := 31) (by rw [size_20]) (.inr (.inl rfl)) (by rw [Array.size_map]; omega)
  rw [Array.size_map, hsl] at hp
  obtain ⟨L', r1, r2, r3⟩ := order_of L (row1 P w) es order hrows hp
  rw [← r3] at T
  have hs2 : (order.filterMap (es[·]?)).size = L.length := by
    have h := congrArg List.length r1
    rw [Array.length_toList, List.length_map, r2.length_eq] at h
    exact h
  rw [setRelay_eq]
  refine wpAny_bind (wpAny_setState_of ho hd (fits_of hsz hdm hfl) ?_)
  dsimp only
  refine wp_if_neg (by rw [size_20, sizeLine_eq]; decide) ?_
  rw [e]
  dsimp only
  refine wpAny_bind (wp_if_neg (by rw [hs2, hsl]; simp) (wpAny_pure ?_))
  dsimp only
  refine wpAny_storeSet_of ho hd ?_ (by rw [hs2, sizeLine_eq]; omega)
  have sb : Heap.SameBut a s.heap (s.heap.update a (Obj.putSet (order.filterMap (es[·]?)) t')) := Heap.SameBut.update ..
  refine hQ _ L' (order.filterMap (es[·]?)) (ep + 1) t' sb ⟨⟨_, store_at ho hd, ⟨hex.1, hex.2.1, hex.2.2⟩, rfl⟩, r1, T, (r2.map (·.2)).nodup_iff.mpr nd, fun p hpm => isN_same (tup p (r2.mem_iff.mp hpm)) ho hd sb, by rw [epl]; exact pl, by rw [el]; exact ld, ?_, by rw [r2.length_eq]; exact few⟩ r2
  rw [r2.length_eq, em]
  omega
/-- s.add(x) -/
theorem nset_add (R : NSet P w s.heap a L es ep t) {x : Addr} {k : NKey} (hx : IsN P w s.heap k x) (hu : A.units < cLine) (hfew : L.length + 1 ≤ 5) {Q : Bool → Shared → Prop}
    (hQ : ∀ b h' L' es' ep' t', Heap.SameBut a s.heap h' → NSet P w h' a L' es' ep' t' → (k ∈ L.map (·.2) → L' = L) → (k ∉ L.map (·.2) → L'.Perm ((x, k) :: L)) → Q b { s with heap := h' }) :
    wpAny (model P w) A (setAddHashed a (.ref x) (nh P w k)) Q E s := by
  obtain ⟨o, ho, hex, hd⟩ := R.ob
  have hsl := R.size
  have hroom := R.room
  obtain ⟨K, hKf, hK, hKb⟩ := R.tab.first (by rw [List.length_map]; omega) (nh P w k)
  have turns : 10 * SetTable.turns t.mask ≤ 1420 := by
    unfold SetTable.turns
    rcases R.tab.mok with e | e | e <;> omega
  unfold setAddHashed
  refine wpAny_holding ?_
  rw [show (100000 : Nat) = 99999 + 1 from rfl, setAddHashedIn_succ]
  refine wpAny_bind (wpAny_setState_of ho hd R.fits ?_)
  dsimp only
  refine wp_if_neg (by simp [byScan, Value.scannable]) ?_
  unfold setSearch
  refine wpAny_bind (nset_from R hx hu hKf hK hKb (fun hm => ?_) (fun hm => ?_) 100000 0 none rfl (Nat.zero_le _) (by omega) fun i p hp hk => ?_)
  · dsimp only
    exact wpAny_pure (hQ false s.heap L es ep t (Heap.SameBut.refl a s.heap) R (fun _ => rfl) fun z => absurd hm z)
  · dsimp only
    refine wpAny_bind (wpAny_setState_of ho hd R.fits ?_)
    dsimp only
    obtain ⟨q1, q2, q3, q4, q5, q6, q7, q8, q9⟩ := R.tab.put hK hKb
    have hp1 : (t.put (way t.mask (nh P w k) K)).1.plain = true := by rw [q6]; exact R.plain
    show wpAny _ _ (let (t, p) := t.put (way t.mask (nh P w k) K); _) _ _ _
    generalize hpt : t.put (way t.mask (nh P w k) K) = pt at q1 q3 q4 q5 q6 q7 q8 q9 hp1 ⊢
    obtain ⟨t1, p⟩ := pt
    dsimp only at q1 q3 q4 q5 q6 q7 q8 q9 hp1 ⊢
    subst q1
    first
      | refine wpAny_bind (wp_if_pos hp1 (tup_hash hx ?_))
      | refine wp_if_pos hp1 (wpAny_bind (tup_hash hx ?_))
    simp only [if_true]
    generalize hpp : SetTable.below t.place (way t.mask (nh P w k) K) = p at q2 q3 ⊢
    have pm := put_perm L p (x, k)
    have hin : (SetTable.insertAt es p (nh P w k, Value.ref x)).toList = (L.take p ++ (x, k) :: L.drop p).map (row1 P w) := by
      rw [SetTable.toList_insertAt, R.rows, List.map_append, List.map_cons, List.map_take, List.map_drop]
      rfl
    have hhs : (L.take p ++ (x, k) :: L.drop p).map (fun p => nh P w p.2) = (L.map fun p => nh P w p.2).take p ++ nh P w k :: (L.map fun p => nh P w p.2).drop p := by
      rw [List.map_append, List.map_cons, List.map_take, List.map_drop]
    rw [← hhs] at q3
    rw [List.length_map] at q9
    have nd1 : ((L.take p ++ (x, k) :: L.drop p).map (·.2)).Nodup := (pm.map (·.2)).nodup_iff.mpr (List.nodup_cons.mpr ⟨hm, R.nd⟩)
    generalize L.take p ++ (x, k) :: L.drop p = L1 at pm q3 nd1 hin
    have hlen : L1.length = L.length + 1 := pm.length_eq
    have hes : (SetTable.insertAt es p (nh P w k, Value.ref x)).size = L.length + 1 := by
      have h := congrArg List.length hin
      rw [Array.length_toList, List.length_map, hlen] at h
      exact h
    generalize SetTable.insertAt es p (nh P w k, Value.ref x) = es1 at hin hes ⊢
    refine wpAny_bind (wpAny_storeSet_of ho hd ?_ (by rw [hes, sizeLine_eq]; omega))
    have sb : Heap.SameBut a s.heap (s.heap.update a (Obj.putSet es1 t1)) := Heap.SameBut.update ..
    have ho1 := store_at (es' := es1) (t' := t1) ho hd
    generalize s.heap.update a (Obj.putSet es1 t1) = h1 at sb ho1 ⊢
    have tup1 : ∀ p ∈ L1, IsN P w h1 p.2 p.1 := fun p hp => by
      rcases List.mem_cons.mp (pm.mem_iff.mp hp) with e | hp
      · rw [e]; exact isN_same hx ho hd sb
      · exact isN_same (R.tup p hp) ho hd sb
    have ld1 : w.params.followText "set-order" = true ∨ t1.led = true := by rw [q5]; exact R.led
    have msk := R.tab.mok
    by_cases hf : t1.tooFull = true
    · have hfull : (L.length + 1) * 5 ≥ t1.mask * 3 := by
        have h := hf
        unfold SetTable.tooFull at h
        rw [decide_eq_true_eq, q9] at h
        exact h
      have four : L.length = 4 := by
        rw [q4] at hfull
        rcases msk with e | e | e <;> rw [e] at hfull hroom <;> omega
      have rel : wpAny (model P w) A (setRelay a (SetTable.grown 5)) (fun _ s' => wpAny (model P w) A (pure true) Q E s') E { s with heap := h1 } := by
        have hsz1 : t1.place.size = es1.size := by
          have h := q3.sz
          rw [List.length_map] at h
          omega
        refine nset_relay (s := { s with heap := h1 }) ho1 ⟨hex.1, hex.2.1, hex.2.2⟩ rfl hin hsz1 q3.dm (by rw [q4]; rcases msk with e | e | e <;> omega) nd1 tup1 hp1 ld1 (by omega) ?_
        exact fun h2 L2 es2 ep2 t2 sb2 R2 pm2 => wpAny_pure (hQ true h2 L2 es2 ep2 t2 (sb.trans sb2) R2 (fun z => absurd z hm) fun _ => pm2.trans pm)
      rw [hsl, four]
      first
        | exact wpAny_bind (wp_if_pos (by simp [hf]) rel)
        | exact wp_if_pos (by simp [hf]) (wpAny_bind rel)
    · have small : L1.length * 5 < t1.mask * 3 := by
        have h := hf
        unfold SetTable.tooFull at h
        rw [decide_eq_true_eq, q9] at h
        omega
      have R1 : NSet P w h1 a L1 es1 (ep + 1) t1 := ⟨⟨_, ho1, ⟨hex.1, hex.2.1, hex.2.2⟩, rfl⟩, hin, q3, nd1, tup1, hp1, ld1, small, by omega⟩
      first
        | exact wp_if_neg (by simp [hf]) (wpAny_pure (hQ true h1 L1 es1 (ep + 1) t1 sb R1 (fun z => absurd z hm) fun _ => pm))
        | exact wpAny_bind (wp_if_neg (by simp [hf]) (wpAny_pure (wpAny_pure (hQ true h1 L1 es1 (ep + 1) t1 sb R1 (fun z => absurd z hm) fun _ => pm))))
  · have hi : (L.map fun p => nh P w p.2)[i]? = some (nh P w k) := by rw [List.getElem?_map, hp, ← hk]; rfl
    have hil : i < t.place.toList.length := by
      have h1 : i < L.length := (List.getElem?_eq_some_iff.mp hp).1
      have h2 := R.tab.sz
      rw [List.length_map] at h2
      rw [Array.length_toList]
      omega
    obtain ⟨c, hc, e⟩ := R.tab.before hK hi (List.getElem?_eq_getElem hil)
    exact ⟨c, Nat.zero_le _, hc, by rw [List.getElem?_eq_getElem hil]; exact congrArg some e.symm⟩
end
end Qb
set_option Elab.async false
set_option linter.all false
set_option maxRecDepth 100000
set_option maxHeartbeats 8000000
/-! # len(set(a list of few tuples of None and ints)) -/
namespace Qb
open PySem L2
open PySem.Spec hiding Row
open PyProof.Rows hiding St
open Qm
/-- what the set has of the first i items -/
structure Has (ks : NPs) (i : Nat) (L : NPs) : Prop where
  sub : ∀ p ∈ L, p ∈ ks.take i
  all : ∀ p ∈ ks.take i, p.2 ∈ L.map (·.2)
  len : L.length ≤ i
theorem Has.zero (ks : NPs) : Has ks 0 [] := ⟨fun _ h => (by cases h), fun p h => (by simp at h), Nat.le_refl _⟩
theorem Has.next {ks L L' : NPs} {i : Nat} {x : Addr × NKey} (g : Has ks i L) (h : ks[i]? = some x) (h1 : x.2 ∈ L.map (·.2) → L' = L) (h2 : x.2 ∉ L.map (·.2) → L'.Perm (x :: L)) : Has ks (i + 1) L' := by
  have e : ks.take (i + 1) = ks.take i ++ [x] := by rw [List.take_add_one, h]; rfl
  by_cases c : x.2 ∈ L.map (·.2)
  · rw [h1 c]
    refine ⟨fun p hp => by rw [e]; exact List.mem_append_left _ (g.sub p hp), fun p hp => ?_, Nat.le_succ_of_le g.len⟩
    rw [e] at hp
    rcases List.mem_append.mp hp with z | z
    · exact g.all p z
    · rw [List.mem_singleton.mp z]; exact c
  · have pm := h2 c
    refine ⟨fun p hp => ?_, fun p hp => ?_, by rw [pm.length_eq]; exact Nat.succ_le_succ g.len⟩
    · rw [e]
      rcases List.mem_cons.mp (pm.mem_iff.mp hp) with z | z
      · exact List.mem_append_right _ (List.mem_singleton.mpr z)
      · exact List.mem_append_left _ (g.sub p z)
    · rw [e] at hp
      rw [(pm.map (·.2)).mem_iff, List.map_cons]
      rcases List.mem_append.mp hp with z | z
      · exact List.mem_cons_of_mem _ (g.all p z)
      · rw [List.mem_singleton.mp z]; exact List.mem_cons_self
section
variable {P : Program} {w : World} {A : Around} {E : Value → Shared → Prop} {s : Shared}
theorem NSet.keep {h h' : Heap} {a : Addr} {L : NPs} {es : Array (Int × Value)} {ep : Nat} {t : SetTable} (R : NSet P w h a L es ep t) (ha : ∀ o, h.get? a = some o → h'.get? a = some o) (ht : ∀ p ∈ L, IsN P w h' p.2 p.1) : NSet P w h' a L es ep t := by
  obtain ⟨o, ho, r⟩ := R.ob
  exact ⟨⟨o, ha o ho, r⟩, R.rows, R.tab, R.nd, ht, R.plain, R.led, R.room, R.few⟩
abbrev freshSet (w : World) : Obj := { cls := .type "set", dict := none, data := .set #[] 0 (.fresh 0 0 (!w.params.followText "set-order")) }
theorem nset_fresh {h : Heap} {a : Addr} (ho : h.get? a = some (freshSet w)) : NSet P w h a [] #[] 0 (.fresh 0 0 (!w.params.followText "set-order")) where
  ob := ⟨_, ho, ⟨rfl, rfl, rfl⟩, rfl⟩
  rows := rfl
  tab := ⟨List.Pairwise.nil, rfl, rfl, .inl rfl, fun x hx => (by cases hx), fun i h j hi => (by simp at hi)⟩
  nd := List.nodup_nil
  tup := fun p hp => (by cases hp)
  plain := rfl
  led := by
    show _ ∨ (!w.params.followText "set-order") = true
    cases w.params.followText "set-order"
    · exact .inr rfl
    · exact .inl rfl
  room := by show 0 * 5 < 7 * 3; decide
  few := Nat.zero_le _
/-- the loop that takes the items in; h0: the heap in which the tuples stand, the set and the iterator are not of it -/
theorem nset_loop {I : Addr} {fp wr : List Addr} {G : Array GenState → Array GenState → Prop} {n : Nat} {Pv : Nat → Value → Prop} {St : Nat → Shared → Prop} {R : Result → Shared → Prop}
    (W : WalksS P w A.in1 I fp wr G n Pv St) (S : Addr) (hSf : S ∉ fp) (ks : NPs) (hn : n = ks.length) (hfew : ks.length ≤ 5) (hval : ∀ i v, Pv i v → ∃ p, ks[i]? = some p ∧ v = .ref p.1)
    (h0 : Heap) (hk : ∀ p ∈ ks, IsN P w h0 p.2 p.1) (hS0 : h0.get? S = none) (hw0 : ∀ b ∈ wr, h0.get? b = none) (hu : A.in1.units < cLine) :
    ∀ (k i : Nat) (s : Shared), n - i = k → i ≤ n → St i s → (∀ b o, h0.get? b = some o → s.heap.get? b = some o) → (∃ L es ep t, NSet P w s.heap S L es ep t ∧ Has ks i L) →
      (∀ s' L es ep t, Moved (S :: wr) G s s' → NSet P w s'.heap S L es ep t → Has ks n L → (∀ b o, h0.get? b = some o → s'.heap.get? b = some o) → R (.ok (.ret .none)) s') →
      codeAny (model P w) A (.builtin "set.update.loop" ⟨[.ref S, .ref I], []⟩) R s := by
  have hSw : S ∉ wr := fun h => hSf (W.sub _ h)
  have up : ∀ b ∈ wr, b ∈ S :: wr := fun b hb => List.mem_cons_of_mem _ hb
  intro k
  induction k with
  | zero =>
    intro i s hk' hi hst hkp ⟨L, es, ep, t, hS, g⟩ hR
    have hin : i = n := by omega
    subst hin
    refine codeAny_builtin F.entry_set_update_loop ?_
    rw [Around.under_plainId F.plain_set_update_loop _]
    show wpAny _ A.in1 (pyNext (.ref I) >>= _) _ _ s
    refine wpAny_bind (W.done s _ _ hst fun s' hm => ?_)
    show wpAny _ A.in1 (ret Value.none) _ _ s'
    have hkp' : ∀ b o, h0.get? b = some o → s'.heap.get? b = some o := fun b o e => hm.heap b o (fun hb => by rw [hw0 b hb] at e; cases e) (hkp b o e)
    exact wpAny_pure (hR s' L es ep t (hm.mono up) (hS.keep (fun o e => hm.heap S o hSw e) fun p hp => isN_keep (hk p (List.mem_of_mem_take (g.sub p hp))) (hkp' _)) g hkp')
  | succ k ih =>
    intro i s hk' hi hst hkp ⟨L, es, ep, t, hS, g⟩ hR
    refine codeAny_builtin F.entry_set_update_loop ?_
    rw [Around.under_plainId F.plain_set_update_loop _]
    show wpAny _ A.in1 (pyNext (.ref I) >>= _) _ _ s
    refine wpAny_bind (W.item i s _ _ (by omega) hst fun v s' hP hst' hm => ?_)
    obtain ⟨p, hp, rfl⟩ := hval i v hP
    have hkp' : ∀ b o, h0.get? b = some o → s'.heap.get? b = some o := fun b o e => hm.heap b o (fun hb => by rw [hw0 b hb] at e; cases e) (hkp b o e)
    have hS' : NSet P w s'.heap S L es ep t := hS.keep (fun o e => hm.heap S o hSw e) fun q hq => isN_keep (hk q (List.mem_of_mem_take (g.sub q hq))) (hkp' _)
    have hx : IsN P w s'.heap p.2 p.1 := isN_keep (hk p (List.mem_of_getElem? hp)) (hkp' _)
    show wpAny _ A.in1 (holding [Value.ref p.1] (setAdd S (.ref p.1)) >>= _) _ _ s'
    refine wpAny_bind (wpAny_holding ?_)
    unfold setAdd
    refine wpAny_holding (wpAny_bind (wpAny_pyHash_tuple hu hx.1 ?_))
    refine nset_add (s := { s' with toks := s'.toks + (p.2.length + 1) }) hS' hx hu (by have := g.len; omega) fun b h' L' es' ep' t' sb hS2 c1 c2 => ?_
    have hkp2 : ∀ b o, h0.get? b = some o → h'.get? b = some o := fun b o e => (sb.2 b (fun z => by rw [z, hS0] at e; cases e)).trans (hkp' b o e)
    refine wpAny_pure ⟨plainId_quiet F.plain_set_update_loop _, ih (i + 1) _ (by omega) (by omega) (W.frame _ s' _ _ hst' (Nat.le_add_right _ _) fun b hb o e => ?_) hkp2 ⟨L', es', ep', t', hS2, g.next hp c1 c2⟩ fun s'' L2 es2 ep2 t2 hm'' hS'' g'' hkp'' => ?_⟩
    · rw [sb.2 b (fun h : b = S => hSf (by rw [← h]; exact hb))]; exact e
    · refine hR s'' L2 es2 ep2 t2 (Moved.trans W.gtrans ((hm.mono up).then_heap (Nat.le_add_right _ _) fun b o hb e => ?_) hm'') hS'' g'' hkp''
      rw [sb.2 b (fun h : b = S => hb (by rw [h]; exact List.mem_cons_self))]; exact e
/-- set(xs) -/
theorem nset_call {l : Addr} {items : Array Value} (ks : NPs) {Q : Value → Shared → Prop} (hh : A.handled = none) (hl : s.heap.IsList l items) (hit : items.toList = ks.map fun p => Value.ref p.1)
    (hk : ∀ p ∈ ks, IsN P w s.heap p.2 p.1) (hfew : ks.length ≤ 5) (hu : A.units + 3 < cLine)
    (h : ∀ (h' : Heap) (tk : Nat) L es ep t, NSet P w h' s.heap.objs.size L es ep t → Has ks ks.length L → (∀ b o, s.heap.get? b = some o → h'.get? b = some o) → Q (.ref s.heap.objs.size) { s with heap := h', toks := tk }) :
    wpAny (model P w) A (call (.type "set") [.ref l]) Q E s := by
  have hisz : items.size = ks.length := by
    have q := congrArg List.length hit
    rw [Array.length_toList, List.length_map] at q
    exact q
  obtain ⟨c, tl, hmro⟩ := F.called_set.mro
  have hmade := F.called_set.made
  have hsub := F.called_set.sub
  refine wpAny_call (codeAny_of_tree ?_)
  show wpAny _ _ (callAny (.type "set") _) _ _ _
  refine wpAny_pure ⟨Code.quiet_builtin _ (by decide +kernel), codeAny_builtin F.entry_type_call ?_⟩
  rw [Around.under_plain (weight_type_call_type "set" [.ref l] []) rfl]
  have h1 := F.called_set.notType
  have h2 := F.called_set.canCreate
  have hct := F.typeCall_set_1 (.ref l)
  repeat (any_goals (first | assumption | wp_step))
  refine codeAny_mono (code_set_led1 (.ref l) (E := E) (Q₁ := fun obj s₁ => obj = .ref s.heap.objs.size ∧ s₁ = { s with heap := s.heap.push (freshSet w) }) ⟨rfl, rfl⟩) fun r s₁ hr => ?_
  cases r with
  | error e => exact hr
  | ok fl =>
    cases fl with
    | ret obj =>
      obtain ⟨rfl, rfl⟩ := hr
      have hS : (s.heap.push (freshSet w)).get? s.heap.objs.size = some (freshSet w) := Heap.get?_push_size _ rfl
      have hT : Shared.TypeIs { s with heap := s.heap.push (freshSet w) } (.ref s.heap.objs.size) "set" := ⟨_, hS, rfl⟩
      have hli := F.called_set.init.lookup
      have hbi := F.called_set.init.bind (.ref s.heap.objs.size)
      repeat (any_goals (first | assumption | wp_step))
      refine codeAny_mono (codeAny_call_builtin (R := wants (fun r s₂ => r = .none ∧ ∃ h' tk L es ep t, s₂ = { s with heap := h', toks := tk } ∧ NSet P w h' s.heap.objs.size L es ep t ∧ Has ks ks.length L ∧
          (∀ b o, s.heap.get? b = some o → h'.get? b = some o)) E) F.called_set.init.plain F.entry_set_init (check_set_init_1 hT ?_)) fun r₂ s₂ hr₂ => ?_
      · obtain ⟨⟨ocls, odict, odata, oslots⟩, hol, hcl, nl, hdl⟩ := hl
        simp only at hcl hdl
        subst hcl hdl
        have hol' : (s.heap.push (freshSet w)).get? l = some { cls := .type "list", dict := odict, data := .seq items nl, slots := oslots } := Heap.get?_push_of_some _ hol
        have hsls := F.sub_list_set
        have hslf := F.sub_list_frozenset
        have hne : (Value.type "list" == Value.type "dict") = false := by decide
        have hl1 : (s.heap.push (freshSet w)).IsList l items := ⟨_, hol', rfl, nl, rfl⟩
        unfold Builtin.«set.__init__» noKeywords Builtin.Frozenset.updateFrom
        generalize hPI : pyIter = PI
        wp_walk
        subst hPI
        refine wpAny_pyIter_list hl1 (wpAny_bind (wpAny_runValue ?_))
        have hlS : l < s.heap.objs.size := Heap.lt_size hol
        have hz1 : (s.heap.push (freshSet w)).objs.size = s.heap.objs.size + 1 := Heap.size_push ..
        have gone : ∀ b, s.heap.objs.size ≤ b → s.heap.get? b = none := fun b hb => by
          cases q : s.heap.get? b with
          | none => rfl
          | some o => exact absurd (Nat.lt_of_lt_of_le (Heap.lt_size q) hb) (Nat.lt_irrefl _)
        have hneI : l ≠ (s.heap.push (freshSet w)).objs.size := by rw [hz1]; exact Nat.ne_of_lt (Nat.lt_succ_of_lt hlS)
        refine nset_loop ((Walks.list (by simp [hh]) _ l hneI items).toS) s.heap.objs.size ?_ ks hisz hfew (fun i v hv => ?_) s.heap hk (gone _ (Nat.le_refl _)) (fun b hb => gone b (by rw [List.mem_singleton.mp hb, hz1]; exact Nat.le_succ _)) hu (items.size - 0) 0 _ (by omega) (Nat.zero_le _)
          ⟨⟨_, Heap.get?_push_size _ rfl, rfl, rfl⟩, (hl1.push _)⟩ (fun b o e => Heap.get?_push_of_some _ (Heap.get?_push_of_some _ e)) ⟨[], #[], 0, _, nset_fresh (Heap.get?_push_of_some _ hS), Has.zero ks⟩ fun s' L es ep t hm hS' g' hkp => ?_
        · rw [hz1]
          simp only [List.mem_cons, List.mem_singleton, List.not_mem_nil, or_false, not_or]
          exact ⟨Nat.ne_of_lt (Nat.lt_succ_self _), Nat.ne_of_gt hlS⟩
        · have q : items.toList[i]? = some v := by rw [Array.getElem?_toList]; exact hv
          rw [hit, List.getElem?_map] at q
          cases hq : ks[i]? with
          | none => rw [hq] at q; cases q
          | some p =>
            rw [hq] at q
            exact ⟨p, rfl, (Option.some.inj q).symm⟩
        · obtain ⟨h', g2, d', tk', os'⟩ := s'
          obtain rfl : g2 = s.gens := hm.gens
          obtain rfl : d' = s.drawn := hm.drawn
          obtain rfl : os' = s.os := hm.os
          show wpAny _ _ _ _ _ _
          refine wpAny_pure ?_
          show wpAny _ _ (ret Value.none) _ _ _
          rw [hisz] at g'
          exact wpAny_pure ⟨rfl, h', tk', L, es, ep, t, rfl, hS', g', hkp⟩
      · cases r₂ with
        | error e => exact hr₂
        | ok fl₂ =>
          cases fl₂ with
          | ret r =>
            obtain ⟨rfl, h', tk, L, es, ep, t, rfl, hS', g', hk'⟩ := hr₂
            repeat (any_goals (first | assumption | wp_step))
            exact h _ _ _ _ _ _ hS' g' hk'
          | _ => exact hr₂.elim
    | _ => exact hr.elim
end
/-- as many as there are unlike ones -/
theorem has_len {ks L : NPs} (g : Has ks ks.length L) (nd : (L.map (·.2)).Nodup) : L.length = (dd [] (ks.map (·.2))).length := by
  have h1 := dd_spec (ks.map (·.2)) [] List.nodup_nil
  have pm : (L.map (·.2)).Perm (dd [] (ks.map (·.2))) := (List.perm_ext_iff_of_nodup nd h1.1).mpr fun k => by
    rw [h1.2.1 k]
    constructor
    · intro hk
      obtain ⟨p, hp, rfl⟩ := List.mem_map.mp hk
      exact .inr (List.mem_map.mpr ⟨p, List.mem_of_mem_take (g.sub p hp), rfl⟩)
    · rintro (hk | hk)
      · cases hk
      · obtain ⟨p, hp, rfl⟩ := List.mem_map.mp hk
        exact g.all p (by rw [List.take_length]; exact hp)
  have h2 := pm.length_eq
  rw [List.length_map] at h2
  exact h2
section
variable {X : Cx}
/-- len(set(xs)), xs a list of tuples -/
def tLenSetN (K : PySem.W.Frag) (ta : TE) : TE := fun σ H Q => ta σ H fun x H1 => ∃ (l : Addr) (ks : NPs), x = V.ref l ∧ SqL K H1 l (ks.map fun p => V.ref p.1) ∧ (∀ p ∈ ks, H1 p.1 = some (.tup (p.2.map okV)) ∧ NoTxt p.2) ∧ ks.length ≤ 5 ∧
  Q (.int (((dd [] (ks.map (·.2))).length : Nat) : Int)) H1
theorem refs_vals : ∀ {ks : NPs} {us : List Value}, Vals (ks.map fun p => V.ref p.1) us → us = ks.map fun p => Value.ref p.1
  | [], _, .nil => rfl
  | p :: ks, _, .cons r t => by
    cases r
    rw [refs_vals t]
    rfl
theorem pe_lenSetN {a : Expr} {ta : TE} {p p2 q pos : Pos} (hc : X.calm = true) (hu : X.A.units + 64 < cLine) (hg : Gl X "len") (hm : X.mg "len" = none) (hg2 : Gl X "set") (hm2 : X.mg "set" = none) (ha : PE X a ta)
    (na : starEach [a] X.env = (false, eval a X.env) :: starEach [] X.env := by rfl) : PE X (.Call (.Name "len" p) [.Call (.Name "set" p2) [a] [] q] [] pos) (tLenSetN X.K ta) := by
  refine ⟨fun pins s σ H Q I h => ?_⟩
  refine Call_ (ld_blt I hg hm PySem.boot_len ?_)
  refine PyProof.Rows.callWith_builtin1 (PyProof.Rows.args_cons ?_ rfl) rfl rfl
  refine Call_ (ld_blt I hg2 hm2 PyProof.Rows.boot_set ?_)
  refine PyProof.Rows.callWith_type1 (PyProof.Rows.args_cons (thn (ha.run pins s σ H _ I h) fun v s1 ⟨x, H1, I1, r1, q1⟩ => PyProof.Rows.args_nil ?_) na) na rfl
  obtain ⟨l, ks, rfl, hq, hks, h5, q1⟩ := q1
  cases r1
  obtain ⟨its, r, pl, hz⟩ := I1.list hq
  refine nset_call (P := X.prog) (w := X.w) ks (I1.ok.hd hc) pl.isList (by simpa using refs_vals r) (fun p hp => ⟨key_at I1.hok (hks p hp).1, (hks p hp).2⟩) h5 (by omega) fun h' tk L es ep t R g k => ?_
  refine PyProof.Rows.args_nil ?_
  have I2 : Inv X pins σ H1 { s1 with heap := h', toks := tk } := I1.kept k
  obtain ⟨o, ho, hex, hd⟩ := R.ob
  have hsz : es.size = L.length := by
    have h := congrArg List.length R.rows
    rw [Array.length_toList, List.length_map] at h
    exact h
  have hf : t.fits es.size = true := NSet.fits (s := { s1 with heap := h', toks := tk }) R
  have hl := R.few
  refine call_len_set ho hex hd hf (by omega) ⟨.int (((dd [] (ks.map (·.2))).length : Nat) : Int), H1, I2.tok _, ⟨_, by rw [hsz, has_len g R.nd]⟩, q1⟩
end
end Qb
set_option Elab.async false
set_option linter.all false
set_option maxRecDepth 100000
set_option maxHeartbeats 4000000
/-! # _law_tell_apart, _law_due -/
namespace Qb
open PySem L2
open PySem.Spec hiding Row
open PyProof.Rows hiding St
open Qm
variable {P : Program} {w : World} {K : PySem.W.Frag} {mg : Str → Option Value} {base : Heap}
def lcScope (s : Stmt) : Scope := match defBody s with
  | .Assign _ (.ListComp _ _ sc _) _ :: _ => sc
  | _ => defScope s
abbrev nmTell : List Str := ["_law_rows", "_law_rates", "_law_seen_so", "_law_lanes_here", "_law_rate"]
theorem scTell : FnScope nmTell ["_law_rows", "_law_rates"] (defScope sTell) := ⟨rfl, rfl, rfl, by decide +kernel, rfl, by decide +kernel, by decide +kernel⟩
/-- a tuple of rests -/
def TupR : DR (List (Option Int)) := fun H v l => ∃ a, v = .ref a ∧ H a = some (.tup (l.map oV))
theorem mTupR : Mono TupR := fun _ _ _ _ s ⟨a, e, h⟩ => ⟨a, e, s _ _ h⟩
theorem noTxt_em (l : List (Option Int)) : NoTxt (emN l) := fun o ho x e => by
  obtain ⟨q, _, rfl⟩ := List.mem_map.mp ho
  cases q with
  | none => cases e
  | some i => cases e
theorem tups_ks {H : Hp} {zs : List V} {ls : List (List (Option Int))} (h : Paired (TupR H) zs ls) :
    ∃ ks : NPs, zs = (ks.map fun p => V.ref p.1) ∧ (∀ p ∈ ks, H p.1 = some (.tup (p.2.map okV)) ∧ NoTxt p.2) ∧ ks.map (·.2) = ls.map emN := by
  induction h with
  | nil => exact ⟨[], rfl, fun p hp => (by cases hp), rfl⟩
  | @cons v l _ _ h1 _ ih =>
    obtain ⟨ks, e1, e2, e3⟩ := ih
    obtain ⟨a, rfl, ha⟩ := h1
    refine ⟨(a, emN l) :: ks, by rw [List.map_cons, e1], fun p hp => ?_, by rw [List.map_cons, List.map_cons, e3]⟩
    rcases List.mem_cons.mp hp with rfl | hp
    · exact ⟨by rw [emN_okV]; exact ha, noTxt_em l⟩
    · exact e2 p hp
def spTell : Sp := fun vs H Q _ => ∃ (x y : V) (rows : List KVs) (rates : List Int), vs = [x, y] ∧ RowsR H x rows ∧ IntsR H y rates ∧ rows.length ≤ 5 ∧ (∀ L ∈ rows, L.length ≤ 1000) ∧ rates.length ≤ 100 ∧ ∀ H', Same H H' → Q (.bl (apart rows rates)) H'
theorem okTell (T : Txt K mg) : FnOk P w K mg base CX0 3 T.f_tell T.d_tell ["_law_rows", "_law_rates"] spTell := by
  refine T.D_tell.F.ok scTell (fun vs H Q E h => ?_) (fun cdv A outer s H vs Q E hr h => ?_)
  · obtain ⟨x, y, rows, rates, rfl, _⟩ := h
    rfl
  · obtain ⟨x, y, rows, rates, rfl, ⟨a, xs, rfl, ha, hp⟩, ⟨b, zs, rfl, hb, hq⟩, hl, hL, hlr, q⟩ := h
    refine ⟨_, pss_cons (ps_setLc (i := 2) (own := [("_law_lanes_here", 3)]) (g := gName 3) (tt := tYes) (te := tCB (rTupOf K) (tCons (tLc (iList K (tVar 1)) (gName 4) tYes (tCall spRest [] E0 (tCons (tVar 3) (tCons (tTup (tCons (tVar 4) (tCons (tC (.int 1)) tNil))) tNil))) [4]) tNil)) rfl scTell.nd rfl rfl (sw_true rfl rfl rfl (by decide +kernel)) (pi_list (pv 0)) (blkOk_by (N := nmTell) (sc := defScope sTell) (by decide +kernel))
        (fun _ _ _ _ _ => pg_name (i := 3) scTell.nd rfl (Or.inr rfl)) (fun _ _ _ _ _ => pts_nil)
        (fun _ _ _ _ _ => pe_callTy call_tuple_of (by rfl) T.z_tuple (by decide +kernel) (pa_cons (pe_lc (own := [("_law_rate", 4)]) (g := gName 4) (tt := tYes) rfl scTell.nd (pi_list (pv 1)) (blkOk_by (N := nmTell) (sc := relS (lcScope sTell) (defScope sTell)) (by decide +kernel))
          (fun _ _ _ _ _ => pg_name (i := 4) scTell.nd rfl (Or.inl rfl)) (fun _ _ _ _ _ => pts_nil)
          (fun _ _ _ _ _ => pe_df (okLRest T) T.D_lrest hr rfl (pa_cons (pv 3) (pa_cons (pe_tup (pa_cons (pv 4) (pa_cons pe_int pa_nil))) pa_nil)))) pa_nil)))
      (pss_one (ps_ret (pe_cmp (pc_eqI (pe_lenSetN rfl hr.units (by rfl) T.z_len (by rfl) T.z_set (pv 2)) (pe_callB call_len_seq (by rfl) T.z_len PySem.boot_len (pa_cons (pv 0) pa_nil))) rfl))), ?_⟩
    refine sq1 (lc_fml (R := LanesR) (R' := TupR) (fun L => some (rates.map (restIn L))) mLanesR mTupR rfl ha hp (small100 (by omega)) (fun D H' x L hmem hD _ s0 hR Kt Kf k1 k2 => ?_) (fun D H1 hD s1 hT => ?_))
    · have sH : Same H H' := s0.trans (hid_sub _ _)
      refine ⟨rfl, iteY (B := Kf H') rfl ?_⟩
      refine cb1 (lc_fml (R := IntR) (R' := OptR) (fun r => some (restIn L r)) mIntR mOptR rfl (sH _ _ hb) (hq.mono fun _ _ z => z) (small100 hlr) (fun D2 H2 z r hr2 hD2 _ s2 hR2 Kt2 Kf2 k3 k4 => ?_) (fun D2 H2 hD2 s2 hL2 => ?_))
      · cases (show z = V.int r from hR2)
        have sH2 : Same H' H2 := s2.trans (hid_sub _ _)
        refine ⟨rfl, iteY (B := Kf2 H2) rfl ?_⟩
        refine ⟨_, rfl, _, rfl, by show 2 ≤ sizeLine; decide, fun t ht => ?_⟩
        exact ⟨x, .ref t, L, r, rfl, mLanesR _ _ _ _ (((hid_sub _ _).trans sH2).trans (same_new ht)) hR, ⟨t, rfl, upd_same⟩, hL L hmem, fun H3 s3 => k3 _ rfl _ _ ((same_new ht).trans s3) rfl⟩
      · obtain ⟨_, ws, e, hw, hpw⟩ := hL2
        cases e
        refine ⟨D2, _, rfl, .inl ⟨SqL.of hw, fun t ht => ?_⟩⟩
        have e1 : ws = (rates.map (restIn L)).map oV := by
          rw [opts_eq hpw, show (fun r => some (restIn L r)) = some ∘ restIn L from rfl, List.filterMap_eq_map]
        refine k1 _ rfl _ _ (s2.trans (same_new ht)) ⟨t, rfl, ?_⟩
        have nt : t ∉ [D] := fun z => by
          rw [List.mem_singleton.mp z] at ht
          have h0 := s2.free ht
          rename_i hx
          obtain ⟨acc, hacc⟩ := hx
          rw [hacc] at h0
          cases h0
        rw [hid_put nt, upd_same, e1]
    · obtain ⟨_, ws, e, hw, hpw⟩ := hT
      cases e
      rw [show (fun L => some (rates.map (restIn L))) = some ∘ (fun L => rates.map (restIn L)) from rfl, List.filterMap_eq_map] at hpw
      obtain ⟨ks, e1, e2, e3⟩ := tups_ks hpw
      have l1 := hpw.length
      have l2 := hp.length
      rw [List.length_map] at l1
      have l3 : ks.length = ws.length := by rw [e1, List.length_map]
      refine ⟨_, rfl, D, ks, rfl, SqL.of (by rw [hw, e1]), e2, by omega, _, rfl, a, xs, rfl, .inl (SqL.of (s1 _ _ ha)), _, _, rfl, rfl, ?_⟩
      have z := q _ s1
      have e4 : apart rows rates = decide ((((dd [] (ks.map (·.2))).length : Nat) : Int) = ((xs.length : Nat) : Int)) := by
        unfold apart restsBy
        refine decide_eq_decide.mpr ?_
        have h2 := dd_len (ks.map (·.2))
        rw [e3] at h2 ⊢
        rw [nodup_inj emN_inj, List.length_map, List.length_map] at h2
        rw [← h2, l2]
        omega
      rw [e4] at z
      exact z
/-! ### _law_due -/
abbrev nmDue : List Str := ["_law_bundles", "_law_rows", "_law_bundle", "_law_most", "_law_many", "_law_rates", "_law_lanes_here"]
theorem scDue : FnScope nmDue ["_law_bundles"] (defScope sDue) := ⟨rfl, rfl, rfl, by decide +kernel, rfl, by decide +kernel, by decide +kernel⟩
/-- a bundle of the law's -/
def SmallB (b : Bun) : Prop := FineB b ∧ goodB b = true ∧ topRoom (lanesOf b) ≤ 9 ∧ ∀ q ∈ lanesOf b, q.1 ≤ 1000000
def spDue : Sp := fun vs H Q _ => ∃ (x : V) (bs : List Bun), vs = [x] ∧ BunsR H x bs ∧ bs.length ≤ 5 ∧ (∀ b ∈ bs, SmallB b) ∧
  ∀ H' p, Same H H' → H p = none → H' p = some (.lst ((ratesOf bs).map V.int)) → Q (.ref p) H'
theorem find_first {α : Type} (p : α → Bool) (l : List α) (h : ∀ (j : Nat) (x : α), j < l.length → l[j]? = some x → p x = false) : l.find? p = none :=
  find_none p l fun j x e => h j x (List.getElem?_eq_some_iff.mp e).1 e
theorem okDue (T : Txt K mg) : FnOk P w K mg base CX0 4 T.f_due T.d_due ["_law_bundles"] spDue := by
  refine T.D_due.F.ok scDue (fun vs H Q E h => ?_) (fun cdv A outer s H vs Q E hr h => ?_)
  · obtain ⟨x, bs, rfl, _⟩ := h
    rfl
  · obtain ⟨x, bs, rfl, ⟨a, xs, rfl, ha, hp⟩, hb5, hsm, q⟩ := h
    have hu65 : (A.deeper (envOfC "_law_due" (defScope sDue) s.heap.objs.size T.f_due cdv)).units + 65 < cLine := by have := hr.un; omega
    refine ⟨_, pss_cons (ps_set (i := 1) scDue.nd rfl (.inl rfl) (pe_lst pa_nil))
      (pss_cons (ps_for PassesOwn.never rfl (pi_sq (pv 0)) (pg_name (i := 2) scDue.nd rfl (.inl rfl))
        (pss_one (ps_expr (pe_bm PySem.F.plainAttrs_list PySem.F.slot_list_extend PySem.F.type_list_extend mt_extend (pv 1) (pa_cons
          (pe_ifExp (pt_cmpR (op_notInD hu65) (pe_df (okLLanes T) T.D_llanes (hr.mono (by decide)) rfl (pa_cons (pv 2) pa_nil)) (pv 1) rfl) (pe_lst (pa_cons (pe_df (okLLanes T) T.D_llanes (hr.mono (by decide)) rfl (pa_cons (pv 2) pa_nil)) pa_nil)) (pe_lst pa_nil)) pa_nil)))))
      (pss_cons (ps_set (i := 3) scDue.nd rfl (.inl rfl) (pe_callB (cr_max rfl) (by rfl) T.z_max (by decide +kernel) (pa_cons (pe_op op_cat (pe_lst (pa_cons pe_int pa_nil)) (pe_lc (own := [("_law_lanes_here", 6)]) (g := gName 6) (tt := tYes) rfl scDue.nd (pi_list (pv 1)) (blkOk_by (N := nmDue) (sc := defScope sDue) (by decide +kernel))
          (fun _ _ _ _ _ => pg_name (i := 6) scDue.nd rfl (Or.inl rfl)) (fun _ _ _ _ _ => pts_nil)
          (fun _ _ _ _ _ => pe_df (okLRoom T) T.D_lroom (hr.mono (by decide)) rfl (pa_cons (pv 6) (pa_cons (pe_op op_pow pe_int pe_int) pa_nil))))) pa_nil)))
      (pss_cons (ps_for PassesOwn.never rfl (pi_range1 (by rfl) T.z_range (pa_cons (pe_callB call_len_seq (by rfl) T.z_len PySem.boot_len (pa_cons (pv 1) pa_nil)) pa_nil)) (pg_name (i := 4) scDue.nd rfl (.inl rfl))
        (pss_one (ps_for PassesOwn.never rfl (pi_list (pe_df (okLists T) T.D_lists (hr.mono (by decide)) rfl (pa_cons (pv 3) (pa_cons (pv 4) pa_nil)))) (pg_name (i := 5) scDue.nd rfl (.inl rfl))
          (pss_one (ps_if (pt_val (pe_df (okTell T) T.D_tell hr rfl (pa_cons (pv 1) (pa_cons (pv 5) pa_nil)))) (pss_one (ps_ret (pv 5))) pss_nil)))))
      (pss_one (ps_ret (pe_lst pa_nil)))))), ?_⟩
    refine ⟨Nat.zero_le _, fun r hr0 => ?_⟩
    have lx := hp.length
    refine for_sq (K := K) (a := a) (xs := xs) rfl (ha.go (same_new hr0)) (fun n σ H' => ∃ i2, σ = [some (.ref a), some (.ref r), i2, none, none, none, none] ∧ MapI LanesR H r (rowsOf ((bs.take n).map lanesOf)) H')
      ⟨none, rfl, MapI.start hr0⟩ (fun n σ H' _ p => ?_) ?_ ?_
    · obtain ⟨_, _, acc, _, s0, _⟩ := p
      rw [sq_keep ha (s0.trans (hid_sub _ _)), upd_ne (fun z => by rw [z] at ha; exact ha.elim (fun q => by rw [hr0] at q; cases q) (fun q => by rw [hr0] at q; cases q))]
    · rintro n x σ H' hx ⟨i2, rfl, mi⟩
      obtain ⟨b, hb, rx0⟩ := pd_get hp hx
      have hmem := List.mem_of_getElem? hb
      obtain ⟨fb, gb, _⟩ := hsm b hmem
      have s0 : Same H H' := by
        obtain ⟨acc, _, s0, _⟩ := mi
        exact s0.trans (hid_sub _ _)
      have rx := mBunR _ _ _ _ s0 rx0
      obtain ⟨acc0, hacc0, _⟩ := id mi
      refine ⟨_, rfl, .inl ⟨rfl, _, SqL.of hacc0⟩, tc1 ?_⟩
      refine ⟨_, rfl, x, b, rfl, rx, fb, fun H3 p3 s3 hp3 hL3 => ?_⟩
      have mi3 := mi.keep mLanesR s3
      obtain ⟨acc, hacc, ss, hpa⟩ := id mi3
      have hR3 : RowsR H3 (.ref r) (rowsOf ((bs.take n).map lanesOf)) := ⟨r, acc, rfl, hacc, hpa.mono fun _ _ z => mLanesR _ _ _ _ (hid_sub _ _) z⟩
      refine ⟨_, rfl, dLanes (lanesOf b), _, dp_lanes hL3, dp_rows hR3, (ok_lanes _).shaped (by decide), (ok_rows _).shaped (by decide), _, rfl, ?_⟩
      rw [any_lanes]
      have e1 : (bs.take (n + 1)).map lanesOf = (bs.take n).map lanesOf ++ [lanesOf b] := by
        rw [List.take_add_one, hb, List.map_append]
        rfl
      have hlen : (rowsOf ((bs.take n).map lanesOf)).length ≤ 5 := by
        have h2 := (rows_from ((bs.take n).map lanesOf) [] List.nodup_nil).2.2
        rw [List.length_map, List.length_nil, List.length_take] at h2
        show (rowsFrom [] _).length ≤ 5
        omega
      by_cases c : lanesOf b ∈ rowsOf ((bs.take n).map lanesOf)
      · refine iteN (by rw [decide_eq_true c]; rfl) ⟨Nat.zero_le _, fun e he => ?_⟩
        obtain ⟨acc2, a1, a2, a3⟩ := mi3.addAll (zs := []) (l := []) mLanesR (same_new he) .nil
        refine ⟨r, e, acc2, [], rfl, rfl, a1, upd_same, by rw [a2]; exact small1000' (by show (rowsOf ((bs.take n).map lanesOf)).length + 0 ≤ 1000; omega), _, rfl, ?_⟩
        rw [e1, rows_snoc, if_pos c]
        rw [List.append_nil] at a3
        exact a3
      · refine iteY (by rw [decide_eq_false c]; rfl) ?_
        refine ⟨_, rfl, x, b, rfl, mBunR _ _ _ _ s3 rx, fb, fun H4 p4 s4 hp4 hL4 => ⟨by show 1 ≤ sizeLine; decide, fun e he => ?_⟩⟩
        have ne : p4 ≠ r := fun z => by rw [z, hacc] at hp4; cases hp4
        have s45 : Same H4 (upd H4 e (.lst [.ref p4])) := same_new he
        obtain ⟨acc2, a1, a2, a3⟩ := mi3.addAll (zs := [.ref p4]) (l := [lanesOf b]) mLanesR (s4.trans s45) (.cons (lanes_hid (s45 _ _ (s4 _ _ hacc)) ne (mLanesR _ _ _ _ s45 hL4)) .nil)
        refine ⟨r, e, acc2, [.ref p4], rfl, rfl, a1, upd_same, by rw [a2]; exact small1000' (by show (rowsOf ((bs.take n).map lanesOf)).length + 1 ≤ 1000; omega), _, rfl, ?_⟩
        rw [e1, rows_snoc, if_neg c]
        exact a3
    · rintro σ H' ⟨i2, rfl, mi⟩
      rw [lx, List.take_length] at mi
      have hRq : ratesOf bs = answer (rowsOf (bs.map lanesOf)) (manyOf (rowsOf (bs.map lanesOf))) := rfl
      have hRl := (rows_from (bs.map lanesOf) [] List.nodup_nil).2.2
      have hRm := (rows_from (bs.map lanesOf) [] List.nodup_nil).2.1
      have hR5 : (rowsOf (bs.map lanesOf)).length ≤ 5 := by
        rw [List.length_nil, List.length_map] at hRl
        show (rowsFrom [] (bs.map lanesOf)).length ≤ 5
        omega
      have hRL : ∀ L ∈ rowsOf (bs.map lanesOf), L.length ≤ 50 ∧ topRoom L ≤ 9 ∧ topRoom L = roomTo L 1000000 := fun L hL => by
        rcases (hRm L).mp hL with z | z
        · cases z
        · obtain ⟨b, hb, rfl⟩ := List.mem_map.mp z
          obtain ⟨fb, _, h9, h6⟩ := hsm b hb
          exact ⟨Nat.le_trans (lanes_length b) fb.2.1, h9, topRoom_eq (lanes_sorted b) h6⟩
      rw [hRq] at q
      generalize rowsOf (bs.map lanesOf) = R at q hR5 hRL mi
      clear hRq hRl hRm
      obtain ⟨sH, _, rs, e, hrs, hpr⟩ := mi.out mLanesR hr0
      cases e
      dsimp only
      refine sq1 (cb1 (op1 ?_))
      refine ⟨by show 1 ≤ sizeLine; decide, fun l hl2 => lc_fml (R := LanesR) (R' := IntR) (fun L => some (topRoom L)) mLanesR mIntR rfl (same_new hl2 _ _ hrs) (hpr.mono fun _ _ z => mLanesR _ _ _ _ (same_new hl2) z) (small100 (by omega)) (fun D H2 x L hL hD _ s2 hR Kt Kf k1 k2 => ?_) (fun D H2 hD s2 hL2 => ?_)⟩
      · obtain ⟨h50, _, e6⟩ := hRL L hL
        refine ⟨rfl, iteY (B := Kf H2) rfl ?_⟩
        exact ⟨_, rfl, _, _, rfl, rfl, ⟨by decide, by decide, by decide⟩, x, L, 1000000, rfl, mLanesR _ _ _ _ (hid_sub _ _) hR, by omega, fun H3 s3 => k1 _ rfl _ _ s3 (by show V.int _ = V.int _; rw [e6])⟩
      · obtain ⟨_, zs, e, hz, hpz⟩ := hL2
        cases e
        rw [show (fun L => some (topRoom L)) = some ∘ topRoom from rfl, List.filterMap_eq_map] at hpz
        have lz := hpz.length
        rw [List.length_map] at lz
        refine ⟨l, D, [.int 0], zs, rfl, rfl, s2 _ _ upd_same, hz, by rw [lz]; exact small1000' (by show 1 + R.length ≤ 1000; omega), fun p hp2 => ?_⟩
        refine ⟨p, 0 :: R.map topRoom, rfl, SqL.of (by rw [upd_same, ints_eq hpz]; rfl), Nat.succ_pos _, fun m hm hle => ?_⟩
        have hm0 : 0 ≤ m := hle 0 List.mem_cons_self
        have em : m = manyOf R := by
          refine maxL_eq ?_ hm0 fun x hx => hle x (List.mem_cons_of_mem _ hx)
          rcases List.mem_cons.mp hm with z | z
          · exact .inl z
          · exact .inr z
        have hm9 : m ≤ 9 := by
          rcases List.mem_cons.mp hm with z | z
          · rw [z]; decide
          · obtain ⟨L, hL, rfl⟩ := List.mem_map.mp z
            exact (hRL L hL).2.1
        rw [← em] at q
        have s3 : Same H' (upd H2 p (.lst ([.int 0] ++ zs))) := ((same_new hl2).trans s2).trans (same_new hp2)
        generalize upd H2 p (.lst ([.int 0] ++ zs)) = H3 at s3
        have hrs3 := s3 _ _ hrs
        have hpr3 : Paired (LanesR H3) rs R := hpr.mono fun _ _ z => mLanesR _ _ _ _ s3 z
        have sH3 : Same H H3 := sH.trans s3
        have lr := hpr.length
        refine ⟨_, rfl, r, _, rfl, .inl (SqL.of hrs3), _, rfl, by omega, by omega, for_range (lo := 0) (n := ((rs.length : Nat) : Int).toNat) (fun i σ H4 => ∃ i4 i5, σ = [some (.ref a), some (.ref r), i2, some (.int m), i4, i5, none] ∧ Same H3 H4 ∧ ∀ j, j < i → answerAt R m j = none)
          ⟨none, none, rfl, Same.refl _, fun j hj => absurd hj (Nat.not_lt_zero _)⟩ ?_ ?_⟩
        · rintro i σ H4 hi ⟨i4, i5, rfl, s4, hno⟩
          rw [Int.toNat_natCast, lr] at hi
          have hcl := choices_length m i
          have hcs := pow_small hm0 hm9 (show i ≤ 4 by omega)
          refine ⟨_, rfl, _, rfl, m, i, by show [V.int m, V.int (0 + (i : Nat))] = [V.int m, V.int (i : Nat)]; rw [Int.zero_add], hm0, by omega, by omega, fun k hk => pow_small hm0 hm9 (by omega), fun H5 p5 ws s5 hp5 hw5 hpw => ?_⟩
          have lw := hpw.length
          refine ⟨p5, rfl, ⟨_, SqL.of hw5⟩, for_list (K := K) (a := p5) (xs := ws) (fun n σ H6 => ∃ i5, σ = [some (.ref a), some (.ref r), i2, some (.int m), some (.int (0 + (i : Nat))), i5, none] ∧ Same H5 H6 ∧ ∀ (j : Nat) (y : List Int), j < n → (choices m i)[j]? = some y → apart R y = false)
            ⟨i5, rfl, Same.refl _, fun j y hj => absurd hj (Nat.not_lt_zero _)⟩ (fun n σ H6 _ ⟨_, _, s6, _⟩ => SqL.of (s6 _ _ hw5)) ?_ ?_⟩
          · rintro n x σ H6 hx ⟨i5', rfl, s6, hok⟩
            obtain ⟨y, hy, b, rfl, hb0, hb1⟩ := pd_get hpw hx
            have hly := choices_len m i y (List.mem_of_getElem? hy)
            have s36 : Same H3 H6 := (s4.trans s5).trans s6
            refine ⟨_, rfl, _, rfl, .ref r, .ref b, R, y, rfl, ⟨r, rs, rfl, s36 _ _ hrs3, hpr3.mono fun _ _ z => mLanesR _ _ _ _ s36 z⟩, ⟨b, _, rfl, s6 _ _ hb1, ints_of y⟩, hR5, fun L hL => by have := (hRL L hL).1; omega, by omega, fun H7 s7 => ⟨_, rfl, ?_⟩⟩
            cases c : apart R y with
            | true =>
              refine iteY rfl ⟨_, rfl, ?_⟩
              refine q H7 b (sH3.trans (s36.trans s7)) ((sH3.trans s4).free hb0) ?_
              have e2 : answerAt R m i = some y := find_at _ _ n y hy c hok
              have e3 : answer R m = _ := congrArg (fun o => Option.getD o []) (range_at (answerAt R m) e2 hno R.length hi)
              rw [e3]
              exact s7 _ _ (s6 _ _ hb1)
            | false =>
              refine iteN rfl ⟨_, rfl, s6.trans s7, fun j z hj hz => ?_⟩
              by_cases ej : j = n
              · rw [ej, hy] at hz
                rw [← Option.some.inj hz]
                exact c
              · exact hok j z (by omega) hz
          · rintro σ H6 ⟨i5', rfl, s6, hok⟩
            rw [lw] at hok
            refine ⟨_, _, rfl, (s4.trans s5).trans s6, fun j hj => ?_⟩
            by_cases ej : j = i
            · rw [ej]
              exact find_first _ _ hok
            · exact hno j (by omega)
        · rintro σ H4 ⟨i4, i5, rfl, s4, hno⟩
          rw [Int.toNat_natCast, lr] at hno
          refine ⟨Nat.zero_le _, fun l2 hl4 => ?_⟩
          have e3 : answer R m = [] := congrArg (fun o => Option.getD o []) (range_none (answerAt R m) R.length hno)
          refine q _ l2 ((sH3.trans s4).trans (same_new hl4)) ((sH3.trans s4).free hl4) ?_
          rw [e3, upd_same]
          rfl
end Qb
set_option Elab.async false
set_option linter.all false
set_option maxRecDepth 100000
set_option maxHeartbeats 4000000
/-! # The stream of numbers, draws from it -/
namespace Qb
open PySem L2
open PySem.Spec hiding Row
open PyProof.Rows hiding St
open Qm
variable {P : Program} {w : World} {K : PySem.W.Frag} {mg : Str → Option Value} {base : Heap}
/-- the stream at st, its cells at c; b draws may still be made -/
def Strm (H : Hp) (st c : Addr) (b : Nat) : Prop := st ≠ c ∧ ∃ (ns : List Int) (d n m : Int), H st = some (.lst [.ref c, .int d, .int n, .int m]) ∧ H c = some (.lst (ns.map V.int)) ∧ 0 ≤ d ∧ 0 ≤ n ∧ n + (b : Nat) ≤ 1000000 ∧ 0 ≤ m ∧ m < 2147483647
theorem Strm.mono {H : Hp} {st c : Addr} {b b' : Nat} (h : Strm H st c b) (hb : b' ≤ b) : Strm H st c b' := by
  obtain ⟨ne, ns, d, n, m, h1, h2, h3, h4, h5, h6⟩ := h
  exact ⟨ne, ns, d, n, m, h1, h2, h3, h4, by omega, h6⟩
theorem Strm.go {H H' : Hp} {st c : Addr} {b : Nat} (h : Strm H st c b) (s : Same H H') : Strm H' st c b := by
  obtain ⟨ne, ns, d, n, m, h1, h2, r⟩ := h
  exact ⟨ne, ns, d, n, m, s _ _ h1, s _ _ h2, r⟩
/-- all but the stream stands -/
abbrev Sbut (st c : Addr) (H H' : Hp) : Prop := Same (hid [st, c] H) (hid [st, c] H')
theorem Sbut.trans' {st c : Addr} {H H1 H2 : Hp} (a : Sbut st c H H1) (b : Sbut st c H1 H2) : Sbut st c H H2 := fun x o h => b x o (a x o h)
theorem Sbut.of {st c : Addr} {H H' : Hp} (s : Same H H') : Sbut st c H H' := hid_mono s
theorem Sbut.free {st c : Addr} {H H' : Hp} {b : Nat} (s : Sbut st c H H') (h : Strm H' st c b) {p : Addr} (hp : H' p = none) : H p = none := by
  obtain ⟨_, ns, d, n, m, h1, h2, _⟩ := h
  have n1 : p ≠ st := fun z => by rw [z, h1] at hp; cases hp
  have n2 : p ≠ c := fun z => by rw [z, h2] at hp; cases hp
  have nm : p ∉ [st, c] := fun z => by
    rcases List.mem_cons.mp z with e | e
    · exact n1 e
    · exact n2 (List.mem_singleton.mp e)
  cases e : H p with
  | none => rfl
  | some o =>
    have h3 := s p o (by rw [hid_eq nm]; exact e)
    rw [hid_eq nm, hp] at h3
    cases h3
theorem Strm.fresh {H : Hp} {st c : Addr} {b : Nat} (h : Strm H st c b) {p : Addr} (hp : H p = none) : p ∉ [st, c] := by
  obtain ⟨_, ns, d, n, m, h1, h2, _⟩ := h
  intro z
  rcases List.mem_cons.mp z with e | e
  · rw [e, h1] at hp; cases hp
  · rw [List.mem_singleton.mp e, h2] at hp; cases hp
/-- a store at the stream's list or its cells -/
theorem Sbut.put {st c : Addr} {H : Hp} {p : Addr} {o : HO} (h : p ∈ [st, c]) : Sbut st c H (upd H p o) := by
  show Same (hid [st, c] H) (hid [st, c] (upd H p o))
  rw [hid_at h]
  exact Same.refl _
/-! ### _law_stream -/
theorem scStream : FnScope ["_law_script"] ["_law_script"] (defScope sStream) := ⟨rfl, rfl, rfl, by decide +kernel, rfl, by decide +kernel, by decide +kernel⟩
def spStream (K : PySem.W.Frag) : Sp := fun vs H Q _ => ∃ (a : Addr) (ns : List Int), vs = [.ref a] ∧ SqL K H a (ns.map V.int) ∧ ∀ H' st c, Same H H' → H st = none → H c = none → Strm H' st c 900000 → Q (.ref st) H'
theorem okStream (T : Txt K mg) : FnOk P w K mg base CX0 1 T.f_stream T.d_stream ["_law_script"] (spStream K) := by
  refine T.D_stream.F.ok scStream (fun vs H Q E h => ?_) (fun cdv A outer s H vs Q E hr h => ?_)
  · obtain ⟨a, ns, rfl, _⟩ := h
    rfl
  · obtain ⟨a, ns, rfl, ha, q⟩ := h
    refine ⟨_, pss_one (ps_ret (pe_lst (pa_cons (pe_callTy call_list_of (by rfl) T.z_list (by decide +kernel) (pa_cons (pv 0) pa_nil)) (pa_cons pe_int (pa_cons pe_int (pa_cons pe_int pa_nil)))))), ?_⟩
    refine ⟨_, rfl, a, _, rfl, .inl ha, fun c hc => ⟨by show 4 ≤ sizeLine; decide, fun st hst => ?_⟩⟩
    have ne : st ≠ c := fun z => by rw [z, upd_same] at hst; cases hst
    have hst0 : H st = none := by rw [upd_ne ne] at hst; exact hst
    exact q _ st c ((same_new hc).trans (same_new hst)) hst0 hc ⟨ne, ns, 0, 0, 17, upd_same, by rw [upd_ne ne.symm, upd_same], by decide, by decide, by decide, by decide, by decide⟩
/-! ### _law_draw -/
abbrev nmDraw : List Str := ["_law_stream_here", "_law_many", "_law_cell", "_law_digit", "_law_mixed_here"]
theorem scDraw : FnScope nmDraw ["_law_stream_here", "_law_many"] (defScope sDraw) := ⟨rfl, rfl, rfl, by decide +kernel, rfl, by decide +kernel, by decide +kernel⟩
def spDraw : Sp := fun vs H Q _ => ∃ (st c : Addr) (b : Nat) (many : Int), vs = [.ref st, .int many] ∧ Strm H st c (b + 1) ∧ 1 ≤ many ∧ many ≤ 1000 ∧
  ∀ H' r, Strm H' st c b → Sbut st c H H' → 0 ≤ r → r < many → Q (.int r) H'
def cellsAt (c : Addr) (H : Hp) : Nat := match H c with
  | some (.lst xs) => xs.length
  | _ => 0
theorem while_ex {c : TT} {tb : TS} {D : Ends} {σ : L2.St} {H : Hp} (Pv Ex : L2.St → Hp → Prop) (μ : L2.St → Hp → Nat) (h0 : Pv σ H)
    (mono : ∀ σ H Q Q', (∀ b H1, Q b H1 → Q' b H1) → c σ H Q → c σ H Q')
    (hs : ∀ σ H, Pv σ H → c σ H fun b H1 => if b = true then tb { D with nx := fun σ' H' => Pv σ' H' ∧ μ σ' H' < μ σ H, ct := fun σ' H' => Pv σ' H' ∧ μ σ' H' < μ σ H, bk := D.nx } σ H1 else Ex σ H1)
    (done : ∀ σ H, Ex σ H → D.nx σ H) : tWhile c tb D σ H :=
  while_by Pv μ h0 (fun σ H p => mono σ H _ _ (fun b H1 q => by
    cases b with
    | true => exact q
    | false => exact done _ _ q) (hs σ H p)) mono
/-- an item of the stream's list -/
theorem ixS {K : PySem.W.Frag} {H : Hp} {st : Addr} {xs : List V} {Q : VK} (h : H st = some (.lst xs)) (i : Int) (v : V) (e : atI xs i = some v) (k : Q v H) : rIxL K (.ref st) (.int i) H Q := ⟨st, xs, i, v, rfl, rfl, SqL.of h, e, k⟩
theorem okDraw (T : Txt K mg) : FnOk P w K mg base CX0 1 T.f_draw T.d_draw ["_law_stream_here", "_law_many"] spDraw := by
  refine T.D_draw.F.ok scDraw (fun vs H Q E h => ?_) (fun cdv A outer s H vs Q E hr h => ?_)
  · obtain ⟨st, c, b, many, rfl, _⟩ := h
    rfl
  · obtain ⟨st, c, b, many, rfl, hS, hm1, hm2, q⟩ := h
    refine ⟨_, pss_cons (ps_asg (pe_op op_add (pe_ix (show IxR _ (rIxL K) from ix_list) (pv 0) pe_int (fun _ _ => rfl)) pe_int) (pg_sub (pv 0) pe_int set_list))
      (pss_cons (ps_while PassesOwn.never (PW.pt (pw_and (pt_cmpR op_eq (pe_ix (show IxR _ (rIxL K) from ix_list) (pv 0) pe_int (fun _ _ => rfl)) pe_int (nomark _))
          (pw_and1 (pt_cmpR (op_neD hr.units) (pe_ix (show IxR _ (rIxL K) from ix_list) (pv 0) pe_int (fun _ _ => rfl)) (pe_lst pa_nil) (nomark _)))))
        (pss_cons (ps_set (i := 2) scDraw.nd rfl (.inl rfl) (pe_callB call_abs (by rfl) T.z_abs (by decide +kernel) (pa_cons (pe_bm PySem.F.plainAttrs_list PySem.F.slot_list_pop PySem.F.type_list_pop mt_popAt (pe_ix (show IxR _ (rIxL K) from ix_list) (pv 0) pe_int (fun _ _ => rfl)) (pa_cons pe_int pa_nil)) pa_nil)))
        (pss_cons (ps_asg (pe_op op_modN (pe_callTy call_int1 (by rfl) T.z_int (by decide +kernel) (pa_cons (pe_op op_add (pe_op op_add (pe_op op_mul (pe_ix (show IxR _ (rIxL K) from ix_list) (pv 0) pe_int (fun _ _ => rfl)) pe_int) (pv 2)) pe_int) pa_nil)) pe_int) (pg_sub (pv 0) pe_int set_list))
        (pss_one (ps_asg (pe_ifExp (pt_cmpR op_ge (pv 2) (pe_op op_pow pe_int pe_int) (nomark _)) (pv 2) pe_int) (pg_sub (pv 0) pe_int set_list))))))
      (pss_cons (ps_if (pt_cmpR op_gt (pe_ix (show IxR _ (rIxL K) from ix_list) (pv 0) pe_int (fun _ _ => rfl)) pe_int (nomark _))
        (pss_cons (ps_set (i := 3) scDraw.nd rfl (.inl rfl) (pe_op op_modN (pe_callTy call_int1 (by rfl) T.z_int (by decide +kernel) (pa_cons (pe_ix (show IxR _ (rIxL K) from ix_list) (pv 0) pe_int (fun _ _ => rfl)) pa_nil)) (pv 1)))
        (pss_cons (ps_asg (pe_op op_fdivN (pe_ix (show IxR _ (rIxL K) from ix_list) (pv 0) pe_int (fun _ _ => rfl)) (pv 1)) (pg_sub (pv 0) pe_int set_list))
        (pss_one (ps_ret (pv 3))))) pss_nil)
      (pss_cons (ps_set (i := 4) scDraw.nd rfl (.inl rfl) (pe_op op_modN (pe_callTy call_int1 (by rfl) T.z_int (by decide +kernel) (pa_cons (pe_op op_pow (pe_op op_add (pe_op op_add (pe_ix (show IxR _ (rIxL K) from ix_list) (pv 0) pe_int (fun _ _ => rfl)) (pe_op op_mul pe_int (pe_ix (show IxR _ (rIxL K) from ix_list) (pv 0) pe_int (fun _ _ => rfl)))) pe_int) pe_int) pa_nil)) pe_int))
      (pss_one (ps_ret (pe_op op_modN (pe_op op_modN (pe_callTy call_int1 (by rfl) T.z_int (by decide +kernel) (pa_cons (pe_op op_pow (pe_op op_add (pe_op op_add (pe_op op_mul (pv 4) pe_int) (pe_op op_mul pe_int (pe_ix (show IxR _ (rIxL K) from ix_list) (pv 0) pe_int (fun _ _ => rfl)))) pe_int) pe_int) pa_nil)) pe_int) (pv 1))))))), ?_⟩
    obtain ⟨ne, ns0, d0, n, m0, h1, h2, hd0, hn0, hnb, hm0, hmM⟩ := hS
    refine ⟨_, rfl, st, _, _, .int n, rfl, rfl, SqL.of h1, rfl, ⟨_, _, rfl, rfl, _, rfl, st, _, _, 2, rfl, rfl, h1, rfl, ?_⟩⟩
    have sb0 : Sbut st c H (upd H st (.lst [.ref c, .int d0, .int (n + 1), .int m0])) := Sbut.put (List.mem_cons_self)
    refine while_ex (fun σ H' => ∃ (r2 : Option V) (ns : List Int) (d m : Int), σ = [some (.ref st), some (.int many), r2, none, none] ∧ H' st = some (.lst [.ref c, .int d, .int (n + 1), .int m]) ∧ H' c = some (.lst (ns.map V.int)) ∧ 0 ≤ d ∧ 0 ≤ m ∧ m < 2147483647 ∧ Sbut st c H H')
      (fun σ H' => ∃ (r2 : Option V) (ns : List Int) (d m : Int), σ = [some (.ref st), some (.int many), r2, none, none] ∧ H' st = some (.lst [.ref c, .int d, .int (n + 1), .int m]) ∧ H' c = some (.lst (ns.map V.int)) ∧ 0 ≤ d ∧ 0 ≤ m ∧ m < 2147483647 ∧ Sbut st c H H') (fun _ H' => cellsAt c H')
      ⟨none, ns0, d0, m0, rfl, upd_same, by rw [upd_ne ne.symm]; exact h2, hd0, hm0, hmM, sb0⟩ ?_ ?_ ?_
    · rintro σ H' Q1 Q2 hq ⟨v1, e1, p1, xs1, i1, w1, e2, e3, e4, e5, e6, k, e7, h3⟩
      refine ⟨v1, e1, p1, xs1, i1, w1, e2, e3, e4, e5, e6, k, e7, ?_⟩
      cases k with
      | false => exact hq _ _ h3
      | true =>
        obtain ⟨v2, f1, p2, xs2, i2, w2, f2, f3, f4, f5, f6, f7⟩ := h3
        refine ⟨v2, f1, p2, xs2, i2, w2, f2, f3, f4, f5, f6, fun l hl => ?_⟩
        obtain ⟨dd, ee, g1, g2, g3, g4, k2, g5, g6⟩ := f7 l hl
        exact ⟨dd, ee, g1, g2, g3, g4, k2, g5, hq _ _ g6⟩
    · rintro σ H' ⟨r2, ns, d, m, rfl, g1, g2, hd, hm, hmx, sb⟩
      refine ⟨_, rfl, st, _, _, .int d, rfl, rfl, SqL.of g1, rfl, ⟨rfl, _, rfl, ?_⟩⟩
      by_cases hdz : d = 0
      · subst hdz
        refine iteY rfl ?_
        refine ⟨_, rfl, st, _, _, .ref c, rfl, rfl, SqL.of g1, rfl, ⟨Nat.zero_le _, fun l hl => ⟨dInts ns, dInts [], dp_ints ⟨c, _, rfl, same_new hl _ _ g2, ints_of ns⟩, dp_ints (ns := []) ⟨l, [], rfl, upd_same, .nil⟩, (ok_ints _).shaped (by decide), (ok_ints _).shaped (by decide), _, rfl, ?_⟩⟩⟩
        rw [eqv_ints]
        have sl : Same H' (upd H' l (.lst [])) := same_new hl
        have sb2 : Sbut st c H (upd H' l (.lst [])) := sb.trans' (Sbut.of sl)
        have g1' := sl _ _ g1
        have g2' := sl _ _ g2
        generalize upd H' l (.lst []) = H2 at sl sb2 g1' g2'
        cases ns with
        | nil => exact iteN rfl ⟨r2, [], 0, m, rfl, g1', g2', hd, hm, hmx, sb2⟩
        | cons x ns =>
          refine iteY (by rw [decide_eq_false (List.cons_ne_nil _ _)]; rfl) ?_
          refine sq1 (cb1 ⟨_, rfl, st, _, _, .ref c, rfl, rfl, SqL.of g1', rfl, ⟨.inl ⟨rfl, _, SqL.of g2'⟩, c, _, 0, 0, .int x, rfl, rfl, g2', by decide, by decide, ?_, rfl, x, rfl, ?_⟩⟩)
          · show seqIndex? 0 ((V.int x :: ns.map V.int).length) = some 0
            unfold seqIndex?
            simp
          have sb3 : Sbut st c H (upd H2 c (.lst (ns.map V.int))) := sb2.trans' (Sbut.put (List.mem_cons_of_mem _ List.mem_cons_self))
          have k1 : upd H2 c (.lst (ns.map V.int)) st = some (.lst [.ref c, .int 0, .int (n + 1), .int m]) := by rw [upd_ne ne]; exact g1'
          have k2 : upd H2 c (.lst (ns.map V.int)) c = some (.lst (ns.map V.int)) := upd_same
          have hv : 0 ≤ (if x < 0 then -x else x) := by split <;> omega
          dsimp only
          rw [show (List.map V.int (x :: ns)).eraseIdx 0 = ns.map V.int from rfl]
          generalize (if x < 0 then -x else x) = v at hv
          generalize upd H2 c (.lst (ns.map V.int)) = H3 at sb3 k1 k2
          refine ⟨_, rfl, st, _, _, .int m, rfl, rfl, SqL.of k1, rfl, ⟨_, _, rfl, rfl, .inr (by show -(2 ^ 64) < (8191 : Int) ∧ (8191 : Int) < 2 ^ 64; decide), _, rfl, _, _, rfl, rfl, _, _, rfl, rfl, .inl ⟨_, rfl, _, _, rfl, rfl, (show (2147483647 : Int) ≠ 0 by decide), _, rfl, st, _, _, 3, rfl, rfl, k1, rfl, ?_⟩⟩⟩
          have f1 := Int.fmod_nonneg_of_pos (m * 8191 + v + 3) (show (0 : Int) < 2147483647 by decide)
          have f2 := Int.fmod_lt_of_pos (m * 8191 + v + 3) (show (0 : Int) < 2147483647 by decide)
          dsimp only
          rw [show [V.ref c, V.int 0, V.int (n + 1), V.int m].set 3 (V.int ((m * 8191 + v + 3).fmod 2147483647)) = [V.ref c, V.int 0, V.int (n + 1), V.int ((m * 8191 + v + 3).fmod 2147483647)] from rfl]
          generalize (m * 8191 + v + 3).fmod 2147483647 = m2 at f1 f2
          have sb4 : Sbut st c H (upd H3 st (.lst [.ref c, .int 0, .int (n + 1), .int m2])) := sb3.trans' (Sbut.put List.mem_cons_self)
          have j1 : upd H3 st (.lst [.ref c, .int 0, .int (n + 1), .int m2]) st = some (.lst [.ref c, .int 0, .int (n + 1), .int m2]) := upd_same
          have j2 : upd H3 st (.lst [.ref c, .int 0, .int (n + 1), .int m2]) c = some (.lst (ns.map V.int)) := by rw [upd_ne ne.symm]; exact k2
          generalize upd H3 st (.lst [.ref c, .int 0, .int (n + 1), .int m2]) = H4 at sb4 j1 j2
          have fin : ∀ d2 : Int, 0 ≤ d2 → (∃ (r2 : Option V) (ns' : List Int) (d m : Int), [some (V.ref st), some (V.int many), some (V.int v), none, none] = [some (V.ref st), some (V.int many), r2, none, none] ∧ (upd H4 st (.lst [.ref c, .int d2, .int (n + 1), .int m2])) st = some (.lst [.ref c, .int d, .int (n + 1), .int m]) ∧ (upd H4 st (.lst [.ref c, .int d2, .int (n + 1), .int m2])) c = some (.lst (ns'.map V.int)) ∧ 0 ≤ d ∧ 0 ≤ m ∧ m < 2147483647 ∧ Sbut st c H (upd H4 st (.lst [.ref c, .int d2, .int (n + 1), .int m2]))) ∧
              cellsAt c (upd H4 st (.lst [.ref c, .int d2, .int (n + 1), .int m2])) < cellsAt c H' := fun d2 hd2 => by
            have j3 : upd H4 st (.lst [.ref c, .int d2, .int (n + 1), .int m2]) c = some (.lst (ns.map V.int)) := by rw [upd_ne ne.symm]; exact j2
            refine ⟨⟨_, ns, d2, m2, rfl, upd_same, j3, hd2, f1, f2, sb4.trans' (Sbut.put List.mem_cons_self)⟩, ?_⟩
            unfold cellsAt
            rw [j3, g2]
            show (ns.map V.int).length < ((x :: ns).map V.int).length
            rw [List.length_map, List.length_map]
            exact Nat.lt_succ_self _
          refine ⟨_, rfl, _, _, rfl, rfl, ⟨by decide, by decide, by decide⟩, _, _, rfl, rfl, _, rfl, ?_⟩
          by_cases hc : v ≥ 10 ^ (18 : Int).toNat
          · exact iteY (decide_eq_true hc) ⟨_, rfl, _, rfl, st, _, _, 1, rfl, rfl, j1, rfl, fin v hv⟩
          · exact iteN (decide_eq_false hc) ⟨_, rfl, st, _, _, 1, rfl, rfl, j1, rfl, fin 0 (Int.le_refl _)⟩
      · exact iteN (decide_eq_false fun z => hdz (V.int.inj z)) ⟨r2, ns, d, m, rfl, g1, g2, hd, hm, hmx, sb⟩
    · rintro σ H' ⟨r2, ns, d, m, rfl, g1, g2, hd, hm, hmx, sb⟩
      have hmp : (0 : Int) < many := by omega
      have hmn : many ≠ 0 := by omega
      dsimp only
      refine ⟨_, rfl, st, _, _, .int d, rfl, rfl, SqL.of g1, rfl, ⟨_, _, rfl, rfl, _, rfl, ?_⟩⟩
      by_cases hdp : d > 0
      · refine iteY (decide_eq_true hdp) ?_
        refine ⟨_, rfl, st, _, _, .int d, rfl, rfl, SqL.of g1, rfl, (.inl ⟨_, rfl, _, rfl, _, _, rfl, rfl, hmn, ?_⟩)⟩
        refine ⟨_, rfl, st, _, _, .int d, rfl, rfl, SqL.of g1, rfl, ⟨_, rfl, _, _, rfl, rfl, ⟨hmn, by omega⟩, _, rfl, st, _, _, 1, rfl, rfl, g1, rfl, ?_⟩⟩
        refine ⟨_, rfl, q _ _ ⟨ne, ns, d.fdiv many, n + 1, m, upd_same, by rw [upd_ne ne.symm]; exact g2, Int.fdiv_nonneg hd (by omega), by omega, by omega, hm, hmx⟩ (sb.trans' (Sbut.put List.mem_cons_self)) (Int.fmod_nonneg_of_pos _ hmp) (Int.fmod_lt_of_pos _ hmp)⟩
      · refine iteN (decide_eq_false hdp) ?_
        have hb7 : -(2 ^ 64) < (7919 : Int) ∧ (7919 : Int) < 2 ^ 64 := by decide
        have hb3 : -(2 ^ 64) < (30011 : Int) ∧ (30011 : Int) < 2 ^ 64 := by decide
        have hb4 : -(2 ^ 64) < (48271 : Int) ∧ (48271 : Int) < 2 ^ 64 := by decide
        refine ⟨_, rfl, st, _, _, .int m, rfl, rfl, SqL.of g1, rfl, ⟨_, rfl, st, _, _, .int (n + 1), rfl, rfl, SqL.of g1, rfl, ⟨_, _, rfl, rfl, .inl hb7, _, _, rfl, rfl, _, _, rfl, rfl, _, _, rfl, rfl, ⟨by decide, by decide, by omega⟩, .inl ⟨_, rfl, _, _, rfl, rfl, (show (2147483629 : Int) ≠ 0 by decide), ?_⟩⟩⟩⟩
        have f1 := Int.fmod_nonneg_of_pos ((m + 7919 * (n + 1) + 104729) ^ (5 : Int).toNat) (show (0 : Int) < 2147483629 by decide)
        have f2 := Int.fmod_lt_of_pos ((m + 7919 * (n + 1) + 104729) ^ (5 : Int).toNat) (show (0 : Int) < 2147483629 by decide)
        dsimp only
        generalize ((m + 7919 * (n + 1) + 104729) ^ (5 : Int).toNat).fmod 2147483629 = mx at f1 f2
        refine ⟨_, rfl, _, _, rfl, rfl, .inr hb4, _, rfl, st, _, _, .int (n + 1), rfl, rfl, SqL.of g1, rfl, ⟨_, _, rfl, rfl, .inl hb3, _, _, rfl, rfl, _, _, rfl, rfl, _, _, rfl, rfl, ⟨by decide, by decide, by omega⟩, .inl ⟨_, rfl, _, _, rfl, rfl, (show (1000000007 : Int) ≠ 0 by decide), _, rfl, _, _, rfl, rfl, hmn, ?_⟩⟩⟩
        exact q _ _ ⟨ne, ns, d, n + 1, m, g1, g2, hd, by omega, by omega, hm, hmx⟩ sb (Int.fmod_nonneg_of_pos _ hmp) (Int.fmod_lt_of_pos _ hmp)
end Qb
set_option Elab.async false
set_option linter.all false
set_option maxRecDepth 100000
set_option maxHeartbeats 4000000
/-! # _law_mixed, _law_small_bundle -/
namespace Qb
open PySem L2
open PySem.Spec hiding Row
open PyProof.Rows hiding St
open Qm
variable {P : Program} {w : World} {K : PySem.W.Frag} {mg : Str → Option Value} {base : Heap}
theorem pd_perm {α β : Type} {F : α → β → Prop} {ys xs : List α} (h : ys.Perm xs) : ∀ {l : List β}, Paired F xs l → ∃ l' : List β, l'.Perm l ∧ Paired F ys l' := by
  induction h with
  | nil => exact fun {l} p => ⟨l, .refl _, p⟩
  | cons x _ ih =>
    intro l p
    cases p with
    | cons a t =>
      obtain ⟨l', h1, h2⟩ := ih t
      exact ⟨_ :: l', h1.cons _, .cons a h2⟩
  | swap x y l0 =>
    intro l p
    cases p with
    | cons a t =>
      cases t with
      | cons b t => exact ⟨_, .swap _ _ _, .cons b (.cons a t)⟩
  | trans _ _ ih1 ih2 =>
    intro l p
    obtain ⟨l1, h1, p1⟩ := ih2 p
    obtain ⟨l2, h2, p2⟩ := ih1 p1
    exact ⟨l2, h2.trans h1, p2⟩
theorem Sbut.new {st c : Addr} {H H' : Hp} {p : Addr} {o : HO} (s : Sbut st c H H') (h : H p = none) : Sbut st c H (upd H' p o) := fun b x e => by
  obtain ⟨n, e'⟩ := hid_some e
  have h1 := s b x e
  rw [hid_eq n] at h1 ⊢
  rw [upd_ne (ne_of_none e' h)]
  exact h1
theorem Sbut.at {st c : Addr} {H H' : Hp} (s : Sbut st c H H') {p : Addr} {o : HO} (h : H p = some o) (n : p ∉ [st, c]) : H' p = some o := by
  have h1 := s p o (by rw [hid_eq n]; exact h)
  rw [hid_eq n] at h1
  exact h1
theorem Sbut.sq {st c : Addr} {H H' : Hp} (s : Sbut st c H H') {a : Addr} {xs : List V} (h : Sq (hid [st, c] H) a xs) : Sq (hid [st, c] H') a xs := h.go s
theorem strm_upd {H : Hp} {st c p : Addr} {b : Nat} {o : HO} (h : Strm H st c b) (n : p ∉ [st, c]) : Strm (upd H p o) st c b := by
  obtain ⟨ne, ns, d, m, k, h1, h2, r⟩ := h
  refine ⟨ne, ns, d, m, k, ?_, ?_, r⟩
  · rw [upd_ne (fun e => n (by rw [← e]; exact List.mem_cons_self))]; exact h1
  · rw [upd_ne (fun e => n (by rw [← e]; exact List.mem_cons_of_mem _ List.mem_cons_self))]; exact h2
theorem seqIdx {r : Int} {n : Nat} (h0 : 0 ≤ r) (h1 : r < n) : seqIndex? r n = some r.toNat := by
  unfold seqIndex?
  split <;> first | omega | skip
  all_goals simp_all
theorem erase_perm {α : Type} : ∀ (l : List α) (i : Nat) (h : i < l.length), (l[i] :: l.eraseIdx i).Perm l
  | [], i, h => absurd h (Nat.not_lt_zero _)
  | x :: l, 0, h => .refl _
  | x :: l, i + 1, h => (List.Perm.swap _ _ _).trans ((erase_perm l i (by simpa using h)).cons x)
/-! ### _law_mixed -/
abbrev nmMixed : List Str := ["_law_stream_here", "_law_things", "_law_left", "_law_found", "_law_k"]
theorem scMixed : FnScope nmMixed ["_law_stream_here", "_law_things"] (defScope sMixed) := ⟨rfl, rfl, rfl, by decide +kernel, rfl, by decide +kernel, by decide +kernel⟩
def spMixed : Sp := fun vs H Q _ => ∃ (st c a : Addr) (b : Nat) (xs : List V), vs = [.ref st, .ref a] ∧ Strm H st c (b + xs.length) ∧ Sq (hid [st, c] H) a xs ∧ xs.length ≤ 100 ∧
  ∀ H' p ys, ys.Perm xs → Strm H' st c b → Sbut st c H H' → H p = none → H' p = some (.lst ys) → Q (.ref p) H'
theorem okMixed (T : Txt K mg) : FnOk P w K mg base CX0 2 T.f_mixed T.d_mixed ["_law_stream_here", "_law_things"] spMixed := by
  refine T.D_mixed.F.ok scMixed (fun vs H Q E h => ?_) (fun cdv A outer s H vs Q E hr h => ?_)
  · obtain ⟨st, c, a, b, xs, rfl, _⟩ := h
    rfl
  · obtain ⟨st, c, a, b, xs, rfl, hS, ha, hl, q⟩ := h
    refine ⟨_, pss_cons (ps_par (i := 2) (j := 3) rfl scMixed.nd rfl rfl (by decide) rfl rfl (pa_cons (pe_callTy call_list_of (by rfl) T.z_list (by decide +kernel) (pa_cons (pv 1) pa_nil)) (pa_cons (pe_lst pa_nil) pa_nil)) (by rfl))
      (pss_cons (ps_for PassesOwn.never rfl (pi_range1 (by rfl) T.z_range (pa_cons (pe_callB call_len_seq (by rfl) T.z_len PySem.boot_len (pa_cons (pv 2) pa_nil)) pa_nil)) (pg_name (i := 4) scMixed.nd rfl (.inl rfl))
        (pss_one (ps_expr (pe_bm PySem.F.plainAttrs_list PySem.F.slot_list_append PySem.F.type_list_append mt_append (pv 3) (pa_cons (pe_bm PySem.F.plainAttrs_list PySem.F.slot_list_pop PySem.F.type_list_pop mt_popAt (pv 2)
          (pa_cons (pe_df (okDraw T) T.D_draw hr rfl (pa_cons (pv 0) (pa_cons (pe_callB call_len_seq (by rfl) T.z_len PySem.boot_len (pa_cons (pv 2) pa_nil)) pa_nil))) pa_nil)) pa_nil)))))
      (pss_one (ps_ret (pv 3)))), ?_⟩
    have ha' : Sq H a xs := ha.go (hid_sub _ _)
    refine ⟨_, rfl, a, xs, rfl, ha'.any, fun l hl0 => ⟨Nat.zero_le _, fun f hf0 => ⟨_, _, rfl, ?_⟩⟩⟩
    have nlf : f ≠ l := fun z => by rw [z, upd_same] at hf0; cases hf0
    have hfH : H f = none := by rw [upd_ne nlf] at hf0; exact hf0
    have nl := hS.fresh hl0
    have nf := hS.fresh hfH
    refine ⟨_, rfl, l, xs, rfl, .inl (SqL.of (by rw [upd_ne nlf.symm, upd_same])), _, rfl, by omega, by omega, for_range (lo := 0) (n := ((xs.length : Nat) : Int).toNat)
      (fun i σ H' => ∃ r4 lf fd, σ = [some (.ref st), some (.ref a), some (.ref l), some (.ref f), r4] ∧ H' l = some (.lst lf) ∧ H' f = some (.lst fd) ∧ (fd ++ lf).Perm xs ∧ lf.length + i = xs.length ∧ Strm H' st c (b + lf.length) ∧ Sbut st c H H')
      ⟨none, xs, [], rfl, by rw [upd_ne nlf.symm, upd_same], upd_same, .refl _, rfl, strm_upd (strm_upd hS nl) nf, ((Sbut.of (Same.refl H)).new hl0).new hfH⟩ ?_ ?_⟩
    · rintro i σ H' hi ⟨r4, lf, fd, rfl, h1, h2, pm, hlen, hS', sb⟩
      rw [Int.toNat_natCast] at hi
      have hlf : 1 ≤ lf.length := by omega
      obtain ⟨k, hk⟩ : ∃ k, lf.length = k + 1 := ⟨lf.length - 1, by omega⟩
      refine ⟨_, rfl, .inl ⟨rfl, _, SqL.of h2⟩, _, rfl, .inl ⟨rfl, _, SqL.of h1⟩, ?_⟩
      refine ⟨_, rfl, _, rfl, l, lf, rfl, .inl (SqL.of h1), st, c, b + k, (lf.length : Nat), rfl, by rw [hk] at hS'; exact hS', by omega, by omega, fun H2 r hS2 sb2 r0 r1 => ?_⟩
      have g1 := sb2.at h1 nl
      have g2 := sb2.at h2 nf
      have hj : r.toNat < lf.length := by omega
      refine ⟨l, lf, r, r.toNat, lf[r.toNat], rfl, rfl, g1, by omega, by omega, seqIdx r0 r1, List.getElem?_eq_getElem hj, ?_⟩
      have nfl : f ≠ l := nlf
      have fdl : fd.length ≤ 100 := by
        have := pm.length_eq
        rw [List.length_append] at this
        omega
      refine ⟨f, fd, _, rfl, rfl, by rw [upd_ne nfl]; exact g2, small1000 (by omega), ?_⟩
      refine ⟨_, lf.eraseIdx r.toNat, fd ++ [lf[r.toNat]], rfl, by rw [upd_ne nfl.symm, upd_same], upd_same, ?_, ?_, ?_, ?_⟩
      · rw [List.append_assoc]
        exact (List.Perm.append_left fd (erase_perm lf _ hj)).trans pm
      · rw [List.length_eraseIdx_of_lt hj]
        omega
      · rw [List.length_eraseIdx_of_lt hj, hk]
        exact strm_upd (strm_upd hS2 nl) nf
      · exact ((sb.trans' sb2).new hl0).new hfH
    · rintro σ H' ⟨r4, lf, fd, rfl, h1, h2, pm, hlen, hS', sb⟩
      rw [Int.toNat_natCast] at hlen
      have e : lf = [] := List.eq_nil_of_length_eq_zero (by omega)
      subst e
      rw [List.append_nil] at pm
      exact ⟨_, rfl, q H' f fd pm hS' sb hfH h2⟩
end Qb
set_option Elab.async false
set_option linter.all false
set_option maxRecDepth 100000
set_option maxHeartbeats 4000000
/-! # _law_small_bundle -/
namespace Qb
open PySem L2
open PySem.Spec hiding Row
open PyProof.Rows hiding St
open Qm
variable {P : Program} {w : World} {K : PySem.W.Frag} {mg : Str → Option Value} {base : Heap}
abbrev RowL := LstR TpR
abbrev BunL := LstR RowL
abbrev BunsL := LstR BunL
theorem mRowL : Mono RowL := mLstR mTpR
theorem mBunL : Mono BunL := mLstR mRowL
theorem mBunsL : Mono BunsL := mLstR mBunL
/-- a row of the law's: few roads, short, all above 0 -/
def NiceR (row : Row) : Prop := row ≠ [] ∧ row.length ≤ 4 ∧ rowLen row ≤ 100 ∧ ∀ q ∈ row, 1 ≤ q.1 ∧ 1 ≤ q.2
/-- no room above B -/
def LowR (B : Int) (row : Row) : Prop := ∀ q ∈ row, q.2 ≤ B
def Low (B : Int) (b : Bun) : Prop := ∀ row ∈ b, LowR B row
def sumRoom (b : Bun) : Int := (b.map rowRoom).sum
structure Nice (n : Nat) (b : Bun) : Prop where
  ne : b ≠ []
  len : b.length ≤ n
  rows : ∀ row ∈ b, NiceR row
  room : sumRoom b ≤ 9
/-- a list on its way while the stream is drawn from -/
def MapS {β : Type} (st c : Addr) (R' : DR β) (H : Hp) (D : Addr) (out : List β) (H' : Hp) : Prop := ∃ acc, H' D = some (.lst acc) ∧ Same (hid [st, c] H) (hid [D, st, c] H') ∧ Paired (R' (hid [D, st, c] H')) acc out
theorem hid2 {L : List Addr} {D : Addr} {H : Hp} : Same (hid (D :: L) H) (hid L H) := hid_drop fun b hb => List.mem_cons_of_mem _ hb
theorem MapS.start {β : Type} {st c : Addr} {R' : DR β} {H : Hp} {D : Addr} (h : H D = none) : MapS st c R' H D [] (upd H D (.lst [])) := by
  refine ⟨[], upd_same, ?_, .nil⟩
  rw [hid_at (List.mem_cons_self)]
  intro b o e
  obtain ⟨n, e'⟩ := hid_some e
  rw [hid_eq fun z => ?_]
  · exact e'
  · rcases List.mem_cons.mp z with z | z
    · rw [z, h] at e'; cases e'
    · exact n z
theorem MapS.keep {β : Type} {st c : Addr} {R' : DR β} {H : Hp} {D : Addr} {out : List β} {H' H2 : Hp} (m : Mono R') (n : D ∉ [st, c]) (h : MapS st c R' H D out H') (s : Sbut st c H' H2) : MapS st c R' H D out H2 := by
  obtain ⟨acc, e, s0, p⟩ := h
  have s1 : Same (hid [D, st, c] H') (hid [D, st, c] H2) := hid_more s fun b hb => List.mem_cons_of_mem _ hb
  exact ⟨acc, s.at e n, s0.trans s1, p.mono fun _ _ q => m _ _ _ _ s1 q⟩
theorem MapS.add {β : Type} {st c : Addr} {R' : DR β} {H : Hp} {D : Addr} {out : List β} {H2 : Hp} {v : V} {z : β} (h : MapS st c R' H D out H2) (r : R' (hid [D, st, c] H2) v z) :
    ∃ acc, H2 D = some (.lst acc) ∧ acc.length = out.length ∧ MapS st c R' H D (out ++ [z]) (upd H2 D (.lst (acc ++ [v]))) := by
  obtain ⟨acc, e, s0, p⟩ := h
  refine ⟨acc, e, p.length, _, upd_same, ?_, ?_⟩
  · rw [hid_at List.mem_cons_self]; exact s0
  · rw [hid_at List.mem_cons_self]; exact p.snoc r
theorem MapS.out {β : Type} {st c : Addr} {R' : DR β} {H : Hp} {D : Addr} {out : List β} {H' : Hp} (m : Mono R') (n : D ∉ [st, c]) (h : MapS st c R' H D out H') : Sbut st c H H' ∧ LstR R' (hid [st, c] H') (.ref D) out := by
  obtain ⟨acc, e, s0, p⟩ := h
  exact ⟨s0.trans hid2, D, acc, rfl, by rw [hid_eq n]; exact e, p.mono fun _ _ q => m _ _ _ _ hid2 q⟩
theorem MapS.at {β : Type} {st c : Addr} {R' : DR β} {H : Hp} {D : Addr} {out : List β} {H' : Hp} (h : MapS st c R' H D out H') : ∃ acc, H' D = some (.lst acc) ∧ acc.length = out.length := by
  obtain ⟨acc, e, _, p⟩ := h
  exact ⟨acc, e, p.length⟩
/-- what has come is not among what is left out -/
theorem fresh3 {H : Hp} {st c D p : Addr} {b : Nat} {acc : List V} (hS : Strm H st c b) (hD : H D = some (.lst acc)) (hp : H p = none) : p ∉ [D, st, c] := fun z => by
  rcases List.mem_cons.mp z with e | e
  · rw [e, hD] at hp; cases hp
  · exact hS.fresh hp e
/-! ### _law_small_bundle -/
abbrev nmSmall : List Str := ["_law_stream_here", "_law_most", "_law_found", "_law_left", "_law_k", "_law_room_here"]
theorem scSmall : FnScope nmSmall ["_law_stream_here", "_law_most"] (defScope sSmall) := ⟨rfl, rfl, rfl, by decide +kernel, rfl, by decide +kernel, by decide +kernel⟩
def spSmall : Sp := fun vs H Q _ => ∃ (st c : Addr) (b : Nat), vs = [.ref st, .int 9] ∧ Strm H st c (b + 20) ∧
  ∀ H' p bu, Strm H' st c b → Sbut st c H H' → H p = none → BunL (hid [st, c] H') (.ref p) bu → Nice 3 bu → Low 5 bu → Q (.ref p) H'
theorem row2_room (l1 l2 r d : Int) (hd : 0 ≤ d) : rowRoom [(l1, r + d), (l2, r)] = r := by
  refine minL_eq ⟨List.mem_cons_of_mem _ (List.mem_cons_self), fun x hx => ?_⟩
  rcases List.mem_cons.mp hx with e | e
  · subst e; show r ≤ r + d; omega
  · rw [List.mem_singleton.mp e]; exact Int.le_refl _
theorem okSmall (T : Txt K mg) : FnOk P w K mg base CX0 2 T.f_small T.d_small ["_law_stream_here", "_law_most"] spSmall := by
  refine T.D_small.F.ok scSmall (fun vs H Q E h => ?_) (fun cdv A outer s H vs Q E hr h => ?_)
  · obtain ⟨st, c, b, rfl, _⟩ := h
    rfl
  · obtain ⟨st, c, b, rfl, hS, q⟩ := h
    refine ⟨_, pss_cons (ps_par (i := 2) (j := 3) rfl scSmall.nd rfl rfl (by decide) rfl rfl (pa_cons (pe_lst pa_nil) (pa_cons (pv 1) pa_nil)) (by rfl))
      (pss_cons (ps_for PassesOwn.never rfl (pi_range1 (by rfl) T.z_range (pa_cons (pe_op op_add pe_int (pe_df (okDraw T) T.D_draw hr rfl (pa_cons (pv 0) (pa_cons pe_int pa_nil)))) pa_nil)) (pg_name (i := 4) scSmall.nd rfl (.inl rfl))
        (pss_cons (ps_set (i := 5) scSmall.nd rfl (.inl rfl) (pe_op op_add pe_int (pe_df (okDraw T) T.D_draw hr rfl (pa_cons (pv 0) (pa_cons pe_int pa_nil)))))
        (pss_one (ps_if (pt_cmpR op_le (pv 5) (pv 3) (nomark _))
          (pss_cons (ps_expr (pe_bm PySem.F.plainAttrs_list PySem.F.slot_list_append PySem.F.type_list_append mt_append (pv 2) (pa_cons
            (pe_lst (pa_cons (pe_tup (pa_cons (pe_op op_add pe_int (pe_df (okDraw T) T.D_draw hr rfl (pa_cons (pv 0) (pa_cons pe_int pa_nil)))) (pa_cons (pe_op op_add (pv 5) (pe_df (okDraw T) T.D_draw hr rfl (pa_cons (pv 0) (pa_cons pe_int pa_nil)))) pa_nil)))
              (pa_cons (pe_tup (pa_cons (pe_op op_add pe_int (pe_df (okDraw T) T.D_draw hr rfl (pa_cons (pv 0) (pa_cons pe_int pa_nil)))) (pa_cons (pv 5) pa_nil))) pa_nil))) pa_nil)))
          (pss_one (ps_set (i := 3) scSmall.nd rfl (.inl rfl) (pe_op op_sub (pv 3) (pv 5))))) pss_nil))))
      (pss_one (ps_ret (pv 2)))), ?_⟩
    refine ⟨Nat.zero_le _, fun f hf0 => ⟨_, rfl, _, _, rfl, ?_⟩⟩
    have nf := hS.fresh hf0
    refine ⟨_, rfl, st, c, b + 19, 3, rfl, strm_upd hS nf, by decide, by decide, fun H1 r hS1 sb1 r0 r3 => ⟨_, _, rfl, rfl, _, rfl, by omega, by omega, ?_⟩⟩
    have ms1 : MapS st c RowL H f [] H1 := (MapS.start hf0).keep mRowL nf sb1
    refine for_range (lo := 0) (n := (1 + r).toNat) (fun i σ H' => ∃ (r4 r5 : Option V) (left : Int) (rows : Bun), σ = [some (.ref st), some (.int 9), some (.ref f), some (.int left), r4, r5] ∧ MapS st c RowL H f rows H' ∧ Strm H' st c (b + 19 - 4 * i) ∧ rows.length ≤ i ∧ i ≤ 3 ∧ (i = 0 → left = 9) ∧ (1 ≤ i → rows ≠ []) ∧ 0 ≤ left ∧ sumRoom rows + left = 9 ∧ ∀ row ∈ rows, NiceR row ∧ LowR 5 row)
      ⟨none, none, 9, [], rfl, ms1, hS1, Nat.le_refl _, by omega, fun _ => rfl, fun h => absurd h (by decide), by decide, rfl, fun _ h => (by cases h)⟩ ?_ ?_
    · rintro i σ H2 hi ⟨r4, r5, left, rows, rfl, ms, hS2, hl, hi3, hz, hne, hl0, hsum, hnice⟩
      have hi2 : i ≤ 2 := by omega
      refine ⟨_, rfl, st, c, b + 19 - 4 * i - 1, 3, rfl, hS2.mono (by omega), by decide, by decide, fun H3 d1 hS3 sb3 d10 d13 => ⟨_, _, rfl, rfl, ?_⟩⟩
      have ms3 := ms.keep mRowL nf sb3
      refine ⟨_, rfl, _, rfl, _, _, rfl, rfl, _, rfl, ?_⟩
      by_cases hle : 1 + d1 ≤ left
      · refine iteY (decide_eq_true hle) ?_
        obtain ⟨acc3, hacc3, _⟩ := ms3.at
        refine ⟨_, rfl, .inl ⟨rfl, _, SqL.of hacc3⟩, ?_⟩
        refine ⟨_, rfl, st, c, b + 19 - 4 * i - 2, 3, rfl, hS3.mono (by omega), by decide, by decide, fun H4 d2 hS4 sb4 d20 d23 => ⟨_, _, rfl, rfl, ?_⟩⟩
        refine ⟨_, rfl, _, rfl, st, c, b + 19 - 4 * i - 3, 3, rfl, hS4.mono (by omega), by decide, by decide, fun H5 d3 hS5 sb5 d30 d33 => ⟨_, _, rfl, rfl, ?_⟩⟩
        refine ⟨by show 2 ≤ sizeLine; decide, fun t1 ht1 => ?_⟩
        have ms5 := (ms3.keep mRowL nf sb4).keep mRowL nf sb5
        obtain ⟨acc5, hacc5, _⟩ := ms5.at
        have n1 := fresh3 hS5 hacc5 ht1
        have nt1 := hS5.fresh ht1
        refine ⟨_, rfl, st, c, b + 19 - 4 * i - 4, 2, rfl, strm_upd (hS5.mono (by omega)) nt1, by decide, by decide, fun H6 d4 hS6 sb6 d40 d42 => ⟨_, _, rfl, rfl, ?_⟩⟩
        have sb56 : Sbut st c H5 H6 := (Sbut.of (same_new ht1)).trans' sb6
        have ht1' := sb6.at (upd_same (H := H5) (a := t1)) nt1
        refine ⟨_, rfl, by show 2 ≤ sizeLine; decide, fun t2 ht2 => ⟨by show 2 ≤ sizeLine; decide, fun p hp => ?_⟩⟩
        have ms6 := ms5.keep mRowL nf sb56
        obtain ⟨acc6, hacc6, _⟩ := ms6.at
        have n2 := fresh3 hS6 hacc6 ht2
        have n12 : t1 ≠ t2 := fun z => by rw [← z, ht1'] at ht2; cases ht2
        have hS7 := strm_upd hS6 (hS6.fresh ht2) (o := .tup [.int (1 + d4), .int (1 + d1)])
        have hacc7 : upd H6 t2 (.tup [.int (1 + d4), .int (1 + d1)]) f = some (.lst acc6) := by rw [upd_ne (fun z => n2 (by rw [z]; exact List.mem_cons_self))]; exact hacc6
        have np := fresh3 hS7 hacc7 hp
        have np2 : t2 ≠ p := fun z => by rw [← z, upd_same] at hp; cases hp
        have np1 : t1 ≠ p := fun z => by rw [← z, upd_ne n12, ht1'] at hp; cases hp
        have sb68 : Sbut st c H6 (upd (upd H6 t2 (.tup [.int (1 + d4), .int (1 + d1)])) p (.lst [.ref t1, .ref t2])) := Sbut.of ((same_new ht2).trans (same_new hp))
        have ms8 := ms6.keep mRowL nf sb68
        have hR : RowL (hid [f, st, c] (upd (upd H6 t2 (.tup [.int (1 + d4), .int (1 + d1)])) p (.lst [.ref t1, .ref t2]))) (.ref p) [(1 + d2, 1 + d1 + d3), (1 + d4, 1 + d1)] := by
          refine ⟨p, _, rfl, by rw [hid_eq np, upd_same], .cons ⟨t1, rfl, ?_⟩ (.cons ⟨t2, rfl, ?_⟩ .nil)⟩
          · rw [hid_eq n1, upd_ne np1, upd_ne n12]; exact ht1'
          · rw [hid_eq n2, upd_ne np2, upd_same]
        obtain ⟨acc8, hacc8, hl8, ms9⟩ := ms8.add hR
        refine ⟨f, acc8, _, rfl, rfl, hacc8, by rw [hl8]; exact small1000 (by omega), ?_⟩
        refine ⟨_, rfl, _, rfl, _, _, rfl, rfl, ?_⟩
        refine ⟨_, _, left - (1 + d1), rows ++ [[(1 + d2, 1 + d1 + d3), (1 + d4, 1 + d1)]], rfl, ms9, strm_upd ((strm_upd hS7 (hS7.fresh hp)).mono (by omega)) nf, by rw [List.length_append]; show rows.length + 1 ≤ i + 1; omega, by omega, fun h => absurd h (Nat.succ_ne_zero _), fun _ z => by simp at z, by omega, ?_, fun row hrow => ?_⟩
        · unfold sumRoom at hsum ⊢
          rw [List.map_append, List.sum_append, List.map_cons, row2_room _ _ _ _ d30]
          show _ + (1 + d1 + 0) + _ = (9 : Int)
          omega
        · rcases List.mem_append.mp hrow with z | z
          · exact hnice row z
          · rw [List.mem_singleton.mp z]
            refine ⟨⟨List.cons_ne_nil _ _, by show 2 ≤ 4; decide, ?_, fun q hq => ?_⟩, fun q hq => ?_⟩
            · show (1 + d2) + ((1 + d4) + 0) ≤ 100
              omega
            · rcases List.mem_cons.mp hq with e | e
              · subst e; exact ⟨by show 1 ≤ 1 + d2; omega, by show 1 ≤ 1 + d1 + d3; omega⟩
              · rw [List.mem_singleton.mp e]; exact ⟨by show 1 ≤ 1 + d4; omega, by show 1 ≤ 1 + d1; omega⟩
            · rcases List.mem_cons.mp hq with e | e
              · subst e; show 1 + d1 + d3 ≤ 5; omega
              · rw [List.mem_singleton.mp e]; show 1 + d1 ≤ 5; omega
      · refine iteN (decide_eq_false hle) ⟨_, _, left, rows, rfl, ms3, hS3.mono (by omega), by omega, by omega, fun h => absurd h (Nat.succ_ne_zero _), fun _ => ?_, hl0, hsum, hnice⟩
        by_cases h0 : i = 0
        · have := hz h0; omega
        · exact hne (by omega)
    · rintro σ H2 ⟨r4, r5, left, rows, rfl, ms, hS2, hl, hi3, hz, hne, hl0, hsum, hnice⟩
      obtain ⟨sb, hB⟩ := ms.out mRowL nf
      exact ⟨_, rfl, q H2 f rows (hS2.mono (by omega)) sb hf0 hB ⟨hne (by omega), by omega, fun row hr => (hnice row hr).1, by omega⟩ fun row hr => (hnice row hr).2⟩
end Qb
set_option Elab.async false
set_option linter.all false
set_option maxRecDepth 100000
set_option maxHeartbeats 4000000
/-! # _law_other_form -/
namespace Qb
open PySem L2
open PySem.Spec hiding Row
open PyProof.Rows hiding St
open Qm
variable {P : Program} {w : World} {K : PySem.W.Frag} {mg : Str → Option Value} {base : Heap}
/-! ### the mathematics -/
theorem sum_permI {l l' : List Int} (h : l.Perm l') : l.sum = l'.sum := by
  induction h with
  | nil => rfl
  | cons x _ ih => rw [List.sum_cons, List.sum_cons, ih]
  | swap x y l => rw [List.sum_cons, List.sum_cons, List.sum_cons, List.sum_cons]; omega
  | trans _ _ h1 h2 => exact h1.trans h2
theorem rowLen_perm {r r' : Row} (h : r.Perm r') : rowLen r = rowLen r' := sum_permI (h.map (·.1))
theorem min_of {r : Row} (hne : r ≠ []) : IsMin (rowRoom r) (r.map (·.2)) := minL_is (fun z => hne (List.map_eq_nil_iff.mp z))
theorem rowRoom_perm {r r' : Row} (h : r.Perm r') (hne : r' ≠ []) : rowRoom r = rowRoom r' := by
  have m := min_of hne
  have p := h.map (·.2)
  exact minL_eq ⟨p.mem_iff.mpr m.1, fun x hx => m.2 x (p.mem_iff.mp hx)⟩
theorem alike_perm {r r' : Row} (h : r.Perm r') (hne : r' ≠ []) : Alike r r' := ⟨rowLen_perm h, rowRoom_perm h hne⟩
/-- a road parted in two -/
theorem alike_part (q : Int × Int) (rest : Row) (k d : Int) (hd : 0 ≤ d) : Alike (rest ++ [(k, q.2), (q.1 - k, q.2 + d)]) (q :: rest) := by
  constructor
  · unfold rowLen
    rw [List.map_append, List.sum_append, List.map_cons, List.sum_cons]
    show (rest.map (·.1)).sum + (k + (q.1 - k + 0)) = q.1 + (rest.map (·.1)).sum
    omega
  · have m := min_of (List.cons_ne_nil q rest)
    refine minL_eq ⟨?_, fun x hx => ?_⟩
    · rw [List.map_append]
      have h1 := m.1
      rw [List.map_cons] at h1
      rcases List.mem_cons.mp h1 with e | e
      · rw [e]; exact List.mem_append_right _ List.mem_cons_self
      · exact List.mem_append_left _ e
    · rw [List.map_append] at hx
      have hq : rowRoom (q :: rest) ≤ q.2 := m.2 _ (by rw [List.map_cons]; exact List.mem_cons_self)
      rcases List.mem_append.mp hx with e | e
      · exact m.2 x (by rw [List.map_cons]; exact List.mem_cons_of_mem _ e)
      · rcases List.mem_cons.mp e with e | e
        · rw [e]; exact hq
        · rw [List.mem_singleton.mp e]
          show _ ≤ q.2 + d
          omega
/-- a row in another form -/
def Frm (r r' : Row) : Prop := Alike r r' ∧ NiceR r ∧ ∀ B, LowR B r' → LowR (B + 2) r
theorem one_alike {r r' : Row} (h : Alike r r') (k : Int) : one r k = one r' k := by unfold one; rw [h.1, h.2]
theorem roomOf_alike {b b' : Bun} (h : Paired Frm b b') (k : Int) : roomOf b k = roomOf b' k := by
  induction h with
  | nil => rfl
  | cons a _ ih => show plus _ _ = plus _ _; rw [ih, one_alike a.1]
theorem sumRoom_alike {b b' : Bun} (h : Paired Frm b b') : sumRoom b = sumRoom b' := by
  induction h with
  | nil => rfl
  | cons a _ ih =>
    unfold sumRoom at ih ⊢
    rw [List.map_cons, List.map_cons, List.sum_cons, List.sum_cons, ih, a.1.2]
theorem nice_alike {b b' : Bun} (h : Paired Frm b b') : ∀ r ∈ b, NiceR r := by
  induction h with
  | nil => exact fun r hr => (by cases hr)
  | cons a _ ih =>
    intro r hr
    rcases List.mem_cons.mp hr with rfl | hr
    · exact a.2.1
    · exact ih r hr
theorem sumRoom_perm {b b' : Bun} (h : b.Perm b') : sumRoom b = sumRoom b' := sum_permI (h.map rowRoom)
theorem low_alike {b b' : Bun} (h : Paired Frm b b') {B : Int} : Low B b' → Low (B + 2) b := by
  induction h with
  | nil => exact fun _ r hr => (by cases hr)
  | cons a _ ih =>
    intro hl r hr
    rcases List.mem_cons.mp hr with rfl | hr
    · exact a.2.2 B (hl _ List.mem_cons_self)
    · exact ih (fun r hr => hl r (List.mem_cons_of_mem _ hr)) r hr
theorem low_two {l r B : Int} {rest : Bun} (h : Low B ([(l, r)] :: rest)) (hr : r > 1) : Low B (rest ++ [[(l, 1)], [(l, r - 1)]]) := fun row hrow => by
  have h1 : r ≤ B := h _ List.mem_cons_self (l, r) List.mem_cons_self
  rcases List.mem_append.mp hrow with z | z
  · exact h row (List.mem_cons_of_mem _ z)
  · rcases List.mem_cons.mp z with e | e
    · rw [e]
      intro q hq
      rw [List.mem_singleton.mp hq]
      show (1 : Int) ≤ B
      omega
    · rw [List.mem_singleton.mp e]
      intro q hq
      rw [List.mem_singleton.mp hq]
      show r - 1 ≤ B
      omega
theorem roomOf_two (l r : Int) (rest : Bun) (k : Int) : roomOf (rest ++ [[(l, 1)], [(l, r - 1)]]) k = roomOf ([(l, r)] :: rest) k := by
  rw [roomOf_perm (List.perm_append_comm (l₁ := rest) (l₂ := [[(l, 1)], [(l, r - 1)]]))]
  show plus (one [(l, 1)] k) (plus (one [(l, r - 1)] k) (roomOf rest k)) = plus (one [(l, r)] k) (roomOf rest k)
  rw [← plus_assoc]
  congr 1
  have e1 : ∀ x : Int, one [(l, x)] k = if l = k then some x else none := fun x => by
    show (if l + 0 = k then some x else none) = _
    rw [Int.add_zero]
  rw [e1, e1, e1]
  by_cases c : l = k
  · rw [if_pos c, if_pos c, if_pos c]
    show some (1 + (r - 1)) = some r
    congr 1
    omega
  · rw [if_neg c, if_neg c, if_neg c]
    rfl
theorem nice_two {l r : Int} {rest : Bun} (h : Nice 6 ([(l, r)] :: rest)) (h6 : rest.length + 1 < 6) (hr : r > 1) : Nice 6 (rest ++ [[(l, 1)], [(l, r - 1)]]) := by
  have h0 := h.rows _ List.mem_cons_self
  have hl := h0.2.2.1
  have h1 := h0.2.2.2 (l, r) List.mem_cons_self
  refine ⟨fun z => by simp at z, ?_, fun row hrow => ?_, ?_⟩
  · rw [List.length_append]
    show rest.length + 2 ≤ 6
    omega
  · rcases List.mem_append.mp hrow with z | z
    · exact h.rows row (List.mem_cons_of_mem _ z)
    · have mk : ∀ x : Int, 1 ≤ x → NiceR [(l, x)] := fun x hx => ⟨List.cons_ne_nil _ _, by show 1 ≤ 4; decide, hl, fun q hq => by rw [List.mem_singleton.mp hq]; exact ⟨h1.1, hx⟩⟩
      rcases List.mem_cons.mp z with e | e
      · rw [e]; exact mk 1 (Int.le_refl _)
      · rw [List.mem_singleton.mp e]; exact mk (r - 1) (by omega)
  · have hs := h.room
    unfold sumRoom at hs ⊢
    rw [List.map_cons, List.sum_cons] at hs
    rw [List.map_append, List.sum_append]
    show _ + ((1 : Int) + (r - 1 + 0)) ≤ 9
    have e : rowRoom [(l, r)] = r := rfl
    omega
theorem nice_of {b bu : Bun} (hN : Nice 6 bu) {b1 : Bun} (pm : b1.Perm bu) (h : Paired Frm b b1) : Nice 6 b ∧ (∀ k, roomOf b k = roomOf bu k) ∧ ∀ B, Low B bu → Low (B + 2) b := by
  have hl := h.length
  have hp := pm.length_eq
  refine ⟨⟨fun z => ?_, by have := hN.len; omega, nice_alike h, by rw [sumRoom_alike h, sumRoom_perm pm]; exact hN.room⟩, fun k => by rw [roomOf_alike h, roomOf_perm pm], fun B hB => low_alike h fun row hr => hB row (pm.mem_iff.mp hr)⟩
  rw [z] at hl
  exact hN.ne (List.eq_nil_of_length_eq_zero (by rw [List.length_nil] at hl; omega))
theorem cutV_tail (x : V) (xs : List V) : cutV (x :: xs) (some 1) none = xs := by
  have e1 : HT.sIx (x :: xs).length 0 (some 1) = 1 := by
    unfold HT.sIx
    simp
    try omega
  have e2 : HT.sIx (x :: xs).length (x :: xs).length none = xs.length + 1 := by
    unfold HT.sIx
    rfl
  unfold cutV
  rw [e1, e2]
  simp
end Qb
set_option Elab.async false
set_option linter.all false
set_option maxRecDepth 100000
set_option maxHeartbeats 4000000
/-! # _law_other_form -/
namespace Qb
open PySem L2
open PySem.Spec hiding Row
open PyProof.Rows hiding St
open Qm
variable {P : Program} {w : World} {K : PySem.W.Frag} {mg : Str → Option Value} {base : Heap}
abbrev nmOther : List Str := ["_law_stream_here", "_law_bundle", "_law_found", "_law_row", "_law_some", "_law_length", "_law_room_here", "_law_at"]
theorem scOther : FnScope nmOther ["_law_stream_here", "_law_bundle"] (defScope sOther) := ⟨rfl, rfl, rfl, by decide +kernel, rfl, by decide +kernel, by decide +kernel⟩
def spOther : Sp := fun vs H Q _ => ∃ (st c : Addr) (b : Nat) (x : V) (bu : Bun), vs = [.ref st, x] ∧ Strm H st c (b + 60) ∧ BunL (hid [st, c] H) x bu ∧ Nice 6 bu ∧
  ∀ H' p bu', Strm H' st c b → Sbut st c H H' → H p = none → BunL (hid [st, c] H') (.ref p) bu' → Nice 6 bu' → (∀ k, roomOf bu' k = roomOf bu k) → (∀ B, Low B bu → Low (B + 2) bu') → Q (.ref p) H'
/-- the base without one new place -/
theorem but_one {st c f : Addr} {H H1 : Hp} (s : Sbut st c H H1) (hf : H f = none) : Same (hid [st, c] H) (hid [st, c] (hid [f] H1)) := fun b o e => by
  obtain ⟨n, e'⟩ := hid_some e
  have h1 := s b o e
  rw [hid_eq n] at h1 ⊢
  rw [hid_eq fun z => ne_of_none e' hf (List.mem_singleton.mp z)]
  exact h1
theorem MapS.begin {β : Type} {st c f : Addr} {R' : DR β} {H1 : Hp} (h : H1 f = some (.lst [])) (n : f ∉ [st, c]) : MapS st c R' (hid [f] H1) f [] H1 := by
  refine ⟨[], h, fun b o e => ?_, .nil⟩
  obtain ⟨n1, e1⟩ := hid_some e
  obtain ⟨n2, e2⟩ := hid_some e1
  rw [hid_eq fun z => ?_]
  · exact e2
  · rcases List.mem_cons.mp z with z | z
    · exact n2 (List.mem_singleton.mpr z)
    · exact n1 z
set_option maxHeartbeats 16000000 in
theorem okOther (T : Txt K mg) : FnOk P w K mg base CX0 3 T.f_other T.d_other ["_law_stream_here", "_law_bundle"] spOther := by
  refine T.D_other.F.ok scOther (fun vs H Q E h => ?_) (fun cdv A outer s H vs Q E hr h => ?_)
  · obtain ⟨st, c, b, x, bu, rfl, _⟩ := h
    rfl
  · obtain ⟨st, c, b, x, bu, rfl, hS, ⟨a, xs, rfl, ha, hp⟩, hN, q⟩ := h
    refine ⟨_, pss_cons (ps_set (i := 2) scOther.nd rfl (.inl rfl) (pe_lst pa_nil))
      (pss_cons (ps_for PassesOwn.never rfl (pi_list (pe_df (okMixed T) T.D_mixed hr rfl (pa_cons (pv 0) (pa_cons (pv 1) pa_nil)))) (pg_name (i := 3) scOther.nd rfl (.inl rfl))
        (pss_cons (ps_set (i := 4) scOther.nd rfl (.inl rfl) (pe_df (okMixed T) T.D_mixed hr rfl (pa_cons (pv 0) (pa_cons (pv 3) pa_nil))))
        (pss_cons (ps_asg (pe_ix (show IxR _ (rIxL K) from ix_list) (pv 4) pe_int (fun _ _ => rfl)) (pg_tup rfl (pgs_cons (pg_name (i := 5) scOther.nd rfl (.inl rfl)) (pgs_cons (pg_name (i := 6) scOther.nd rfl (.inl rfl)) pgs_nil))))
        (C8.pss_cut (ps_if (PW.pt (pw_and (pt_cmpR op_gt (pv 5) pe_int (nomark _)) (pw_and (pt_cmpR op_lt (pe_callB call_len_seq (by rfl) T.z_len PySem.boot_len (pa_cons (pv 4) pa_nil)) pe_int (nomark _))
            (pw_and1 (pt_cmpR op_eq (pe_df (okDraw T) T.D_draw (hr.mono (by decide)) rfl (pa_cons (pv 0) (pa_cons pe_int pa_nil))) pe_int (nomark _))))))
          (pss_cons (ps_set (i := 7) scOther.nd rfl (.inl rfl) (pe_op op_add pe_int (pe_df (okDraw T) T.D_draw (hr.mono (by decide)) rfl (pa_cons (pv 0) (pa_cons (pe_op op_sub (pv 5) pe_int) pa_nil)))))
          (pss_one (ps_set (i := 4) scOther.nd rfl (.inl rfl) (pe_op op_cat (pe_slice sl_list (pv 4) (po_some pe_int) po_none) (pe_lst (pa_cons (pe_tup (pa_cons (pv 7) (pa_cons (pv 6) pa_nil)))
            (pa_cons (pe_tup (pa_cons (pe_op op_sub (pv 5) (pv 7)) (pa_cons (pe_op op_add (pv 6) (pe_df (okDraw T) T.D_draw (hr.mono (by decide)) rfl (pa_cons (pv 0) (pa_cons pe_int pa_nil)))) pa_nil))) pa_nil))))))) pss_nil)
        (pss_one (ps_expr (pe_bm PySem.F.plainAttrs_list PySem.F.slot_list_append PySem.F.type_list_append mt_append (pv 2) (pa_cons (pv 4) pa_nil))))))))
      (C8.pss_cut (ps_if (PW.pt (pw_and (pt_cmpR op_lt (pe_callB call_len_seq (by rfl) T.z_len PySem.boot_len (pa_cons (pv 2) pa_nil)) pe_int (nomark _))
          (pw_and (pt_cmpR op_eq (pe_callB call_len_seq (by rfl) T.z_len PySem.boot_len (pa_cons (pe_ix (show IxR _ (rIxL K) from ix_list) (pv 2) pe_int (fun _ _ => rfl)) pa_nil)) pe_int (nomark _))
          (pw_and1 (pt_cmpR op_gt (pe_ix (show IxR _ (rIxT K) from ix_tup) (pe_ix (show IxR _ (rIxL K) from ix_list) (pe_ix (show IxR _ (rIxL K) from ix_list) (pv 2) pe_int (fun _ _ => rfl)) pe_int (fun _ _ => rfl)) pe_int (fun _ _ => rfl)) pe_int (nomark _))))))
        (pss_cons (ps_asg (pe_ix (show IxR _ (rIxL K) from ix_list) (pe_ix (show IxR _ (rIxL K) from ix_list) (pv 2) pe_int (fun _ _ => rfl)) pe_int (fun _ _ => rfl)) (pg_tup rfl (pgs_cons (pg_name (i := 5) scOther.nd rfl (.inl rfl)) (pgs_cons (pg_name (i := 6) scOther.nd rfl (.inl rfl)) pgs_nil))))
        (pss_one (ps_set (i := 2) scOther.nd rfl (.inl rfl) (pe_op op_cat (pe_slice sl_list (pv 2) (po_some pe_int) po_none) (pe_lst (pa_cons (pe_lst (pa_cons (pe_tup (pa_cons (pv 5) (pa_cons pe_int pa_nil))) pa_nil))
          (pa_cons (pe_lst (pa_cons (pe_tup (pa_cons (pv 5) (pa_cons (pe_op op_sub (pv 6) pe_int) pa_nil))) pa_nil)) pa_nil))))))) pss_nil)
      (pss_one (ps_ret (pv 2))))), ?_⟩
    have lx := hp.length
    have hb6 := hN.len
    refine ⟨Nat.zero_le _, fun f hf0 => ?_⟩
    have nf := hS.fresh hf0
    have ha0 : Sq (hid [st, c] (upd H f (.lst []))) a xs := .inl (Sbut.new (Sbut.of (Same.refl H)) hf0 _ _ ha)
    refine ⟨_, rfl, _, rfl, st, c, a, b + 54, xs, rfl, strm_upd (hS.mono (by omega)) nf, ha0, by omega, fun H1 p1 ys pm1 hS1 sb1 hp1 hy1 => ?_⟩
    have sb01 : Sbut st c H H1 := (Sbut.new (Sbut.of (Same.refl H)) hf0).trans' sb1
    have hf1 : H1 f = some (.lst []) := sb1.at upd_same nf
    have np1 : p1 ≠ f := fun z => by rw [z, upd_same] at hp1; cases hp1
    have np1s : p1 ∉ [st, c] := (strm_upd hS nf).fresh hp1
    have sHb := but_one sb01 hf0
    obtain ⟨b1, pmb, pb⟩ := pd_perm pm1 (hp.mono fun _ _ z => mRowL _ _ _ _ sHb z)
    have ly := pb.length
    have lb := pmb.length_eq
    have hyb : hid [st, c] (hid [f] H1) p1 = some (.lst ys) := by rw [hid_eq np1s, hid_eq fun z => np1 (List.mem_singleton.mp z)]; exact hy1
    refine ⟨p1, rfl, ⟨_, SqL.of hy1⟩, for_list (K := K) (a := p1) (xs := ys) (fun n σ H' => ∃ (r3 r4 r5 r6 r7 : Option V) (rows : Bun), σ = [some (.ref st), some (.ref a), some (.ref f), r3, r4, r5, r6, r7] ∧ MapS st c RowL (hid [f] H1) f rows H' ∧ Strm H' st c (b + 54 - 7 * n) ∧ Paired Frm rows (b1.take n))
      ⟨none, none, none, none, none, [], rfl, MapS.begin hf1 nf, hS1, .nil⟩ (fun n σ H' _ ⟨_, _, _, _, _, _, _, ⟨_, _, ss, _⟩, _⟩ => SqL.of (hid_sub _ _ _ _ (ss _ _ hyb))) ?_ ?_⟩
    · rintro n x σ H' hx ⟨r3, r4, r5, r6, r7, rows, rfl, ms, hS', pr⟩
      have hn6 : n < 6 := by have := (List.getElem?_eq_some_iff.mp hx).1; omega
      obtain ⟨row, hrow, rx⟩ := pd_get pb hx
      have hnr : NiceR row := hN.rows row (pmb.mem_iff.mp (List.mem_of_getElem? hrow))
      obtain ⟨acc0, hacc0, ss, _⟩ := id ms
      obtain ⟨r, zs, rfl, hr0, hz⟩ := mRowL _ _ _ _ ss rx
      have lz := hz.length
      have hr4 := hnr.2.1
      refine ⟨_, rfl, _, rfl, st, c, r, b + 54 - 7 * n - 4, zs, rfl, hS'.mono (by omega), .inl (hid2 _ _ hr0), by omega, fun H2 p2 us pm2 hS2 sb2 hp2 hu2 => ?_⟩
      have sf : Same (hid [f, st, c] H') (hid [f, st, c] H2) := hid_more sb2 fun b hb => List.mem_cons_of_mem _ hb
      have ms2 := ms.keep mRowL nf sb2
      have n2 := fresh3 hS' hacc0 hp2
      obtain ⟨row1, pmr, pz⟩ := pd_perm pm2 (hz.mono fun _ _ z => mTpR _ _ _ _ sf z)
      cases pz with
      | nil => exact absurd (List.Perm.nil_eq pmr).symm hnr.1
      | @cons u qd us1 row1 hu pz =>
        obtain ⟨t, rfl, ht⟩ := hu
        have ht2 := hid_sub _ _ _ _ ht
        have lus := pz.length
        have lrow := pmr.length_eq
        rw [List.length_cons] at lrow
        have hql : qd.1 ≤ 100 ∧ 1 ≤ qd.1 := by
          have h1 := hnr.2.2.1
          have hpos : ∀ q ∈ qd :: row1, 1 ≤ q.1 := fun q hq => (hnr.2.2.2 q (pmr.mem_iff.mp hq)).1
          have h2 : 0 ≤ (row1.map (·.1)).sum := by
            have : ∀ l : List Int, (∀ x ∈ l, 1 ≤ x) → 0 ≤ l.sum := fun l => by
              induction l with
              | nil => exact fun _ => Int.le_refl _
              | cons x l ih =>
                intro h
                have h1 := h x List.mem_cons_self
                have h2 := ih fun y hy => h y (List.mem_cons_of_mem _ hy)
                rw [List.sum_cons]
                omega
            exact this _ fun x hx => by
              obtain ⟨q, hq, rfl⟩ := List.mem_map.mp hx
              exact hpos q (List.mem_cons_of_mem _ hq)
          have h3 : qd.1 + (row1.map (·.1)).sum = rowLen row := rowLen_perm pmr
          exact ⟨by omega, hpos qd List.mem_cons_self⟩
        refine ⟨_, rfl, p2, _, _, .ref t, rfl, rfl, SqL.of hu2, atI_nat (j := 0) rfl, t, _, rfl, SqT.of ht2, rfl, _, _, rfl, _, _, rfl, rfl, ?_⟩
        refine ⟨fun σ' H3 => ∃ (p3 : Addr) (row3 : Row) (r7 : Option V), σ' = [some (.ref st), some (.ref a), some (.ref f), some (.ref r), some (.ref p3), some (.int qd.1), some (.int qd.2), r7] ∧ MapS st c RowL (hid [f] H1) f rows H3 ∧ Strm H3 st c (b + 54 - 7 * (n + 1)) ∧ RowL (hid [f, st, c] H3) (.ref p3) row3 ∧ Frm row3 row, ?_, ?_⟩
        · have al1 : Alike (qd :: row1) row := alike_perm pmr hnr.1
          have rl2 : RowL (hid [f, st, c] H2) (.ref p2) (qd :: row1) := ⟨p2, _, rfl, by rw [hid_eq n2]; exact hu2, .cons ⟨t, rfl, ht⟩ pz⟩
          have ni1 : NiceR (qd :: row1) := ⟨List.cons_ne_nil _ _, by rw [List.length_cons]; omega, by rw [al1.1]; exact hnr.2.2.1, fun q hq => hnr.2.2.2 q (pmr.mem_iff.mp hq)⟩
          have lo1 : ∀ B, LowR B row → LowR (B + 2) (qd :: row1) := fun B hB q hq => by have := hB q (pmr.mem_iff.mp hq); omega
          have stay : ∀ H3, Sbut st c H2 H3 → Strm H3 st c (b + 54 - 7 * (n + 1)) → ∃ (p3 : Addr) (row3 : Row) (r7' : Option V), [some (V.ref st), some (.ref a), some (.ref f), some (.ref r), some (.ref p2), some (.int qd.1), some (.int qd.2), r7] = [some (V.ref st), some (.ref a), some (.ref f), some (.ref r), some (.ref p3), some (.int qd.1), some (.int qd.2), r7'] ∧ MapS st c RowL (hid [f] H1) f rows H3 ∧ Strm H3 st c (b + 54 - 7 * (n + 1)) ∧ RowL (hid [f, st, c] H3) (.ref p3) row3 ∧ Frm row3 row := fun H3 sb3 hS3 =>
            ⟨p2, qd :: row1, r7, rfl, ms2.keep mRowL nf sb3, hS3, mRowL _ _ _ _ (hid_more sb3 fun b hb => List.mem_cons_of_mem _ hb) rl2, al1, ni1, lo1⟩
          refine ⟨_, rfl, _, _, rfl, rfl, _, rfl, ?_⟩
          by_cases c1 : qd.1 > 1
          · refine iteY (decide_eq_true c1) ⟨_, rfl, p2, _, rfl, .inl (SqL.of hu2), _, _, rfl, rfl, _, rfl, ?_⟩
            by_cases c2 : (((V.ref t :: us1).length : Nat) : Int) < 4
            · refine iteY (decide_eq_true c2) ⟨_, rfl, st, c, b + 54 - 7 * n - 5, 2, rfl, hS2.mono (by omega), by decide, by decide, fun H3 d hS3 sb3 d0 d2 => ⟨rfl, _, rfl, ?_⟩⟩
              by_cases c3 : d = 0
              · refine iteY (decide_eq_true (by rw [c3])) ?_
                refine ⟨_, rfl, _, rfl, _, _, rfl, rfl, st, c, b + 54 - 7 * n - 6, qd.1 - 1, rfl, hS3.mono (by omega), by omega, by omega, fun H4 e hS4 sb4 e0 e1 => ⟨_, _, rfl, rfl, ?_⟩⟩
                have sb24 := sb3.trans' sb4
                have ms4 := ms2.keep mRowL nf sb24
                obtain ⟨acc4, hacc4, _⟩ := ms4.at
                have sf4 : Same (hid [f, st, c] H2) (hid [f, st, c] H4) := hid_more sb24 fun b hb => List.mem_cons_of_mem _ hb
                have hu4 : H4 p2 = some (.lst (.ref t :: us1)) := hid_sub _ _ _ _ (sf4 _ _ (by rw [hid_eq n2]; exact hu2))
                refine ⟨_, rfl, 1, rfl, p2, _, rfl, SqL.of hu4, fun p3 hp3 => ?_⟩
                rw [cutV_tail]
                have n3 := fresh3 hS4 hacc4 hp3
                have hS4a := strm_upd (o := .lst us1) hS4 (hS4.fresh hp3)
                have hacc4a : upd H4 p3 (.lst us1) f = some (.lst acc4) := by rw [upd_ne (fun z => n3 (by rw [z]; exact List.mem_cons_self))]; exact hacc4
                refine ⟨_, rfl, _, rfl, by show 2 ≤ sizeLine; decide, fun t1 ht1 => ?_⟩
                have nt1 := fresh3 hS4a hacc4a ht1
                have hS4b := strm_upd (o := .tup [.int (1 + e), .int qd.2]) hS4a (hS4a.fresh ht1)
                have sb44 : Sbut st c H4 (upd (upd H4 p3 (.lst us1)) t1 (.tup [.int (1 + e), .int qd.2])) := Sbut.of ((same_new hp3).trans (same_new ht1))
                have n31 : p3 ≠ t1 := fun z => by rw [← z, upd_same] at ht1; cases ht1
                have h3b : upd (upd H4 p3 (.lst us1)) t1 (.tup [.int (1 + e), .int qd.2]) p3 = some (.lst us1) := by rw [upd_ne n31, upd_same]
                have h1b : upd (upd H4 p3 (.lst us1)) t1 (.tup [.int (1 + e), .int qd.2]) t1 = some (.tup [.int (1 + e), .int qd.2]) := upd_same
                refine ⟨_, rfl, _, rfl, _, _, rfl, rfl, _, rfl, _, rfl, st, c, b + 54 - 7 * n - 7, 3, rfl, hS4b.mono (by omega), by decide, by decide, fun H5 g hS5 sb5 g0 g3 => ⟨_, _, rfl, rfl, by show 2 ≤ sizeLine; decide, fun t2 ht2 => ⟨by show 2 ≤ sizeLine; decide, fun p4 hp4 => ?_⟩⟩⟩
                have h35 := sb5.at h3b (hS4.fresh hp3)
                have h15 := sb5.at h1b (hS4a.fresh ht1)
                have ms5 := (ms4.keep mRowL nf sb44).keep mRowL nf sb5
                obtain ⟨acc5, hacc5, _⟩ := ms5.at
                have nt2 := fresh3 hS5 hacc5 ht2
                have s5a : Same H5 (upd H5 t2 (.tup [.int (qd.1 - (1 + e)), .int (qd.2 + g)])) := same_new ht2
                have s5b : Same (upd H5 t2 (.tup [.int (qd.1 - (1 + e)), .int (qd.2 + g)])) (upd (upd H5 t2 (.tup [.int (qd.1 - (1 + e)), .int (qd.2 + g)])) p4 (.lst [.ref t1, .ref t2])) := same_new hp4
                refine ⟨p3, p4, us1, [.ref t1, .ref t2], rfl, rfl, s5b _ _ (s5a _ _ h35), upd_same, small1000' (by show us1.length + 2 ≤ 1000; omega), fun p5 hp5 => ?_⟩
                have s5c := same_new (o := .lst (us1 ++ [.ref t1, .ref t2])) hp5
                have ht2c := s5c _ _ (s5b _ _ (upd_same (H := H5) (a := t2) (o := .tup [.int (qd.1 - (1 + e)), .int (qd.2 + g)])))
                have ht1c := s5c _ _ (s5b _ _ (s5a _ _ h15))
                have n5 := fresh3 (hS5.go (s5a.trans s5b)) ((s5a.trans s5b) _ _ hacc5) hp5
                have s5 := (s5a.trans s5b).trans s5c
                have hp5c : upd (upd (upd H5 t2 (.tup [.int (qd.1 - (1 + e)), .int (qd.2 + g)])) p4 (.lst [.ref t1, .ref t2])) p5 (.lst (us1 ++ [.ref t1, .ref t2])) p5 = some (.lst (us1 ++ [.ref t1, .ref t2])) := upd_same
                generalize upd (upd (upd H5 t2 (.tup [.int (qd.1 - (1 + e)), .int (qd.2 + g)])) p4 (.lst [.ref t1, .ref t2])) p5 (.lst (us1 ++ [.ref t1, .ref t2])) = H6 at s5 s5c ht2c ht1c hp5c
                have sb26 : Sbut st c H2 H6 := ((sb24.trans' sb44).trans' sb5).trans' (Sbut.of s5)
                have al := alike_part qd row1 (1 + e) g g0
                have hm := hnr.2.2.2 qd (pmr.mem_iff.mp List.mem_cons_self)
                have c2' : us1.length + 1 < 4 := by
                  rw [List.length_cons] at c2
                  omega
                refine ⟨p5, row1 ++ [(1 + e, qd.2), (qd.1 - (1 + e), qd.2 + g)], some (.int (1 + e)), rfl, ms5.keep mRowL nf (Sbut.of s5), (hS5.go s5).mono (by omega), ⟨p5, _, rfl, by rw [hid_eq n5]; exact hp5c, pd_app (pz.mono fun _ _ z => mTpR _ _ _ _ (hid_more sb26 fun b hb => List.mem_cons_of_mem _ hb) z) (.cons ⟨t1, rfl, by rw [hid_eq nt1]; exact ht1c⟩ (.cons ⟨t2, rfl, by rw [hid_eq nt2]; exact ht2c⟩ .nil))⟩, ⟨al.1.trans al1.1, al.2.trans al1.2⟩, ⟨fun z => by simp at z, ?_, ?_, fun q hq => ?_⟩, fun B hB q hq => ?_⟩
                · rw [List.length_append]
                  show row1.length + 2 ≤ 4
                  omega
                · rw [al.1.trans al1.1]; exact hnr.2.2.1
                · rcases List.mem_append.mp hq with z | z
                  · exact hnr.2.2.2 q (pmr.mem_iff.mp (List.mem_cons_of_mem _ z))
                  · rcases List.mem_cons.mp z with z | z
                    · rw [z]; exact ⟨by show 1 ≤ 1 + e; omega, hm.2⟩
                    · rw [List.mem_singleton.mp z]; exact ⟨by show 1 ≤ qd.1 - (1 + e); omega, by show 1 ≤ qd.2 + g; omega⟩
                · have hB1 := hB qd (pmr.mem_iff.mp List.mem_cons_self)
                  rcases List.mem_append.mp hq with z | z
                  · have := hB q (pmr.mem_iff.mp (List.mem_cons_of_mem _ z)); omega
                  · rcases List.mem_cons.mp z with z | z
                    · rw [z]; show qd.2 ≤ B + 2; omega
                    · rw [List.mem_singleton.mp z]; show qd.2 + g ≤ B + 2; omega
              · exact iteN (decide_eq_false fun z => c3 (V.int.inj z)) (stay H3 sb3 (hS3.mono (by omega)))
            · exact iteN (decide_eq_false c2) (iteN rfl (stay H2 (Sbut.of (Same.refl _)) (hS2.mono (by omega))))
          · exact iteN (decide_eq_false c1) (iteN rfl (stay H2 (Sbut.of (Same.refl _)) (hS2.mono (by omega))))
        · rintro σ' H3 ⟨p3, row3, r7', rfl, ms3, hS3, hr3, fm⟩
          obtain ⟨acc, hacc, hl, ms4⟩ := ms3.add hr3
          refine ⟨_, rfl, .inl ⟨rfl, _, SqL.of hacc⟩, _, rfl, f, acc, .ref p3, rfl, rfl, hacc, ?_, ?_⟩
          · have := pr.length
            rw [List.length_take] at this
            rw [hl]
            exact small1000 (by omega)
          · refine ⟨_, _, _, _, _, rows ++ [row3], rfl, ms4, strm_upd hS3 nf, ?_⟩
            rw [List.take_add_one, hrow]
            exact pr.snoc fm
    · rintro σ H' ⟨r3, r4, r5, r6, r7, rows, rfl, ms, hS', pr⟩
      rw [ly, List.take_length] at pr
      obtain ⟨nic, hro, hlo⟩ := nice_of hN pmb pr
      obtain ⟨sbb, _, fs, e, hfs, hpf⟩ := ms.out mRowL nf
      cases e
      have sbH : Sbut st c H H' := sHb.trans sbb
      have hf' : H' f = some (.lst fs) := hid_sub _ _ _ _ hfs
      have hS0 : Strm H' st c b := hS'.mono (by omega)
      refine ⟨fun σ' H3 => ∃ (g : Addr) (bu' : Bun), σ'[2]? = some (some (.ref g)) ∧ H g = none ∧ BunL (hid [st, c] H3) (.ref g) bu' ∧ Nice 6 bu' ∧ (∀ k, roomOf bu' k = roomOf bu k) ∧ (∀ B, Low B bu → Low (B + 2) bu') ∧ Strm H3 st c b ∧ Sbut st c H H3, ?_, ?_⟩
      · have stay : ∃ (g : Addr) (bu' : Bun), ([some (V.ref st), some (.ref a), some (.ref f), r3, r4, r5, r6, r7] : L2.St)[2]? = some (some (.ref g)) ∧ H g = none ∧ BunL (hid [st, c] H') (.ref g) bu' ∧ Nice 6 bu' ∧ (∀ k, roomOf bu' k = roomOf bu k) ∧ (∀ B, Low B bu → Low (B + 2) bu') ∧ Strm H' st c b ∧ Sbut st c H H' :=
          ⟨f, rows, rfl, hf0, ⟨f, fs, rfl, hfs, hpf⟩, nic, hro, hlo, hS0, sbH⟩
        cases hpf with
        | nil => exact absurd rfl nic.ne
        | @cons v row0 fs1 rows1 hv hpf1 =>
          obtain ⟨r0, zs, rfl, hr0, hz⟩ := hv
          have hr0' := hid_sub _ _ _ _ hr0
          refine ⟨_, rfl, f, _, rfl, .inl (SqL.of hf'), _, _, rfl, rfl, _, rfl, ?_⟩
          by_cases c1 : (((V.ref r0 :: fs1).length : Nat) : Int) < 6
          · refine iteY (decide_eq_true c1) ?_
            refine ⟨_, rfl, f, _, _, .ref r0, rfl, rfl, SqL.of hf', atI_nat (j := 0) rfl, r0, zs, rfl, .inl (SqL.of hr0'), rfl, _, rfl, ?_⟩
            by_cases c2 : V.int ((zs.length : Nat) : Int) = V.int 1
            · refine iteY (decide_eq_true c2) ?_
              have hz1 : zs.length = 1 := by have := V.int.inj c2; omega
              cases hz with
              | nil => exact absurd hz1 (by decide)
              | @cons u qd zs1 row1 hu hz =>
                have e1 : zs1 = [] := List.eq_nil_of_length_eq_zero (by rw [List.length_cons] at hz1; omega)
                subst e1
                cases hz
                obtain ⟨t, rfl, ht⟩ := hu
                have ht' := hid_sub _ _ _ _ ht
                refine ⟨_, rfl, f, _, _, .ref r0, rfl, rfl, SqL.of hf', atI_nat (j := 0) rfl, r0, _, _, .ref t, rfl, rfl, SqL.of hr0', rfl, t, _, _, .int qd.2, rfl, rfl, SqT.of ht', rfl, _, _, rfl, rfl, _, rfl, ?_⟩
                by_cases c3 : qd.2 > 1
                · refine iteY (decide_eq_true c3) ?_
                  refine ⟨_, rfl, f, _, _, .ref r0, rfl, rfl, SqL.of hf', atI_nat (j := 0) rfl, r0, _, _, .ref t, rfl, rfl, SqL.of hr0', rfl, t, _, rfl, SqT.of ht', rfl, _, _, rfl, _, _, rfl, rfl, ?_⟩
                  refine ⟨_, rfl, 1, rfl, f, _, rfl, SqL.of hf', fun p3 hp3 => ?_⟩
                  rw [cutV_tail]
                  refine ⟨_, rfl, by show 2 ≤ sizeLine; decide, fun t1 ht1 => ⟨by show 1 ≤ sizeLine; decide, fun l1 hl1 => ⟨_, rfl, _, rfl, _, _, rfl, rfl, by show 2 ≤ sizeLine; decide, fun t2 ht2 => ⟨by show 1 ≤ sizeLine; decide, fun l2 hl2 => ⟨by show 2 ≤ sizeLine; decide, fun p4 hp4 => ?_⟩⟩⟩⟩⟩
                  have s1 : Same H' _ := same_new (o := .lst fs1) hp3
                  have s2 := same_new (o := .tup [.int qd.1, .int 1]) ht1
                  have s3 := same_new (o := .lst [.ref t1]) hl1
                  have s4 := same_new (o := .tup [.int qd.1, .int (qd.2 - 1)]) ht2
                  have s5 := same_new (o := .lst [.ref t2]) hl2
                  have s6 := same_new (o := .lst [.ref l1, .ref l2]) hp4
                  have hfl : fs1.length ≤ 6 := by have := hpf1.length; have := nic.len; rw [List.length_cons] at this; omega
                  refine ⟨p3, p4, fs1, [.ref l1, .ref l2], rfl, rfl, ((((s2.trans s3).trans s4).trans s5).trans s6) _ _ upd_same, upd_same, small1000' (by show fs1.length + 2 ≤ 1000; omega), fun p5 hp5 => ?_⟩
                  have s7 := same_new (o := .lst (fs1 ++ [.ref l1, .ref l2])) hp5
                  have n1 := (hS0.go s1).fresh ht1
                  have m1 := (hS0.go (s1.trans s2)).fresh hl1
                  have n2 := (hS0.go ((s1.trans s2).trans s3)).fresh ht2
                  have m2 := (hS0.go (((s1.trans s2).trans s3).trans s4)).fresh hl2
                  have m5 := (hS0.go (((((s1.trans s2).trans s3).trans s4).trans s5).trans s6)).fresh hp5
                  have g1 := (((((s3.trans s4).trans s5).trans s6).trans s7)) _ _ (upd_same (a := t1) (o := .tup [.int qd.1, .int 1]))
                  have g2 := ((((s4.trans s5).trans s6).trans s7)) _ _ (upd_same (a := l1) (o := .lst [.ref t1]))
                  have g3 := (((s5.trans s6).trans s7)) _ _ (upd_same (a := t2) (o := .tup [.int qd.1, .int (qd.2 - 1)]))
                  have g4 := ((s6.trans s7)) _ _ (upd_same (a := l2) (o := .lst [.ref t2]))
                  have sAll := (((((s1.trans s2).trans s3).trans s4).trans s5).trans s6).trans s7
                  have hp5H : H p5 = none := sbH.free hS0 ((((((s1.trans s2).trans s3).trans s4).trans s5).trans s6).free hp5)
                  have g5 := upd_same (H := upd (upd (upd (upd (upd (upd H' p3 (.lst fs1)) t1 (.tup [.int qd.1, .int 1])) l1 (.lst [.ref t1])) t2 (.tup [.int qd.1, .int (qd.2 - 1)])) l2 (.lst [.ref t2])) p4 (.lst [.ref l1, .ref l2])) (a := p5) (o := .lst (fs1 ++ [.ref l1, .ref l2]))
                  refine ⟨p5, rows1 ++ [[(qd.1, 1)], [(qd.1, qd.2 - 1)]], rfl, hp5H, ⟨p5, _, rfl, by rw [hid_eq m5]; exact g5, pd_app (hpf1.mono fun _ _ z => mRowL _ _ _ _ (hid_mono sAll) z) (.cons ⟨l1, _, rfl, by rw [hid_eq m1]; exact g2, .cons ⟨t1, rfl, by rw [hid_eq n1]; exact g1⟩ .nil⟩ (.cons ⟨l2, _, rfl, by rw [hid_eq m2]; exact g4, .cons ⟨t2, rfl, by rw [hid_eq n2]; exact g3⟩ .nil⟩ .nil))⟩, ?_, fun k => ?_, fun B hB => low_two (l := qd.1) (r := qd.2) (hlo B hB) c3, hS0.go sAll, sbH.trans' (Sbut.of sAll)⟩
                  · have hr1 := hpf1.length
                    rw [List.length_cons] at c1
                    exact nice_two (l := qd.1) (r := qd.2) nic (by omega) c3
                  · rw [roomOf_two]
                    exact hro k
                · exact iteN (decide_eq_false c3) stay
            · exact iteN (decide_eq_false c2) (iteN rfl stay)
          · exact iteN (decide_eq_false c1) (iteN rfl stay)
      · rintro σ' H3 ⟨g, bu', e, hg, hB, hN', hr', hlo', hS3, sb3⟩
        exact ⟨_, e, q H3 g bu' hS3 sb3 hg hB hN' hr' hlo'⟩
end Qb
set_option Elab.async false
set_option linter.all false
set_option maxRecDepth 100000
set_option maxHeartbeats 4000000
/-! # _law_loose -/
namespace Qb
open PySem L2
open PySem.Spec hiding Row
open PyProof.Rows hiding St
open Qm
variable {P : Program} {w : World} {K : PySem.W.Frag} {mg : Str → Option Value} {base : Heap}
/-- what is left out stands somewhere -/
def Occ (L : List Addr) (H : Hp) : Prop := ∀ b ∈ L, ∃ o, H b = some o
theorem Occ.out {L : List Addr} {H : Hp} (h : Occ L H) {p : Addr} (hp : H p = none) : p ∉ L := fun z => by
  obtain ⟨o, ho⟩ := h p z
  rw [hp] at ho
  cases ho
theorem Occ.go {L : List Addr} {H H' : Hp} (h : Occ L H) (s : Same H H') : Occ L H' := fun b hb => let ⟨o, e⟩ := h b hb; ⟨o, s _ _ e⟩
theorem Occ.but {L : List Addr} {st c : Addr} {H H' : Hp} {b : Nat} (h : Occ L H) (s : Sbut st c H H') (hS : Strm H' st c b) : Occ L H' := fun x hx => by
  by_cases n : x ∈ [st, c]
  · obtain ⟨_, ns, d, n1, m, h1, h2, _⟩ := hS
    rcases List.mem_cons.mp n with e | e
    · exact ⟨_, by rw [e]; exact h1⟩
    · exact ⟨_, by rw [List.mem_singleton.mp e]; exact h2⟩
  · obtain ⟨o, ho⟩ := h x hx
    exact ⟨o, s.at ho n⟩
/-- a list on its way, L left out -/
def MapH {β : Type} (L : List Addr) (R' : DR β) (H : Hp) (D : Addr) (out : List β) (H' : Hp) : Prop := ∃ acc, H' D = some (.lst acc) ∧ Same (hid L H) (hid (D :: L) H') ∧ Paired (R' (hid (D :: L) H')) acc out
theorem MapH.start {β : Type} {L : List Addr} {R' : DR β} {H : Hp} {D : Addr} (h : H D = none) : MapH L R' H D [] (upd H D (.lst [])) := by
  refine ⟨[], upd_same, ?_, .nil⟩
  rw [hid_at (List.mem_cons_self)]
  intro b o e
  obtain ⟨n, e'⟩ := hid_some e
  rw [hid_eq fun z => ?_]
  · exact e'
  · rcases List.mem_cons.mp z with z | z
    · rw [z, h] at e'; cases e'
    · exact n z
theorem MapH.keep {β : Type} {L : List Addr} {st c : Addr} {R' : DR β} {H : Hp} {D : Addr} {out : List β} {H' H2 : Hp} (m : Mono R') (hst : ∀ b ∈ [st, c], b ∈ L) (n : D ∉ [st, c]) (h : MapH L R' H D out H') (s : Sbut st c H' H2) : MapH L R' H D out H2 := by
  obtain ⟨acc, e, s0, p⟩ := h
  have s1 : Same (hid (D :: L) H') (hid (D :: L) H2) := hid_more s fun b hb => List.mem_cons_of_mem _ (hst b hb)
  exact ⟨acc, s.at e n, s0.trans s1, p.mono fun _ _ q => m _ _ _ _ s1 q⟩
theorem MapH.add {β : Type} {L : List Addr} {R' : DR β} {H : Hp} {D : Addr} {out : List β} {H2 : Hp} {v : V} {z : β} (h : MapH L R' H D out H2) (r : R' (hid (D :: L) H2) v z) :
    ∃ acc, H2 D = some (.lst acc) ∧ acc.length = out.length ∧ MapH L R' H D (out ++ [z]) (upd H2 D (.lst (acc ++ [v]))) := by
  obtain ⟨acc, e, s0, p⟩ := h
  refine ⟨acc, e, p.length, _, upd_same, ?_, ?_⟩
  · rw [hid_at List.mem_cons_self]; exact s0
  · rw [hid_at List.mem_cons_self]; exact p.snoc r
theorem hid_cons {L : List Addr} {D : Addr} {H : Hp} : Same (hid (D :: L) H) (hid L H) := hid_drop fun b hb => List.mem_cons_of_mem _ hb
abbrev nmLoose : List Str := ["_law_stream_here", "_law_thing", "_law_some", "_law_one"]
theorem scLoose : FnScope nmLoose ["_law_stream_here", "_law_thing"] (defScope sLoose) := ⟨rfl, rfl, rfl, by decide +kernel, rfl, by decide +kernel, by decide +kernel⟩
def spLoose {α : Type} (R R' : DR α) (ok : α → Prop) (n : Nat) : Sp := fun vs H Q _ => ∃ (st c : Addr) (L : List Addr) (b : Nat) (x : V) (y : α), vs = [.ref st, x] ∧ Strm H st c (b + n) ∧ (∀ b ∈ [st, c], b ∈ L) ∧ Occ L H ∧ R (hid L H) x y ∧ ok y ∧
  ∀ H' v, Strm H' st c b → Sbut st c H H' → R' (hid L H') v y → Q v H'
theorem loose_len {α : Type} {R R' : DR α} {ok : α → Prop} {n : Nat} (vs : List V) (H : Hp) (Q : VK) (E : XK) (h : spLoose R R' ok n vs H Q E) : vs.length = (["_law_stream_here", "_law_thing"] : List Str).length := by
  obtain ⟨st, c, L, b, x, y, rfl, _⟩ := h
  rfl
theorem okLoose0 (T : Txt K mg) : FnOk P w K mg base CX0 2 T.f_loose T.d_loose ["_law_stream_here", "_law_thing"] (spLoose IntR IntR (fun _ => True) 0) := by
  refine T.D_loose.F.ok scLoose loose_len (fun cdv A outer s H vs Q E hr h => ?_)
  obtain ⟨st, c, L, b, x, y, rfl, hS, hL, hO, hR, _, q⟩ := h
  cases (show x = .int y from hR)
  refine ⟨_, pss_cons (ps_if (pt_val (pe_callB call_isiT (by rfl) T.z_isinstance (by decide +kernel) (pa_cons (pv 1) (pa_cons (pe_tup (pa_cons (pe_bltn (v := .ty "list") (by rfl) T.z_list (by decide +kernel) rfl) (pa_cons (pe_bltn (v := .ty "tuple") (by rfl) T.z_tuple (by decide +kernel) rfl) pa_nil))) pa_nil))))
      (pss_cons ps_never (pss_one ps_never)) pss_nil) (pss_one (ps_ret (pv 1))), ?_⟩
  refine ⟨_, rfl, by show 2 ≤ sizeLine; decide, fun p hp => ⟨_, p, _, _, [.type "list", .type "tuple"], _, rfl, upd_same, .cons (.ty _) (.cons (.ty _) .nil), (Kd.int y).ty, kit_lt (H := upd H p (.tup [.ty "list", .ty "tuple"])) (Kd.int y), _, rfl, ?_⟩⟩
  exact iteN (by decide) ⟨_, rfl, q _ _ (hS.go (same_new hp)) (Sbut.of (same_new hp)) rfl⟩
theorem okLooseS {α : Type} {R R' : DR α} {ok : α → Prop} {n k M : Nat} (mR : Mono R) (mR' : Mono R') (hM : M ≤ 100) (T : Txt K mg) (G : FnOk P w K mg base CX0 (k + 1) T.f_loose T.d_loose ["_law_stream_here", "_law_thing"] (spLoose R R' ok n)) :
    FnOk P w K mg base CX0 (k + 2) T.f_loose T.d_loose ["_law_stream_here", "_law_thing"] (spLoose (SeqR R) (SeqR R') (fun l => l.length ≤ M ∧ ∀ y ∈ l, ok y) (M * n + 1)) := by
  refine T.D_loose.F.ok scLoose loose_len (fun cdv A outer s H vs Q E hr h => ?_)
  obtain ⟨st, c, L, b, x, l, rfl, hS, hL, hO, ⟨a, xs, rfl, ha, hp⟩, ⟨hlM, hok⟩, q⟩ := h
  refine ⟨_, pss_cons (ps_if (pt_val (pe_callB call_isiT (by rfl) T.z_isinstance (by decide +kernel) (pa_cons (pv 1) (pa_cons (pe_tup (pa_cons (pe_bltn (v := .ty "list") (by rfl) T.z_list (by decide +kernel) rfl) (pa_cons (pe_bltn (v := .ty "tuple") (by rfl) T.z_tuple (by decide +kernel) rfl) pa_nil))) pa_nil))))
      (pss_cons (ps_setLc (i := 2) (own := [("_law_one", 3)]) (g := gName 3) (tt := tYes) rfl scLoose.nd rfl rfl (sw_true rfl rfl rfl (by decide +kernel)) (pi_sq (pv 1)) (blkOk_by (N := nmLoose) (sc := defScope sLoose) (by decide +kernel))
          (fun _ _ _ _ _ => pg_name (i := 3) scLoose.nd rfl (Or.inl rfl)) (fun _ _ _ _ _ => pts_nil) (fun _ _ _ _ _ => pe_df G T.D_loose hr rfl (pa_cons (pv 0) (pa_cons (pv 3) pa_nil))))
        (pss_one (ps_ret (pe_ifExp (pt_cmpR op_eq (pe_df (okDraw T) T.D_draw (hr.mono (by omega)) rfl (pa_cons (pv 0) (pa_cons pe_int pa_nil))) pe_int (nomark _)) (pv 2) (pe_callTy call_tuple_of (by rfl) T.z_tuple (by decide +kernel) (pa_cons (pv 2) pa_nil))))))
      pss_nil) (pss_one (ps_ret (pv 1))), ?_⟩
  have ha' : Sq H a xs := ha.go (hid_sub _ _)
  have naL : a ∉ L := by
    rcases ha with z | z
    · exact (hid_some z).1
    · exact (hid_some z).1
  have nas : a ∉ [st, c] := fun z => naL (hL a z)
  obtain ⟨nm, kd, hn⟩ := lt_of_sq ha'
  refine ⟨_, rfl, by show 2 ≤ sizeLine; decide, fun p hp2 => ⟨_, p, _, _, [.type "list", .type "tuple"], _, rfl, upd_same, .cons (.ty _) (.cons (.ty _) .nil), (kd.go (same_new hp2)).ty, kit_lt kd, _, rfl, ?_⟩⟩
  refine iteY hn ?_
  have s1 : Same H (upd H p (.tup [.ty "list", .ty "tuple"])) := same_new hp2
  generalize upd H p (.tup [.ty "list", .ty "tuple"]) = H1 at s1
  have a1 : Sq H1 a xs := ha'.go s1
  have p1 : Paired (R (hid L H1)) xs l := hp.mono fun _ _ z => mR _ _ _ _ (hid_mono s1) z
  have hS1 := hS.go s1
  have hO1 := hO.go s1
  have lx := hp.length
  refine sq1 (lc_sq rfl a1 (fun D i H' => H1 D = none ∧ MapH L R' H1 D (l.take i) H' ∧ Strm H' st c (b + 1 + (M - i) * n) ∧ Occ L H' ∧ Sbut st c H1 H') (fun D hD => ⟨hD, MapH.start hD, ?_, ?_, (Sbut.of (Same.refl H1)).new hD⟩) (fun D i H' _ z => ?_) (fun D hD i x H' hx z => ?_) (fun D H' hD z => ?_))
  · rw [Nat.sub_zero]
    exact strm_upd (hS1.mono (by omega)) (hS1.fresh hD)
  · exact hO1.go (same_new hD)
  · obtain ⟨_, _, _, _, sb⟩ := z
    rcases a1 with e | e
    · rw [e, sb.at e nas]
    · rw [e, sb.at e nas]
  · obtain ⟨_, mh, hS', hO', sb⟩ := z
    obtain ⟨y, hy, hR⟩ := pd_get p1 hx
    have hi : i < M := by have := (List.getElem?_eq_some_iff.mp hy).1; omega
    obtain ⟨acc, hacc, ss, _⟩ := id mh
    have nD := hO1.out hD
    have nDs : D ∉ [st, c] := fun z => nD (hL D z)
    have eMn : (M - i) * n = (M - (i + 1)) * n + n := by
      have : M - i = (M - (i + 1)) + 1 := by omega
      rw [this, Nat.add_mul, Nat.one_mul]
    refine ⟨rfl, ?_⟩
    refine iteY (B := H1 D = none ∧ MapH L R' H1 D (l.take (i + 1)) H' ∧ Strm H' st c (b + 1 + (M - (i + 1)) * n) ∧ Occ L H' ∧ Sbut st c H1 H') rfl ?_
    refine ⟨_, rfl, _, rfl, st, c, D :: L, b + 1 + (M - (i + 1)) * n, x, y, rfl, hS'.mono (by omega), fun z hz => List.mem_cons_of_mem _ (hL z hz), fun z hz => ?_, mR _ _ _ _ ss hR, hok y (List.mem_of_getElem? hy), fun H2 v hS2 sb2 hR2 => ?_⟩
    · rcases List.mem_cons.mp hz with e | e
      · exact ⟨_, by rw [e]; exact hacc⟩
      · exact hO' z e
    · obtain ⟨acc2, h1, h2, h3⟩ := (mh.keep mR' hL nDs sb2).add hR2
      refine ⟨acc2, h1, ?_, hD, ?_, strm_upd hS2 nDs, ?_, (sb.trans' sb2).new hD⟩
      · rw [h2, List.length_take]
        exact small1000 (by omega)
      · rw [List.take_add_one, hy]
        exact h3
      · intro z hz
        obtain ⟨o, ho⟩ := hO'.but sb2 hS2 z hz
        exact ⟨o, by rw [upd_ne (fun e => nD (by rw [← e]; exact hz))]; exact ho⟩
  · obtain ⟨_, mh, hS', hO', sb⟩ := z
    rw [lx, List.take_length] at mh
    obtain ⟨acc, hacc, ss, hpa⟩ := mh
    have nD := hO1.out hD
    have nDs : D ∉ [st, c] := fun z => nD (hL D z)
    refine ⟨_, rfl, st, c, b, 2, rfl, hS'.mono (by omega), by decide, by decide, fun H2 d hS2 sb2 d0 d2 => ⟨rfl, _, rfl, ?_⟩⟩
    have sb12 : Sbut st c H H2 := ((Sbut.of s1).trans' sb).trans' sb2
    have hacc2 := sb2.at hacc nDs
    have sH2 : Same (hid (D :: L) H') (hid (D :: L) H2) := hid_more sb2 fun z hz => List.mem_cons_of_mem _ (hL z hz)
    have hp2' : Paired (R' (hid L H2)) acc l := hpa.mono fun _ _ z => mR' _ _ _ _ (sH2.trans hid_cons) z
    by_cases hd0 : d = 0
    · exact iteY (decide_eq_true (by rw [hd0])) ⟨_, rfl, q H2 _ hS2 sb12 ⟨D, acc, rfl, .inl (by rw [hid_eq nD]; exact hacc2), hp2'⟩⟩
    · refine iteN (decide_eq_false fun z => hd0 (V.int.inj z)) ⟨_, rfl, D, acc, rfl, .inl ⟨SqL.of hacc2, fun t ht => ?_⟩⟩
      have nt := (hO'.but sb2 hS2).out ht
      refine q _ _ (hS2.go (same_new ht)) (sb12.trans' (Sbut.of (same_new ht))) ⟨t, acc, rfl, .inr (by rw [hid_eq nt, upd_same]), hp2'.mono fun _ _ z => mR' _ _ _ _ (hid_mono (same_new ht)) z⟩
/-- a bundle's parts, loosened -/
theorem tp_seq {H : Hp} {v : V} {q : Int × Int} (h : TpR H v q) : SeqR IntR H v [q.1, q.2] := by
  obtain ⟨a, rfl, h⟩ := h
  exact ⟨a, _, rfl, .inr h, .cons rfl (.cons rfl .nil)⟩
theorem seq_pair {H : Hp} {v : V} {q : Int × Int} (h : SeqR IntR H v [q.1, q.2]) : PairR H v q := by
  obtain ⟨a, xs, rfl, h, hp⟩ := h
  rw [ints_eq hp] at h
  exact ⟨a, rfl, h⟩
theorem okLooseP (T : Txt K mg) : FnOk P w K mg base CX0 3 T.f_loose T.d_loose ["_law_stream_here", "_law_thing"] (spLoose TpR PairR (fun _ => True) 1) :=
  (okLooseS (M := 2) mIntR mIntR (by decide) T (okLoose0 T)).imp fun vs H Q E ⟨st, c, L, b, x, y, e, hS, hL, hO, hR, _, q⟩ =>
    ⟨st, c, L, b, x, [y.1, y.2], e, hS, hL, hO, tp_seq hR, ⟨Nat.le_refl _, fun _ _ => trivial⟩, fun H' v h1 h2 h3 => q H' v h1 h2 (seq_pair h3)⟩
/-- what the law hands out loosened -/
def okBuns (bs : List Bun) : Prop := bs.length ≤ 5 ∧ ∀ b ∈ bs, b.length ≤ 6 ∧ ∀ row ∈ b, row.length ≤ 4
theorem okLoose (T : Txt K mg) : FnOk P w K mg base CX0 6 T.f_loose T.d_loose ["_law_stream_here", "_law_thing"] (spLoose BunsL BunsR okBuns 156) :=
  (okLooseS (M := 5) (mSeqR (mSeqR mTpR)) mBunR (by decide) T (okLooseS (M := 6) (mSeqR mTpR) mRowR (by decide) T (okLooseS (M := 4) mTpR mPairR (by decide) T (okLooseP T)))).imp fun vs H Q E ⟨st, c, L, b, x, y, e, hS, hL, hO, hR, hok, q⟩ =>
    ⟨st, c, L, b, x, y, e, hS, hL, hO, (hR.seq).up fun v z h => (h.seq).up fun v z h => h.seq, ⟨hok.1, fun bu hb => ⟨(hok.2 bu hb).1, fun row hr => ⟨(hok.2 bu hb).2 row hr, fun _ _ => trivial⟩⟩⟩, q⟩
end Qb
set_option Elab.async false
set_option linter.all false
set_option maxRecDepth 100000
set_option maxHeartbeats 4000000
/-! # _law_same -/
namespace Qb
open PySem L2
open PySem.Spec hiding Row
open PyProof.Rows hiding St
open Qm
variable {P : Program} {w : World} {K : PySem.W.Frag} {mg : Str → Option Value} {base : Heap}
abbrev nmSame : List Str := ["_law_found", "_law_due_here", "_law_mine", "_law_theirs"]
theorem scSame : FnScope nmSame ["_law_found", "_law_due_here"] (defScope sSame) := ⟨rfl, rfl, rfl, by decide +kernel, rfl, by decide +kernel, by decide +kernel⟩
def spSame {α : Type} [DecidableEq α] (R : DR α) : Sp := fun vs H Q _ => ∃ (x y : V) (a b : α), vs = [x, y] ∧ R H x a ∧ R H y b ∧ ∀ H', Same H H' → Q (.bl (decide (a = b))) H'
theorem same_len {α : Type} [DecidableEq α] {R : DR α} (vs : List V) (H : Hp) (Q : VK) (E : XK) (h : spSame R vs H Q E) : vs.length = (["_law_found", "_law_due_here"] : List Str).length := by
  obtain ⟨x, y, a, b, rfl, _⟩ := h
  rfl
theorem okSame0 (T : Txt K mg) : FnOk P w K mg base CX0 1 T.f_same T.d_same ["_law_found", "_law_due_here"] (spSame IntR) := by
  refine T.D_same.F.ok scSame same_len (fun cdv A outer s H vs Q E hr h => ?_)
  obtain ⟨x, y, i, j, rfl, h1, h2, q⟩ := h
  cases (show x = .int i from h1)
  cases (show y = .int j from h2)
  refine ⟨_, pss_cons (ps_if (pt_val (pe_callB call_isiT (by rfl) T.z_isinstance (by decide +kernel) (pa_cons (pv 1) (pa_cons (pe_tup (pa_cons (pe_bltn (v := .ty "list") (by rfl) T.z_list (by decide +kernel) rfl) (pa_cons (pe_bltn (v := .ty "tuple") (by rfl) T.z_tuple (by decide +kernel) rfl) pa_nil))) pa_nil)))) (pss_cons ps_never (pss_one ps_never)) pss_nil)
    (pss_cons (ps_if (pt_val (pe_callB call_isi (by rfl) T.z_isinstance (by decide +kernel) (pa_cons (pv 1) (pa_cons (pe_bltn (v := .ty "dict") (by rfl) T.z_dict (by decide +kernel) rfl) pa_nil)))) (pss_one ps_never) pss_nil)
    (pss_cons (ps_if (PW.pt (pw_or (pt_val (pe_callB call_isi (by rfl) T.z_isinstance (by decide +kernel) (pa_cons (pv 1) (pa_cons (pe_bltn (v := .ty "bool") (by rfl) T.z_bool (by decide +kernel) rfl) pa_nil)))) (pw_or1 (pt_val (pe_callB call_isi (by rfl) T.z_isinstance (by decide +kernel) (pa_cons (pv 0) (pa_cons (pe_bltn (v := .ty "bool") (by rfl) T.z_bool (by decide +kernel) rfl) pa_nil))))))) (pss_one ps_never) pss_nil)
    (pss_one (ps_ret (pe_and (pe_not (pe_callB call_isiT (by rfl) T.z_isinstance (by decide +kernel) (pa_cons (pv 0) (pa_cons (pe_tup (pa_cons (pe_bltn (v := .ty "list") (by rfl) T.z_list (by decide +kernel) rfl) (pa_cons (pe_bltn (v := .ty "tuple") (by rfl) T.z_tuple (by decide +kernel) rfl) (pa_cons (pe_bltn (v := .ty "dict") (by rfl) T.z_dict (by decide +kernel) rfl) pa_nil)))) pa_nil)))) (pe_one (pe_cmp (pc_eqI (pv 0) (pv 1)) rfl))))))), ?_⟩
  refine ⟨_, rfl, by show 2 ≤ sizeLine; decide, fun p hp => ⟨_, p, _, _, [.type "list", .type "tuple"], _, rfl, upd_same, .cons (.ty _) (.cons (.ty _) .nil), (Kd.int j).ty, kit_lt (H := H) (Kd.int j), _, rfl, iteN (by decide) ?_⟩⟩
  refine ⟨_, rfl, _, _, _, _, false, rfl, .ty _, .base (.int j), kit_ty (by decide +kernel), _, rfl, iteN rfl ?_⟩
  refine ⟨_, rfl, _, _, _, _, false, rfl, .ty _, .base (.int j), kit_ty (by decide +kernel), _, rfl, iteN rfl ?_⟩
  refine ⟨_, rfl, _, _, _, _, false, rfl, .ty _, .base (.int i), kit_ty (by decide +kernel), _, rfl, iteN rfl ?_⟩
  refine ⟨_, rfl, by show 3 ≤ sizeLine; decide, fun p2 hp2 => ⟨_, p2, _, _, [.type "list", .type "tuple", .type "dict"], false, rfl, upd_same, .cons (.ty _) (.cons (.ty _) (.cons (.ty _) .nil)), (Kd.int i).ty, ?_, _, rfl, _, rfl, iteY rfl ?_⟩⟩
  · exact kitAny_cons (b := false) (kit_ty (by decide +kernel)) (fun _ => kitAny_cons (b := false) (kit_ty (by decide +kernel)) (fun _ => kitAny_cons (b := false) (kit_ty (by decide +kernel)) (fun _ => kitAny_nil) (fun z => nomatch z)) (fun z => nomatch z)) (fun z => nomatch z)
  · exact ⟨_, rfl, _, rfl, _, _, rfl, rfl, q _ ((same_new hp).trans (same_new hp2))⟩
theorem zip_all {α : Type} [DecidableEq α] : ∀ (l m : List α), l.length = m.length → (((l.zip m).map fun p => decide (p.1 = p.2)).all id) = decide (l = m)
  | [], [], _ => rfl
  | [], _ :: _, h => by simp at h
  | _ :: _, [], h => by simp at h
  | x :: l, y :: m, h => by
    have ih := zip_all l m (by simpa using h)
    rw [List.zip_cons_cons, List.map_cons, List.all_cons, ih]
    show (decide (x = y) && decide (l = m)) = _
    rw [← Bool.decide_and]
    exact decide_eq_decide.mpr ⟨fun ⟨a, b⟩ => by rw [a, b], fun e => ⟨(List.cons.inj e).1, (List.cons.inj e).2⟩⟩
theorem okSameS {α : Type} [DecidableEq α] {R : DR α} {k : Nat} (mR : Mono R) (T : Txt K mg) (G : FnOk P w K mg base CX0 (k + 1) T.f_same T.d_same ["_law_found", "_law_due_here"] (spSame R)) :
    FnOk P w K mg base CX0 (k + 2) T.f_same T.d_same ["_law_found", "_law_due_here"] (spSame (fun H v l => LstR R H v l ∧ l.length ≤ 100)) := by
  refine T.D_same.F.ok scSame same_len (fun cdv A outer s H vs Q E hr h => ?_)
  obtain ⟨x, y, l, m, rfl, ⟨⟨a, xs, rfl, ha, hp⟩, hl⟩, ⟨⟨b, ys, rfl, hb, hq⟩, hm⟩, q⟩ := h
  refine ⟨_, pss_cons (ps_if (pt_val (pe_callB call_isiT (by rfl) T.z_isinstance (by decide +kernel) (pa_cons (pv 1) (pa_cons (pe_tup (pa_cons (pe_bltn (v := .ty "list") (by rfl) T.z_list (by decide +kernel) rfl) (pa_cons (pe_bltn (v := .ty "tuple") (by rfl) T.z_tuple (by decide +kernel) rfl) pa_nil))) pa_nil))))
      (pss_cons (ps_if (PW.pt (pw_or (pt_cmpR op_ne (pe_callB call_isi (by rfl) T.z_isinstance (by decide +kernel) (pa_cons (pv 0) (pa_cons (pe_bltn (v := .ty "list") (by rfl) T.z_list (by decide +kernel) rfl) pa_nil))) (pe_callB call_isi (by rfl) T.z_isinstance (by decide +kernel) (pa_cons (pv 1) (pa_cons (pe_bltn (v := .ty "list") (by rfl) T.z_list (by decide +kernel) rfl) pa_nil))) (nomark _))
          (pw_or1 (pt_cmpR op_ne (pe_callB call_isi (by rfl) T.z_isinstance (by decide +kernel) (pa_cons (pv 0) (pa_cons (pe_bltn (v := .ty "tuple") (by rfl) T.z_tuple (by decide +kernel) rfl) pa_nil))) (pe_callB call_isi (by rfl) T.z_isinstance (by decide +kernel) (pa_cons (pv 1) (pa_cons (pe_bltn (v := .ty "tuple") (by rfl) T.z_tuple (by decide +kernel) rfl) pa_nil))) (nomark _))))) (pss_one ps_never) pss_nil)
        (pss_one (ps_ret (pe_and (pe_cmp (pc_eqI (pe_callB call_len_seq (by rfl) T.z_len PySem.boot_len (pa_cons (pv 0) pa_nil)) (pe_callB call_len_seq (by rfl) T.z_len PySem.boot_len (pa_cons (pv 1) pa_nil))) rfl)
          (pe_one (pe_callB (cr_all rfl) (by rfl) T.z_all (by decide +kernel) (pa_cons (pe_lc (own := [("_law_mine", 2), ("_law_theirs", 3)]) (g := gTup K 2 (gCons (gName 2) (gCons (gName 3) gNil))) (tt := tYes) rfl scSame.nd (pi_zip (by rfl) T.z_zip (pa_cons (pv 0) (pa_cons (pv 1) pa_nil))) (blkOk_by (N := nmSame) (sc := defScope sSame) (by decide +kernel))
            (fun _ _ _ _ _ => pg_tup rfl (pgs_cons (pg_name (i := 2) scSame.nd rfl (Or.inl rfl)) (pgs_cons (pg_name (i := 3) scSame.nd rfl (Or.inl rfl)) pgs_nil))) (fun _ _ _ _ _ => pts_nil) (fun _ _ _ _ _ => pe_df G T.D_same hr rfl (pa_cons (pv 2) (pa_cons (pv 3) pa_nil)))) pa_nil)))))))
      pss_nil)
    (pss_cons ps_never (pss_cons ps_never (pss_one ps_never))), ?_⟩
  refine ⟨_, rfl, by show 2 ≤ sizeLine; decide, fun p hp0 => ⟨_, p, _, _, [.type "list", .type "tuple"], _, rfl, upd_same, .cons (.ty _) (.cons (.ty _) .nil), (Kd.lst (same_new hp0 _ _ hb)).ty, kit_lt (H := H) (Kd.lst hb), _, rfl, iteY (by decide) ?_⟩⟩
  have s1 : Same H (upd H p (.tup [.ty "list", .ty "tuple"])) := same_new hp0
  generalize upd H p (.tup [.ty "list", .ty "tuple"]) = H1 at s1
  have ha1 := s1 _ _ ha
  have hb1 := s1 _ _ hb
  refine ⟨_, rfl, _, _, _, _, true, rfl, .ty _, (Kd.lst ha1).ty, kit_ty (by decide +kernel), _, rfl, _, _, _, _, true, rfl, .ty _, (Kd.lst hb1).ty, kit_ty (by decide +kernel), rfl, _, rfl, iteN (by decide) ?_⟩
  refine ⟨_, rfl, _, _, _, _, false, rfl, .ty _, (Kd.lst ha1).ty, kit_ty (by decide +kernel), _, rfl, _, _, _, _, false, rfl, .ty _, (Kd.lst hb1).ty, kit_ty (by decide +kernel), rfl, _, rfl, iteN (by decide) ?_⟩
  have lx := hp.length
  have ly := hq.length
  refine ⟨_, rfl, a, xs, rfl, .inl (SqL.of ha1), _, rfl, b, ys, rfl, .inl (SqL.of hb1), _, _, rfl, rfl, _, rfl, ?_⟩
  by_cases hlen : xs.length = ys.length
  · refine iteY (decide_eq_true (by rw [hlen])) ?_
    refine cb1 ⟨_, rfl, _, rfl, a, b, xs, ys, rfl, SqL.of ha1, SqL.of hb1, fun D hD => lc_it (walk_zip (n := xs.length) (xs := xs) (ys := ys) (by omega)) (fun i H' => MapI BlR H1 D (((l.zip m).take i).map fun p => decide (p.1 = p.2)) H') (MapI.start hD) (fun i H' _ z => ?_) (fun i x H' H2 hi z hy => ?_) (fun H' z => ?_)⟩
    · obtain ⟨acc, _, s0, _⟩ := z
      exact ⟨SqL.of (hid_sub _ _ _ _ (s0 _ _ ha1)), SqL.of (hid_sub _ _ _ _ (s0 _ _ hb1))⟩
    · obtain ⟨Tp, x1, y1, rfl, hTp, rfl, hx1, hy1⟩ := hy
      obtain ⟨u, hu, ru⟩ := pd_get hp hx1
      obtain ⟨v, hv, rv⟩ := pd_get hq hy1
      have s0 : Same H1 H' := by
        obtain ⟨acc, _, s0, _⟩ := z
        exact s0.trans (hid_sub _ _)
      have sT : Same H' (upd H' Tp (.tup [x1, y1])) := same_new hTp
      refine ⟨Tp, _, rfl, SqT.of upd_same, rfl, _, _, rfl, _, _, rfl, rfl, rfl, ?_⟩
      refine iteY (B := MapI BlR H1 D (((l.zip m).take (i + 1)).map fun p => decide (p.1 = p.2)) (upd H' Tp (.tup [x1, y1]))) rfl ?_
      refine ⟨_, rfl, _, rfl, x1, y1, u, v, rfl, mR _ _ _ _ ((s1.trans s0).trans sT) ru, mR _ _ _ _ ((s1.trans s0).trans sT) rv, fun H3 s3 => ?_⟩
      have hlt : (((l.zip m).take i).map fun p => decide (p.1 = p.2)).length < sizeLine := by
        rw [List.length_map, List.length_take, List.length_zip]
        exact small1000 (by omega)
      obtain ⟨acc, e1, e2, e3⟩ := z.add (v := .bl (decide (u = v))) (z := decide (u = v)) mBlR (sT.trans s3) hlt rfl
      refine ⟨acc, e1, e2, ?_⟩
      have ez : (l.zip m)[i]? = some (u, v) := by rw [List.getElem?_zip_eq_some]; exact ⟨hu, hv⟩
      rw [List.take_add_one, ez, List.map_append]
      exact e3
    · have hzl : (l.zip m).length = xs.length := by rw [List.length_zip]; omega
      rw [← hzl, List.take_length] at z
      obtain ⟨sD, _, zs, e, hz, hpz⟩ := z.out mBlR hD
      cases e
      refine ⟨D, _, rfl, SqL.of (by rw [hz, bls_eq hpz]), ?_⟩
      rw [zip_all l m (by omega)]
      exact q _ (s1.trans sD)
  · refine iteN (decide_eq_false fun e => hlen (by omega)) ?_
    have e : decide (l = m) = false := decide_eq_false fun e => hlen (by rw [lx, ly, e])
    rw [e] at q
    exact q _ s1
end Qb
set_option Elab.async false
set_option linter.all false
set_option maxRecDepth 100000
set_option maxHeartbeats 4000000
/-! # repr, a keyword alone -/
namespace Qb
open PySem L2
open PySem.Spec hiding Row
open PyProof.Rows hiding St
open Qm
/-! ### repr -/
/-- a datum whose display is short -/
structure Fit (n k : Nat) (d : PyData) : Prop where
  sh : d.leavesShort 13 = true
  ok : d.showable = true
  nd : d.hasDict = false
  bk : d.bulk ≤ n
  dp : d.depth ≤ k
structure Fits (m n k : Nat) (ds : List PyData) : Prop where
  sh : PyData.leavesShortAll 13 ds = true
  ok : PyData.showableAll ds = true
  nd : PyData.hasDictAll ds = false
  bk : PyData.bulkAll ds ≤ m * (n + 1)
  dp : PyData.depthAll ds ≤ k
theorem Fits.nil {n k : Nat} : Fits 0 n k [] := ⟨by simp [PyData.leavesShortAll], by simp [PyData.showableAll], by simp [PyData.hasDictAll], by simp [PyData.bulkAll], by simp [PyData.depthAll]⟩
theorem Fits.cons {m n k : Nat} {d : PyData} {ds : List PyData} (a : Fit n k d) (b : Fits m n k ds) : Fits (m + 1) n k (d :: ds) := by
  refine ⟨?_, ?_, ?_, ?_, ?_⟩
  · simp [PyData.leavesShortAll, a.sh, b.sh]
  · simp [PyData.showableAll, a.ok, b.ok]
  · simp [PyData.hasDictAll, a.nd, b.nd]
  · have h1 := a.bk
    have h2 := b.bk
    simp only [PyData.bulkAll, Nat.add_mul, Nat.one_mul] at *
    omega
  · have h1 := a.dp
    have h2 := b.dp
    simp only [PyData.depthAll]
    omega
theorem Fits.list {m n k M : Nat} {ds : List PyData} (h : Fits m n k ds) (hm : m ≤ M) : Fit (M * (n + 1)) (k + 1) (.list ds) :=
  ⟨by simp only [PyData.leavesShort]; exact h.sh, by simp only [PyData.showable]; exact h.ok, by simp only [PyData.hasDict]; exact h.nd, by simp only [PyData.bulk]; exact Nat.le_trans h.bk (Nat.mul_le_mul_right _ hm), by simp only [PyData.depth]; have := h.dp; omega⟩
theorem Fits.tuple {m n k M : Nat} {ds : List PyData} (h : Fits m n k ds) (hm : m ≤ M) : Fit (M * (n + 1)) (k + 1) (.tuple ds) :=
  ⟨by simp only [PyData.leavesShort]; exact h.sh, by simp only [PyData.showable]; exact h.ok, by simp only [PyData.hasDict]; exact h.nd, by simp only [PyData.bulk]; exact Nat.le_trans h.bk (Nat.mul_le_mul_right _ hm), by simp only [PyData.depth]; have := h.dp; omega⟩
theorem fit_int {i : Int} (h0 : 0 ≤ i) (h1 : i ≤ 100) : Fit 0 0 (.int i) := by
  obtain ⟨n, rfl⟩ := Int.eq_ofNat_of_zero_le h0
  have hn : n < 101 := by omega
  have sh : ∀ j : Fin 101, (PyData.leavesShort 13 (.int (j.val : Nat)) && PyData.showable (.int (j.val : Nat))) = true := by decide +kernel
  have z := sh ⟨n, hn⟩
  rw [Bool.and_eq_true] at z
  exact ⟨z.1, z.2, by simp [PyData.hasDict], by simp [PyData.bulk], by simp [PyData.depth]⟩
section
variable {K : PySem.W.Frag}
/-- a value that shows short -/
def Shn (K : PySem.W.Frag) (n k : Nat) (H : Hp) (v : V) : Prop := ∃ d, Dp K H v d ∧ Fit n k d
theorem shn_all {n k : Nat} {H : Hp} : ∀ {xs : List V}, (∀ x ∈ xs, Shn K n k H x) → ∃ ds, DpAll K H xs ds ∧ Fits xs.length n k ds
  | [], _ => ⟨[], .nil, Fits.nil⟩
  | x :: xs, h => by
    obtain ⟨d, h1, h2⟩ := h x List.mem_cons_self
    obtain ⟨ds, h3, h4⟩ := shn_all fun y hy => h y (List.mem_cons_of_mem _ hy)
    exact ⟨d :: ds, .cons h1 h3, .cons h2 h4⟩
theorem shn_sq {n k M : Nat} {H : Hp} {a : Addr} {xs : List V} (ha : Sq H a xs) (hM : xs.length ≤ M) (h : ∀ x ∈ xs, Shn K n k H x) : Shn K (M * (n + 1)) (k + 1) H (.ref a) := by
  obtain ⟨ds, h1, h2⟩ := shn_all h
  rcases ha with ha | ha
  · exact ⟨_, .lst (SqL.of ha) h1, h2.list hM⟩
  · exact ⟨_, .tup (SqT.of ha) h1, h2.tuple hM⟩
theorem shn_int {H : Hp} {i : Int} (h0 : 0 ≤ i) (h1 : i ≤ 100) : Shn K 0 0 H (.int i) := ⟨_, .int i, fit_int h0 h1⟩
theorem shn_seq {α : Type} {R : DR α} {n k M : Nat} {H : Hp} {v : V} {l : List α} (h : SeqR R H v l) (hM : l.length ≤ M) (hR : ∀ v y, y ∈ l → R H v y → Shn K n k H v) : Shn K (M * (n + 1)) (k + 1) H v := by
  obtain ⟨a, xs, rfl, ha, hp⟩ := h
  refine shn_sq ha (by rw [hp.length]; exact hM) fun x hx => ?_
  obtain ⟨i, hi⟩ := List.getElem?_of_mem hx
  obtain ⟨y, hy, r⟩ := pd_get hp hi
  exact hR x y (List.mem_of_getElem? hy) r
theorem shn_pair {H : Hp} {v : V} {q : Int × Int} (h : PairR H v q) (h1 : 0 ≤ q.1 ∧ q.1 ≤ 100) (h2 : 0 ≤ q.2 ∧ q.2 ≤ 100) : Shn K 2 1 H v := by
  obtain ⟨a, rfl, ha⟩ := h
  refine shn_sq (n := 0) (k := 0) (M := 2) ha (Nat.le_refl _) fun x hx => ?_
  rcases List.mem_cons.mp hx with e | e
  · rw [e]; exact shn_int h1.1 h1.2
  · rw [List.mem_singleton.mp e]; exact shn_int h2.1 h2.2
theorem sqt_go {H H' : Hp} {a : Addr} {xs : List V} (s : Same H H') (h : SqT K H a xs) : SqT K H' a xs := by
  rcases h with (h | ⟨o, h⟩) | h
  · exact .inl (.inl (s _ _ h))
  · exact .inl (.inr ⟨o, s _ _ h⟩)
  · exact .inr h
mutual
theorem dp_go {H H' : Hp} (s : Same H H') : ∀ (d : PyData) (v : V), Dp K H v d → Dp K H' v d
  | .none, _, h => by cases h; exact .non
  | .bool b, _, h => by cases h; exact .bl b
  | .int i, _, h => by cases h; exact .int i
  | .str x, _, h => by cases h; exact .str x
  | .list ds, _, h => by
    cases h with
    | lst a b => exact .lst (s.seq a) (dps_go s ds _ b)
  | .tuple ds, _, h => by
    cases h with
    | tup a b => exact .tup (sqt_go s a) (dps_go s ds _ b)
  | .dict _, _, h => nomatch h
theorem dps_go {H H' : Hp} (s : Same H H') : ∀ (ds : List PyData) (vs : List V), DpAll K H vs ds → DpAll K H' vs ds
  | [], _, h => by cases h; exact .nil
  | d :: ds, _, h => by
    cases h with
    | cons a b => exact .cons (dp_go s d _ a) (dps_go s ds _ b)
end
end
section
variable {X : Cx}
def rRepr (K : PySem.W.Frag) : List V → Hp → VK → Prop := fun xs H Q => ∃ (a : Addr) (d : PyData) (n k : Nat), xs = [.ref a] ∧ Dp K H (.ref a) d ∧ Fit n k d ∧ n ≤ 2 ^ 20 ∧ k ≤ 8 ∧ Q (.str d.shown) H
theorem cr_repr (hg : X.A.guards = some []) (hu : X.A.units + 64 < cLine) : CallR X (.builtin "repr") (rRepr X.K) := by
  intro pins s σ H xs us Q I r h
  obtain ⟨a, d, n, k, rfl, hd, f, hn, hk, q⟩ := h
  obtain ⟨u, rfl, ru⟩ := vals1 r
  obtain rfl : u = Value.ref a := ru
  obtain ⟨as, rd⟩ := Dp.reads I d _ _ hd rfl
  have hz := f.dp
  exact PySem.repr_of_reads' rd f.ok (PyData.noDict_hsm f.nd) hg (by omega) (fun _ _ e => e) (fun h' u tk kp => ⟨.str d.shown, H, I.kept kp, ⟨_, rfl⟩, q⟩) (PyData.shown_fits_bulk (B := 13) (by decide) (by decide) f.sh (Nat.le_trans f.bk hn))
/-! ### f(k=v), no other argument -/
theorem pe_callK0 {CX : CXT} {k : Nat} {f : Addr} {fd : FuncData} {ps ks : List Str} {sp : Sp} {E : XK} {x : Str} {p pos : Pos} {kws : List Keyword} {tk : TA} {g : List Value → List Value → List Value} {gV : List V → List V → List V}
    (F : FnOk X.prog X.w X.K X.mg X.base CX k f fd ps sp) (hr : Room k X.A) (hg : Gl X x) (hm : X.mg x = some (.ref f)) (hk : PySem.W.keepIn X.K (.ref f) = true) (hb : KBinds X.K fd ps ks g gV) (hx : Passes CX X E) (hkw : PK X kws tk)
    (hall : (backToKw pos (keywordEach kws X.env)).all (·.1.isSome) = true := by rfl) (hks : (backToKw pos (keywordEach kws X.env)).filterMap (·.1) = ks := by rfl) (hdb : (x == ("__debug__" : Str)) = false := by decide)
    (hpl : ((backTo pos (starEach [] X.env)).any (·.1) || (backToKw pos (keywordEach kws X.env)).any (·.1.isNone)) = false := by rfl) :
    PE X (.Call (.Name x p) [] kws pos) (tCallK sp gV E tNil tk) := by
  refine ⟨fun ls s0 τ H0 Q0 J hh => ?_⟩
  refine wpAny_Call_Name_kw (ld_glob J hg hm ?_ hdb)
  refine PySem.W.callWith_KW0 (h₀ := X.base) J.ok.mod.kin hk hall ?_ hpl
  refine thn (hkw.run pos ls s0 τ H0 _ J hh) fun ws s2 ⟨zs, H2, J2, rz, q2⟩ => ⟨J2.kIn, ?_⟩
  rw [hks]
  exact run_fnk (us := []) (vs := []) F hr hb hx J2 .nil rz q2
theorem kb1 {K : PySem.W.Frag} {x qual n : Str} {st : Stmt} {f : Addr} {fd : FuncData} (F : Fun K x qual st f fd) (h2 : ∀ (dV kV doc pm : Value) (an : Option Addr) (cdv ct u : Value), bindArgs (PySem.W.fnOf x qual (defArgs st) (defBody st) (defScope st) .none kV doc pm an cdv ct) ⟨[u], []⟩ = pure [(n, u)]) (h : ∀ (dV kV doc pm : Value) (an : Option Addr) (cdv ct u : Value), bindArgs (PySem.W.fnOf x qual (defArgs st) (defBody st) (defScope st) .none kV doc pm an cdv ct) ⟨[], [(n, u)]⟩ = pure [(n, u)]) :
    KBinds K fd [n] [n] (· ++ ·) (· ++ ·) := by
  obtain ⟨oc, od, kV, doc, pm, an, cdv, ct, osl, rfl, _, _⟩ := F.ex
  refine ⟨fun s us ws _ hl => ?_, fun a b => a.append b⟩
  match us, ws, hl with
  | [], [u], _ => exact .of_eq (h .none kV doc pm an cdv ct u)
  | [u], [], _ => exact .of_eq (h2 .none kV doc pm an cdv ct u)
  | u :: v :: us, ws, hl => simp at hl
  | [u], v :: ws, hl => simp at hl
  | [], [], hl => simp at hl
  | [], u :: v :: ws, hl => simp at hl
end
end Qb
set_option Elab.async false
set_option linter.all false
set_option maxRecDepth 100000
set_option maxHeartbeats 4000000
/-! # _law_tried -/
namespace Qb
open PySem L2
open PySem.Spec hiding Row
open PyProof.Rows hiding St
open Qm
variable {P : Program} {w : World} {K : PySem.W.Frag} {mg : Str → Option Value} {base : Heap}
abbrev nmTried : List Str := ["_law_ask", "e"]
theorem scTried : FnScope nmTried ["_law_ask"] (defScope sTried) := ⟨rfl, rfl, rfl, by decide +kernel, rfl, by decide +kernel, by decide +kernel⟩
/-- what _law_tried makes of a call that ends, or raises BadBundles -/
def TTried (K : PySem.W.Frag) (C : Addr) : (XK → Hp → VK → Prop) → Hp → VK → Prop := fun tl H Q =>
  tl (fun cls d H' => cls = .ref C ∧ ∃ (dd : Addr) (i : Int), d = some dd ∧ H' dd = some (.xd [("index", .int i)]) ∧ ∀ t, H' t = none → Q (.ref t) (upd H' t (.tup [.str "bundles", .int i]))) H
    (fun v H1 => ([.str "told", v] : List V).length ≤ sizeLine ∧ ∀ t, H1 t = none → Q (.ref t) (upd H1 t (.tup [.str "told", v])))
theorem tried_gives {X : Cx} (G : Err X.K X.mg) {g : Addr} {cdg : Value} {q : Str} : LamX.GivesTo X nmTried "_law_tried" (defScope sTried) g cdg (defBody sTried) "_law_ask" q (TTried X.K G.C) := by
  intro f c' s H Q tl act hc h
  have hgl : Gl (cxOf C8.CX0 X.prog X.w X.K X.mg X.base nmTried "_law_tried" (defScope sTried) g cdg X.A X.stack s H C8.E0).nox "BadBundles" := rfl
  refine ⟨_, pss_one (ps_try_as (X := (cxOf C8.CX0 X.prog X.w X.K X.mg X.base nmTried "_law_tried" (defScope sTried) g cdg X.A X.stack s H C8.E0).nox) (i := 1) (c := .ref G.C)
      (tb := fun W D σ H => ∃ Ech : XK, (∀ cls d σ' H', Ech cls d H' → σ'.length = 2 → W cls d σ' H') ∧ σ[0]? = some (some (.ref f)) ∧ H c' = some (LamX.CodeO c' q) ∧
        tl Ech H (fun v H1 => ([.str "told", v] : List V).length ≤ sizeLine ∧ ∀ t, H1 t = none → D.rt (.ref t) (upd H1 t (.tup [.str "told", v]))))
      rfl rfl scTried.nd rfl (by rfl) ⟨hgl, by decide, .inl G.gC⟩ LamX.takes0 (fun W pn xe tk _ => ?_)
      (fun a oe cls d pn hz hf => pss_one (ps_ret (pe_tup (pa_cons pe_str (pa_cons (pe_xf G.xf G.no hz hf (pv 1)) pa_nil)))))), ?_⟩
  · refine ⟨fun pins s' σ H' D I h' => ?_⟩
    obtain ⟨Ech, hW, h1, h2, h3⟩ := h'
    have tk2 : Takes ((cxOf C8.CX0 X.prog X.w X.K X.mg X.base nmTried "_law_tried" (defScope sTried) g cdg X.A X.stack s H C8.E0).tr pn xe) (fun cls d σ H => σ.length = 2 → W cls d σ H) := fun u s' z => by
      obtain ⟨a, B, sI, ps, σ1, H1, cls, d, e, I1, nb, up, sky, na, os, ag, z⟩ := z
      exact tk u s' ⟨a, B, sI, ps, σ1, H1, cls, d, e, I1, nb, up, sky, na, os, ag, z I1.len⟩
    exact (pss_one (ps_ret (pe_tup (pa_cons pe_str (pa_cons (act _ pn xe Ech _ _ tk2 hW) pa_nil))))).run pins s' σ H' D I ⟨h1, h2, h3⟩
  · exact ⟨fun cls d H' => cls = .ref G.C ∧ ∃ (dd : Addr) (i : Int), d = some dd ∧ H' dd = some (.xd [("index", .int i)]) ∧ ∀ t, H' t = none → Q (.ref t) (upd H' t (.tup [.str "bundles", .int i])),
      fun cls d σ' H' ⟨e1, dd, i, e2, e3, e4⟩ hl => ⟨true, e1 ▸ G.te, fun _ a _ => ⟨_, List.getElem?_set_self (by omega), rfl, e1, dd, _, _, e2, e3, rfl, by show 2 ≤ sizeLine; decide, fun t ht => e4 t ht⟩, fun z => nomatch z⟩, rfl, hc, h⟩
end Qb
set_option Elab.async false
set_option linter.all false
set_option maxRecDepth 100000
set_option maxHeartbeats 4000000
/-! # The law's mathematics -/
namespace Qb
open PySem L2
open PySem.Spec hiding Row
open PyProof.Rows hiding St
open Qm
def sumV (l : KVs) : Int := (l.map (·.2)).sum
theorem sumV_put : ∀ {l : KVs} (_ : (keys l).Nodup) (k v : Int), sumV (put1 l k v) = sumV l - (get1 l k).getD 0 + v
  | [], _, k, v => by simp [sumV, put1, get1]
  | q :: l, hn, k, v => by
    have hn' : (keys l).Nodup := (List.nodup_cons.mp hn).2
    have hq : q.1 ∉ keys l := (List.nodup_cons.mp hn).1
    by_cases e : q.1 = k
    · have h1 : put1 (q :: l) k v = (q.1, v) :: l := by
        unfold put1
        rw [any_keys, if_pos (by rw [decide_eq_true_eq]; show k ∈ q.1 :: keys l; rw [e]; exact List.mem_cons_self), List.map_cons, if_pos e]
        congr 1
        refine (List.map_congr_left fun x hx => if_neg fun z => hq ?_).trans (List.map_id _)
        rw [e, ← z]
        exact List.mem_map.mpr ⟨x, hx, rfl⟩
      rw [h1, get1_cons, if_pos e]
      show v + sumV l = q.2 + sumV l - q.2 + v
      omega
    · have h1 : sumV (put1 (q :: l) k v) = q.2 + sumV (put1 l k v) := by
        unfold put1
        rw [any_keys, any_keys]
        by_cases m : k ∈ keys l
        · rw [if_pos (by rw [decide_eq_true_eq]; exact List.mem_cons_of_mem _ m), if_pos (by rw [decide_eq_true_eq]; exact m), List.map_cons, if_neg e]
          rfl
        · rw [if_neg (by rw [decide_eq_true_eq]; intro z; rcases List.mem_cons.mp z with z | z; exact e z.symm; exact m z), if_neg (by rw [decide_eq_true_eq]; exact m)]
          rfl
      rw [h1, get1_cons, if_neg e, sumV_put hn' k v]
      show q.2 + (sumV l - _ + v) = q.2 + sumV l - _ + v
      omega
theorem sumV_from : ∀ (b : Bun) (l : KVs), (keys l).Nodup → sumV (dictFrom l b) = sumV l + sumRoom b
  | [], l, _ => by show sumV l = sumV l + 0; omega
  | row :: b, l, hn => by
    show sumV (dictFrom (add1 l (rowLen row) (rowRoom row)) b) = sumV l + (rowRoom row + sumRoom b)
    rw [sumV_from b (add1 l (rowLen row) (rowRoom row)) (put_nodup hn _ _)]
    unfold add1
    rw [sumV_put hn]
    omega
theorem sumV_lanes (b : Bun) : sumV (lanesOf b) = sumRoom b := by
  have h : sumV (lanesOf b) = sumV (dictOf b) := sum_permI ((lanes_perm b).map (·.2))
  rw [h]
  have := sumV_from b [] List.nodup_nil
  rw [this]
  show (0 : Int) + _ = _
  omega
theorem dict_keys : ∀ (b : Bun) (l : KVs) {k : Int}, k ∈ keys (dictFrom l b) → k ∈ keys l ∨ ∃ row ∈ b, rowLen row = k
  | [], _, _, h => .inl h
  | row :: b, l, k, h => by
    rcases dict_keys b _ h with h | ⟨r, hr, e⟩
    · unfold add1 at h
      rw [keys_put] at h
      split at h
      · exact .inl h
      · rcases List.mem_append.mp h with h | h
        · exact .inl h
        · exact .inr ⟨row, List.mem_cons_self, (List.mem_singleton.mp h).symm⟩
    · exact .inr ⟨r, List.mem_cons_of_mem _ hr, e⟩
theorem lane_key {b : Bun} {q : Int × Int} (h : q ∈ lanesOf b) : ∃ row ∈ b, rowLen row = q.1 := by
  have h1 : q.1 ∈ keys (dictOf b) := (perm_keys (lanes_perm b)).mem_iff.mp (List.mem_map.mpr ⟨q, h, rfl⟩)
  rcases dict_keys b [] h1 with z | z
  · cases z
  · exact z
theorem nice_small {b : Bun} (h : Nice 6 b) : SmallB b := by
  have hk : ∀ q ∈ lanesOf b, q.1 ≤ 1000000 := fun q hq => by
    obtain ⟨row, hr, e⟩ := lane_key hq
    have := (h.rows row hr).2.2.1
    omega
  refine ⟨⟨h.ne, by have := h.len; omega, fun row hr => ⟨(h.rows row hr).1, by have := (h.rows row hr).2.1; omega⟩⟩, ?_, ?_, hk⟩
  · unfold goodB
    rw [Bool.and_eq_true, List.all_eq_true]
    refine ⟨by simpa using h.ne, fun row hr => ?_⟩
    have hn := h.rows row hr
    unfold okRow
    rw [Bool.and_eq_true, List.all_eq_true]
    refine ⟨by simpa using hn.1, fun q hq => ?_⟩
    have := hn.2.2.2 q hq
    simp [okRoad, this.1, this.2]
  · rw [topRoom_eq (lanes_sorted b) hk, roomTo_top hk]
    have := sumV_lanes b
    unfold sumV at this
    rw [this]
    exact h.room
theorem choices_sz (many : Int) : ∀ (n : Nat) (s : List Int), s ∈ choices many n → s.length = n
  | 0, s, h => by
    have h : s ∈ [[]] := h
    rw [List.mem_singleton.mp h]
    rfl
  | n + 1, s, h => by
    have h : s ∈ (choices many n).flatMap (longer many) := h
    obtain ⟨t, ht, hs⟩ := List.mem_flatMap.mp h
    obtain ⟨r, _, rfl⟩ := List.mem_map.mp hs
    rw [List.length_append, choices_sz many n t ht]
    rfl
theorem rates_len (bs : List Bun) (h : bs.length ≤ 100) : (ratesOf bs).length ≤ 100 := by
  unfold ratesOf answer
  have hl : (rowsOf (bs.map lanesOf)).length ≤ 100 := by
    have h1 : (rowsOf (bs.map lanesOf)).length ≤ ([] : List KVs).length + (bs.map lanesOf).length := (rows_from (bs.map lanesOf) [] List.nodup_nil).2.2
    rw [List.length_map] at h1
    simp only [List.length_nil] at h1
    omega
  cases e : (List.range (rowsOf (bs.map lanesOf)).length).findSome? (answerAt (rowsOf (bs.map lanesOf)) (manyOf (rowsOf (bs.map lanesOf)))) with
  | none => exact Nat.zero_le _
  | some s =>
    obtain ⟨n, hn, hs⟩ := List.exists_of_findSome?_eq_some e
    have := choices_sz _ n s (List.mem_of_find?_eq_some hs)
    have := List.mem_range.mp hn
    show s.length ≤ 100
    omega
/-- bundles that are others' other forms, in another order -/
theorem rates_others {bs ms os : List Bun} (pm : ms.Perm bs) (h : Paired (fun o m => ∀ k, roomOf o k = roomOf m k) os ms) : ratesOf os = ratesOf bs := by
  have e : os.map lanesOf = ms.map lanesOf := by
    clear pm
    induction h with
    | nil => rfl
    | cons a _ ih => rw [List.map_cons, List.map_cons, ih, lanes_congr a]
  refine rates_congr fun L => ?_
  rw [e]
  exact (pm.map lanesOf).mem_iff
/-! ### the written example -/
def exBs : List Bun := [[[(1, 2)], [(2, 3), (1, 2)]], [[(1, 2)]], [[(1, 4)]]]
theorem exL1 : lanesOf [[(1, 2)], [(2, 3), (1, 2)]] = [(1, 2), (3, 2)] := (lanes_uniq (L := [(1, 2), (3, 2)]) (by decide) (by decide)).symm
theorem exL2 : lanesOf [[(1, 2)]] = [(1, 2)] := (lanes_uniq (L := [(1, 2)]) (by decide) (by decide)).symm
theorem exL3 : lanesOf [[(1, 4)]] = [(1, 4)] := (lanes_uniq (L := [(1, 4)]) (by decide) (by decide)).symm
theorem exRates : ratesOf exBs = [3] := by
  unfold ratesOf exBs
  rw [List.map_cons, List.map_cons, List.map_cons, exL1, exL2, exL3]
  decide
theorem exRates0 : ratesOf [] = [] := by decide
theorem exTop : ∀ b ∈ exBs, topRoom (lanesOf b) ≤ 9 := by
  unfold exBs
  intro b hb
  rcases List.mem_cons.mp hb with e | hb
  · rw [e, exL1]; decide
  · rcases List.mem_cons.mp hb with e | hb
    · rw [e, exL2]; decide
    · rw [List.mem_singleton.mp hb, exL3]; decide
end Qb
set_option Elab.async false
set_option linter.all false
set_option maxRecDepth 100000
set_option maxHeartbeats 4000000
/-! # The law's heaps, statement by statement -/
namespace Qb
open PySem L2
open PySem.Spec hiding Row
open PyProof.Rows hiding St
open Qm
/-- no table -/
def isTbl : HO → Bool
  | .tbl _ => true
  | _ => false
def nt (H : Hp) : Hp := fun b => match H b with
  | some o => if isTbl o = true then none else some o
  | none => none
theorem nt_some {H : Hp} {b : Addr} {o : HO} : nt H b = some o ↔ H b = some o ∧ isTbl o = false := by
  unfold nt
  cases e : H b with
  | none => simp
  | some u =>
    dsimp only
    cases hu : isTbl u with
    | true =>
      rw [if_pos rfl]
      refine ⟨fun z => (nomatch z), fun ⟨z, n⟩ => ?_⟩
      cases z
      rw [hu] at n
      cases n
    | false =>
      rw [if_neg (by decide)]
      refine ⟨fun z => ?_, fun z => z.1⟩
      cases z
      exact ⟨rfl, hu⟩
theorem nt_sub (H : Hp) : Same (nt H) H := fun b o e => (nt_some.mp e).1
theorem nt_mono {H H' : Hp} (s : Same H H') : Same (nt H) (nt H') := fun b o e => let ⟨h, n⟩ := nt_some.mp e; nt_some.mpr ⟨s _ _ h, n⟩
/-- what the law tracks beside the stream and the tables -/
abbrev Vw (st c : Addr) (H : Hp) : Hp := nt (hid [st, c] H)
theorem vw_sub {st c : Addr} {H : Hp} : Same (Vw st c H) (hid [st, c] H) := nt_sub _
theorem vw_all {st c : Addr} {H : Hp} : Same (Vw st c H) H := (nt_sub _).trans (hid_sub _ _)
theorem vw_but {st c : Addr} {H H' : Hp} (s : Sbut st c H H') : Same (Vw st c H) (Vw st c H') := nt_mono s
theorem vw_ext {st c : Addr} {H H' : Hp} (s : LamX.ExtN H H') : Same (Vw st c H) (Vw st c H') := fun b o e => by
  obtain ⟨h, n⟩ := nt_some.mp e
  obtain ⟨m, h'⟩ := hid_some h
  refine nt_some.mpr ⟨?_, n⟩
  rw [hid_eq m]
  exact s _ _ h' fun ps z => by rw [z] at n; cases n
theorem vw_same {st c : Addr} {H H' : Hp} (s : Same H H') : Same (Vw st c H) (Vw st c H') := nt_mono (hid_mono s)
/-- a write at what was new -/
theorem vw_put {st c : Addr} {H H' : Hp} {p : Addr} {o : HO} (s : Same (Vw st c H) (Vw st c H')) (h : H p = none) : Same (Vw st c H) (Vw st c (upd H' p o)) := fun b u e => by
  have e2 := s _ _ e
  obtain ⟨h1, n⟩ := nt_some.mp e2
  obtain ⟨m, h2⟩ := hid_some h1
  have nb : b ≠ p := fun z => by
    have := vw_all _ _ e
    rw [z, h] at this
    cases this
  exact nt_some.mpr ⟨by rw [hid_eq m, upd_ne nb]; exact h2, n⟩
theorem vw_at {st c : Addr} {H : Hp} {p : Addr} {o : HO} (h : H p = some o) (m : p ∉ [st, c]) (n : isTbl o = false) : Vw st c H p = some o := nt_some.mpr ⟨by rw [hid_eq m]; exact h, n⟩
/-! ### data without tables -/
def NtR {α : Type} (R : DR α) : Prop := ∀ H v y, R H v y → R (nt H) v y
theorem ntIntR : NtR IntR := fun _ _ _ h => h
theorem ntTpR : NtR TpR := fun _ _ _ ⟨a, e, h⟩ => ⟨a, e, nt_some.mpr ⟨h, rfl⟩⟩
theorem nt_sq {H : Hp} {a : Addr} {xs : List V} (h : Sq H a xs) : Sq (nt H) a xs := h.elim (fun h => .inl (nt_some.mpr ⟨h, rfl⟩)) fun h => .inr (nt_some.mpr ⟨h, rfl⟩)
theorem ntPairR : NtR PairR := fun _ _ _ ⟨a, e, h⟩ => ⟨a, e, nt_sq h⟩
theorem ntLstR {α : Type} {R : DR α} (n : NtR R) : NtR (LstR R) := fun _ _ _ ⟨a, xs, e, h, p⟩ => ⟨a, xs, e, nt_some.mpr ⟨h, rfl⟩, p.mono fun _ _ z => n _ _ _ z⟩
theorem ntSeqR {α : Type} {R : DR α} (n : NtR R) : NtR (SeqR R) := fun _ _ _ ⟨a, xs, e, h, p⟩ => ⟨a, xs, e, nt_sq h, p.mono fun _ _ z => n _ _ _ z⟩
theorem ntBunL : NtR BunL := ntLstR (ntLstR ntTpR)
theorem ntBunsL : NtR BunsL := ntLstR ntBunL
theorem ntBunsR : NtR BunsR := ntSeqR (ntSeqR (ntSeqR ntPairR))
/-! ### the stream, the tables -/
theorem strm_ext {H H' : Hp} {st c : Addr} {b : Nat} (h : Strm H st c b) (s : LamX.ExtN H H') : Strm H' st c b := by
  obtain ⟨ne, ns, d, n, m, h1, h2, r⟩ := h
  exact ⟨ne, ns, d, n, m, s _ _ h1 (fun ps z => by cases z), s _ _ h2 (fun ps z => by cases z), r⟩
theorem tabs_but {T : List (Addr × Str)} {st c : Addr} {H H' : Hp} {b : Nat} (t : LamX.Tabs T H) (hS : Strm H st c b) (s : Sbut st c H H') : LamX.Tabs T H' := fun p hp => by
  obtain ⟨ps, h1, h2, h3⟩ := t p hp
  obtain ⟨_, ns, d, n, m, k1, k2, _⟩ := hS
  have out : ∀ (q : Addr) (o : HO), H q = some o → (∀ xs, o ≠ .lst xs) → q ∉ [st, c] := fun q o e ne z => by
    rcases List.mem_cons.mp z with z | z
    · rw [z, k1] at e
      exact ne _ (Option.some.inj e).symm
    · rw [List.mem_singleton.mp z, k2] at e
      exact ne _ (Option.some.inj e).symm
  refine ⟨ps, s.at h1 (out _ _ h1 fun xs z => by cases z), h2, fun pos cv hc => ?_⟩
  obtain ⟨c', e1, e2⟩ := h3 pos cv hc
  exact ⟨c', e1, s.at e2 (out _ _ e2 fun xs z => by unfold LamX.CodeO at z; cases z)⟩
theorem tabs_put {T : List (Addr × Str)} {H : Hp} {p : Addr} {xs : List V} {o : HO} (t : LamX.Tabs T H) (h : H p = some (.lst xs)) : LamX.Tabs T (upd H p o) := fun q hq => by
  obtain ⟨ps, h1, h2, h3⟩ := t q hq
  refine ⟨ps, ?_, h2, fun pos cv hc => ?_⟩
  · rw [upd_ne fun z => by rw [z, h] at h1; cases h1]
    exact h1
  · obtain ⟨c', e1, e2⟩ := h3 pos cv hc
    refine ⟨c', e1, ?_⟩
    rw [upd_ne fun z => by rw [z, h] at e2; have e3 := Option.some.inj e2; unfold LamX.CodeO at e3; cases e3]
    exact e2
/-! ### statement by statement -/
structure Gh where
  (a st c : Addr)
  (b : Nat)
def TriP (X : Cx) (s : Stmt) (Pre Post : Gh → L2.St → Hp → Prop) : Prop := ∃ t, PS X s t ∧ ∀ g D σ H, Pre g σ H → (∀ σ' H', Post g σ' H' → D.nx σ' H') → t D σ H
def TriS (X : Cx) (b : List Stmt) (Pre Post : Gh → L2.St → Hp → Prop) : Prop := ∃ t, PSs X b t ∧ ∀ g D σ H, Pre g σ H → (∀ σ' H', Post g σ' H' → D.nx σ' H') → t D σ H
section
variable {X : Cx} {s : Stmt} {b : List Stmt} {A B C : Gh → L2.St → Hp → Prop}
theorem TriS.nil : TriS X [] A A := ⟨_, pss_nil, fun g D σ H h q => q σ H h⟩
theorem TriS.cons (h1 : TriP X s A B) (h2 : TriS X b B C) : TriS X (s :: b) A C := by
  obtain ⟨t, p, r⟩ := h1
  obtain ⟨u, p2, r2⟩ := h2
  exact ⟨_, C8.pss_cut p p2, fun g D σ H h q => ⟨B g, r g _ _ _ h fun _ _ z => z, fun σ' H' z => r2 g D σ' H' z q⟩⟩
theorem TriS.one (h1 : TriP X s A B) : TriS X [s] A B := TriS.cons h1 TriS.nil
end
/-- for x in range(n) -/
def fBody : Stmt → List Stmt
  | .For _ _ b _ _ => b
  | _ => []
def lawS (i : Nat) : Stmt := (defBody sLaw).getD i (.Pass ⟨0, 0, 0, 0⟩)
def turnS (i : Nat) : Stmt := (fBody (lawS 1)).getD i (.Pass ⟨0, 0, 0, 0⟩)
abbrev nmLaw : List Str := ["_law_script", "_law_stream_here", "_law_turn", "_law_due_here", "_law_handed", "_law_kept", "_law_told", "_law_others", "_law_written", "_law_at", "_law_bundles", "_law_odd", "_law_k", "_law_bundle"]
theorem scLaw : FnScope nmLaw ["_law_script"] (defScope sLaw) := ⟨rfl, rfl, rfl, by decide +kernel, rfl, by decide +kernel, by decide +kernel⟩
theorem law_body : defBody sLaw = [lawS 0, lawS 1, lawS 2, lawS 3] := rfl
theorem turn_body : fBody (lawS 1) = [turnS 0, turnS 1, turnS 2, turnS 3, turnS 4, turnS 5, turnS 6, turnS 7, turnS 8, turnS 9, turnS 10] := rfl
end Qb
set_option Elab.async false
set_option linter.all false
set_option maxRecDepth 100000
set_option maxHeartbeats 4000000
/-! # law: the bundles -/
namespace Qb
open PySem L2
open PySem.Spec hiding Row
open PyProof.Rows hiding St
open Qm
abbrev sL (a st : Addr) (r2 r3 r4 r5 r6 r7 r8 r9 r10 r11 r12 r13 : Option V) : L2.St := [some (.ref a), some (.ref st), r2, r3, r4, r5, r6, r7, r8, r9, r10, r11, r12, r13]
def Rt (T : List (Addr × Str)) (st c : Addr) (b : Nat) (H : Hp) : Prop := Strm H st c b ∧ LamX.Tabs T H
abbrev lcx (P : Program) (w : World) (K : PySem.W.Frag) (mg : Str → Option Value) (base : Heap) (fa : Addr) (cdv : Value) (A : Around) (outer : List Env) (s : Shared) (H0 : Hp) (E : XK) : Cx := (cxOf CX0 P w K mg base nmLaw "law" (defScope sLaw) fa cdv A outer s H0 E).nox
def I0 (T : List (Addr × Str)) (a st c : Addr) (b : Nat) : L2.St → Hp → Prop := fun σ H => ∃ r2 r3 r4 r5 r6 r7 r8 r9 r10 r11 r12 r13, σ = sL a st r2 r3 r4 r5 r6 r7 r8 r9 r10 r11 r12 r13 ∧ Rt T st c b H
def I1 (T : List (Addr × Str)) (a st c : Addr) (b : Nat) : L2.St → Hp → Prop := fun σ H => ∃ r2 r3 r4 r5 r6 r7 r8 r9 r11 r12 r13, ∃ (B : Addr) (acc : List V) (bs : List Bun), σ = sL a st r2 r3 r4 r5 r6 r7 r8 r9 (some (.ref B)) r11 r12 r13 ∧ Rt T st c b H ∧
  B ∉ [st, c] ∧ H B = some (.lst acc) ∧ Paired (BunL (hid [B, st, c] H)) acc bs ∧ bs.length ≤ 5 ∧ ∀ bu ∈ bs, Nice 3 bu ∧ Low 5 bu
/-- what is told of a bundle holds without the list of bundles that it is not in -/
theorem bun_out {st c D p : Addr} {H : Hp} {acc : List V} {bs : List Bun} {bu : Bun} (hD : H D = some (.lst acc)) (hp : Paired (BunL (hid [D, st, c] H)) acc bs) (hpD : p ≠ D) (h : BunL (hid [st, c] H) (.ref p) bu) (hne : ∀ row ∈ bu, row ≠ []) : BunL (hid [D, st, c] H) (.ref p) bu := by
  have go : ∀ {q : Addr} {o : HO}, hid [st, c] H q = some o → q ≠ D → hid [D, st, c] H q = some o := fun {q o} e n => by
    obtain ⟨m, e'⟩ := hid_some e
    rw [hid_eq fun z => ?_]
    · exact e'
    · rcases List.mem_cons.mp z with z | z
      · exact n z
      · exact m z
  obtain ⟨p', xs, e, ha, hx⟩ := h
  cases e
  refine ⟨p, xs, rfl, go ha hpD, pd_of hx.length fun i x row hi hrow => ?_⟩
  obtain ⟨row', hr', r, zs, rfl, hr, hz⟩ := pd_get hx hi
  rw [hrow] at hr'
  cases hr'
  have tp : ∀ {y : V} {q : Int × Int}, TpR (hid [st, c] H) y q → TpR (hid [D, st, c] H) y q := fun {y q} ⟨t, e, ht⟩ => ⟨t, e, go ht fun z => by
    have h2 := hid_sub _ _ _ _ ht
    rw [z, hD] at h2
    cases h2⟩
  refine ⟨r, zs, rfl, go hr fun z => ?_, hz.mono fun _ _ k => tp k⟩
  have h2 := hid_sub _ _ _ _ hr
  rw [z, hD] at h2
  cases h2
  cases hz with
  | nil => exact hne [] (List.mem_of_getElem? hrow) rfl
  | @cons y q ys qs hy _ =>
    obtain ⟨t, rfl, ht⟩ := hy
    cases hp with
    | cons hb _ =>
      obtain ⟨t', zs', e, ht', _⟩ := hb
      cases e
      have h3 := hid_sub _ _ _ _ ht
      rw [hid_sub _ _ _ _ ht'] at h3
      cases h3
variable {P : Program} {w : World} {K : PySem.W.Frag} {mg : Str → Option Value} {base : Heap} {fa : Addr} {cdv : Value} {A : Around} {outer : List Env} {s : Shared} {H0 : Hp} {E : XK}
theorem tri0 (T : Txt K mg) {TT : List (Addr × Str)} (hr : Room 8 (lcx P w K mg base fa cdv A outer s H0 E).A) :
    TriP (lcx P w K mg base fa cdv A outer s H0 E) (turnS 0) (fun ⟨a, st, c, b⟩ => I0 TT a st c (b + 1000)) (fun ⟨a, st, c, b⟩ => I1 TT a st c (b + 800)) := by
  refine ⟨_, ps_set (i := 10) scLaw.nd rfl (.inr rfl) (pe_lc (own := [("_law_k", 12)]) (g := gName 12) (tt := tYes) rfl scLaw.nd (pi_range1 (by rfl) T.z_range (pa_cons (pe_df (okDraw T) T.D_draw (hr.mono (by decide)) rfl (pa_cons (pv 1) (pa_cons pe_int pa_nil))) pa_nil)) (blkOk_by (N := nmLaw) (sc := defScope sLaw) (by decide +kernel))
    (fun _ _ _ _ _ => pg_name (i := 12) scLaw.nd rfl (Or.inl rfl)) (fun _ _ _ _ _ => pts_nil) (fun _ _ _ _ _ => pe_df (okSmall T) T.D_small (hr.mono (by decide)) rfl (pa_cons (pv 1) (pa_cons pe_int pa_nil)))), ?_⟩
  rintro ⟨a, st, c, b⟩ D σ H ⟨r2, r3, r4, r5, r6, r7, r8, r9, r10, r11, r12, r13, rfl, hS, hT⟩ q
  refine ⟨_, rfl, st, c, b + 999, 6, rfl, hS, by decide, by decide, fun H1 n hS1 sb1 n0 n6 => ⟨_, rfl, by omega, by omega, fun D0 hD0 => ?_⟩⟩
  have hT1 := tabs_but hT hS sb1
  have nD := hS1.fresh hD0
  refine lc_range (lo := 0) (n := n.toNat) (fun i H' => ∃ bs, MapS st c BunL H1 D0 bs H' ∧ Strm H' st c (b + 999 - 20 * i) ∧ LamX.Tabs TT H' ∧ bs.length = i ∧ ∀ bu ∈ bs, Nice 3 bu ∧ Low 5 bu) ⟨[], MapS.start hD0, strm_upd hS1 nD, hT1.ext (same_new hD0), rfl, fun _ h => (by cases h)⟩ ?_ ?_
  · rintro i H2 hi ⟨bs, ms, hS2, hT2, hl, hN⟩
    refine ⟨rfl, ?_⟩
    refine iteY (B := ∃ bs, MapS st c BunL H1 D0 bs H2 ∧ Strm H2 st c (b + 999 - 20 * (i + 1)) ∧ LamX.Tabs TT H2 ∧ bs.length = (i + 1) ∧ ∀ bu ∈ bs, Nice 3 bu ∧ Low 5 bu) rfl ?_
    refine ⟨_, rfl, st, c, b + 999 - 20 * (i + 1), rfl, hS2.mono (by omega), fun H3 p bu hS3 sb3 hp hb hn hlo => ?_⟩
    have ms3 := ms.keep mBunL nD sb3
    obtain ⟨acc0, hacc0, _⟩ := id ms
    have hD3 := sb3.at hacc0 nD
    obtain ⟨acc3, hacc3, ss3, hp3⟩ := id ms3
    have hpD : p ≠ D0 := fun z => by rw [z, hacc0] at hp; cases hp
    obtain ⟨acc4, h1, h2, h3⟩ := ms3.add (bun_out hacc3 hp3 hpD hb fun row hrow => (hn.rows row hrow).1)
    exact ⟨acc4, h1, by rw [h2]; exact small1000 (by omega), bs ++ [bu], h3, strm_upd hS3 nD, tabs_put (tabs_but hT2 hS2 sb3) h1, by rw [List.length_append, hl]; rfl, fun x hx => (List.mem_append.mp hx).elim (hN x) fun z => by rw [List.mem_singleton.mp z]; exact ⟨hn, hlo⟩⟩
  · rintro H2 ⟨bs, ms, hS2, hT2, hl, hN⟩
    obtain ⟨acc, hacc, ss, hp⟩ := ms
    exact q _ _ ⟨r2, r3, r4, r5, r6, r7, r8, r9, r11, _, r13, D0, acc, bs, rfl, ⟨hS2.mono (by omega), hT2⟩, nD, hacc, hp, by omega, hN⟩
end Qb
set_option Elab.async false
set_option linter.all false
set_option maxRecDepth 100000
set_option maxHeartbeats 4000000
/-! # law: another form in the last place -/
namespace Qb
open PySem L2
open PySem.Spec hiding Row
open PyProof.Rows hiding St
open Qm
variable {P : Program} {w : World} {K : PySem.W.Frag} {mg : Str → Option Value} {base : Heap} {fa : Addr} {cdv : Value} {A : Around} {outer : List Env} {s : Shared} {H0 : Hp} {E : XK}
def dBun (b : Bun) : PyData := .list (b.map dLanes)
def dBuns (bs : List Bun) : PyData := .list (bs.map dBun)
theorem dp_bun {H : Hp} {v : V} {b : Bun} (h : BunL H v b) : Dp K H v (dBun b) := dp_rows h
theorem dp_buns {H : Hp} {v : V} {bs : List Bun} (h : BunsL H v bs) : Dp K H v (dBuns bs) := by
  obtain ⟨a, xs, rfl, e, p⟩ := h
  exact .lst (SqL.of e) (dp_all (f := dBun) (fun v x r => dp_bun r) p)
theorem ok_buns (bs : List Bun) : PdOk 4 (dBuns bs) := PdOk.list fun b _ => ok_rows b
theorem eqv_bun (b b' : Bun) : PyData.eqv (dBun b) (dBun b') = decide (b = b') := eqv_all eqv_lanes b b'
theorem eqv_buns (l m : List Bun) : PyData.eqv (dBuns l) (dBuns m) = decide (l = m) := eqv_all eqv_bun l m
/-- the bundles of a turn, in what is tracked -/
def F2 (V : Hp) (B : Addr) (bs : List Bun) : Prop := BunsL V (.ref B) bs ∧ bs.length ≤ 5 ∧ ∀ bu ∈ bs, Nice 6 bu ∧ Low 7 bu
theorem F2.go {V V' : Hp} {B : Addr} {bs : List Bun} (h : F2 V B bs) (s : Same V V') : F2 V' B bs := ⟨mBunsL _ _ _ _ s h.1, h.2⟩
def I2 (T : List (Addr × Str)) (a st c : Addr) (b : Nat) : L2.St → Hp → Prop := fun σ H => ∃ r2 r3 r4 r5 r6 r7 r8 r9 r11 r12 r13, ∃ (B : Addr) (bs : List Bun), σ = sL a st r2 r3 r4 r5 r6 r7 r8 r9 (some (.ref B)) r11 r12 r13 ∧ Rt T st c b H ∧ F2 (Vw st c H) B bs
theorem nice_up {b : Bun} (h : Nice 3 b) : Nice 6 b := ⟨h.ne, Nat.le_trans h.len (by decide), h.rows, h.room⟩
theorem low_up {b : Bun} {B B' : Int} (h : Low B b) (hb : B ≤ B') : Low B' b := fun row hr q hq => Int.le_trans (h row hr q hq) hb
theorem tri1 (T : Txt K mg) {TT : List (Addr × Str)} (hr : Room 8 (lcx P w K mg base fa cdv A outer s H0 E).A) :
    TriP (lcx P w K mg base fa cdv A outer s H0 E) (turnS 1) (fun ⟨a, st, c, b⟩ => I1 TT a st c (b + 800)) (fun ⟨a, st, c, b⟩ => I2 TT a st c (b + 700)) := by
  refine ⟨_, ps_if (PW.pt (pw_and (pt_cmpR (op_neD hr.units) (pv 10) (pe_lst pa_nil) (nomark _)) (pw_and1 (pt_cmpR op_eq (pe_df (okDraw T) T.D_draw (hr.mono (by decide)) rfl (pa_cons (pv 1) (pa_cons pe_int pa_nil))) pe_int (nomark _)))))
    (pss_one (ps_asg (pe_df (okOther T) T.D_other (hr.mono (by decide)) rfl (pa_cons (pv 1) (pa_cons (pe_ix (show IxR _ (rIxL K) from ix_list) (pv 10) pe_int (fun _ _ => rfl)) pa_nil))) (pg_sub (pv 10) (pe_un un_neg pe_int) set_list))) pss_nil, ?_⟩
  rintro ⟨a, st, c, b⟩ D σ H ⟨r2, r3, r4, r5, r6, r7, r8, r9, r11, r12, r13, B, acc, bs, rfl, ⟨hS, hT⟩, nB, hB, hp, hl, hN⟩ q
  have lx := hp.length
  have whole : ∀ {H' : Hp} {acc' : List V} {bs' : List Bun}, H' B = some (.lst acc') → Paired (BunL (hid [B, st, c] H')) acc' bs' → BunsL (Vw st c H') (.ref B) bs' := fun {H' acc' bs'} e p =>
    ntBunsL _ _ _ ⟨B, acc', rfl, by rw [hid_eq nB]; exact e, p.mono fun _ _ z => mBunL _ _ _ _ hid2 z⟩
  have stay : ∀ H', Same H H' → Rt TT st c (b + 700) H' → D.nx (sL a st r2 r3 r4 r5 r6 r7 r8 r9 (some (.ref B)) r11 r12 r13) H' := fun H' s1 hR => q _ _ ⟨r2, r3, r4, r5, r6, r7, r8, r9, r11, r12, r13, B, bs, rfl, hR,
    whole (s1 _ _ hB) (hp.mono fun _ _ z => mBunL _ _ _ _ (hid_mono s1) z), hl, fun bu hbu => ⟨nice_up (hN bu hbu).1, low_up (hN bu hbu).2 (by decide)⟩⟩
  have hBs : BunsL H (.ref B) bs := ⟨B, acc, rfl, hB, hp.mono fun _ _ z => mBunL _ _ _ _ (hid_sub _ _) z⟩
  refine ⟨_, rfl, Nat.zero_le _, fun l hl0 => ⟨dBuns bs, dBuns [], dp_buns (mBunsL _ _ _ _ (same_new hl0) hBs), dp_buns (bs := []) ⟨l, [], rfl, upd_same, .nil⟩, (ok_buns _).shaped (by decide), (ok_buns _).shaped (by decide), _, rfl, ?_⟩⟩
  have sl : Same H (upd H l (.lst [])) := same_new hl0
  rw [eqv_buns]
  have hS1 := hS.go sl
  have hT1 := hT.ext sl
  generalize upd H l (.lst []) = H1 at sl hS1 hT1
  cases bs with
  | nil => exact iteN rfl (stay H1 sl ⟨hS1.mono (by omega), hT1⟩)
  | cons b0 bs =>
    refine iteY (by rw [decide_eq_false (List.cons_ne_nil _ _)]; rfl) ?_
    refine ⟨_, rfl, st, c, b + 799, 2, rfl, hS1.mono (by omega), by decide, by decide, fun H2 d hS2 sb2 d0 d2 => ⟨rfl, _, rfl, ?_⟩⟩
    have hT2 := tabs_but hT1 hS1 sb2
    have sb02 : Sbut st c H H2 := (Sbut.of sl).trans' sb2
    have hB2 := sb02.at hB nB
    have hp2 : Paired (BunL (hid [B, st, c] H2)) acc (b0 :: bs) := hp.mono fun _ _ z => mBunL _ _ _ _ (hid_more sb02 fun z hz => List.mem_cons_of_mem _ hz) z
    by_cases hd : d = 0
    · refine iteY (decide_eq_true (by rw [hd])) ?_
      cases hp2 with
      | @cons x _ xs _ hx hp2 =>
        refine ⟨_, rfl, _, rfl, B, _, 0, x, rfl, rfl, SqL.of hB2, atI_nat (j := 0) rfl, st, c, b + 700, x, b0, rfl, hS2.mono (by omega), mBunL _ _ _ _ hid2 hx, nice_up (hN b0 List.mem_cons_self).1, fun H3 p bu hS3 sb3 hpn hb3 hN3 hr3 hL3 => ?_⟩
        have hB3 := sb3.at hB2 nB
        have hp3 : Paired (BunL (hid [B, st, c] H3)) (x :: xs) (b0 :: bs) := (Paired.cons hx hp2).mono fun _ _ z => mBunL _ _ _ _ (hid_more sb3 fun z hz => List.mem_cons_of_mem _ hz) z
        have hpB : p ≠ B := fun z => by rw [z, hB2] at hpn; cases hpn
        have hout := bun_out hB3 hp3 hpB hb3 fun row hrow => (hN3.rows row hrow).1
        have ls := hp2.length
        refine ⟨_, rfl, ?_⟩
        refine ⟨_, rfl, B, _, -1, xs.length, rfl, rfl, hB3, ?_, ?_⟩
        · show ixN (xs.length + 1) (-1) = some xs.length
          unfold ixN
          rw [if_neg (by decide), if_pos (by omega)]
          congr 1
          omega
        · have hset := pd_set xs.length hout hp3
          refine q _ _ ⟨r2, r3, r4, r5, r6, r7, r8, r9, r11, r12, r13, B, (b0 :: bs).set xs.length bu, rfl, ⟨strm_upd hS3 nB, tabs_put (tabs_but hT2 hS2 sb3) hB3⟩, whole upd_same (hset.mono fun _ _ z => ?_), ?_, fun bu' hbu' => ?_⟩
          · rw [hid_at List.mem_cons_self]; exact z
          · rw [List.length_set]; exact hl
          · rcases List.mem_or_eq_of_mem_set hbu' with z | z
            · exact ⟨nice_up (hN bu' z).1, low_up (hN bu' z).2 (by decide)⟩
            · rw [z]; exact ⟨hN3, hL3 5 (hN b0 List.mem_cons_self).2⟩
    · refine iteN (decide_eq_false fun z => hd (V.int.inj z)) ?_
      exact q _ _ ⟨r2, r3, r4, r5, r6, r7, r8, r9, r11, r12, r13, B, b0 :: bs, rfl, ⟨hS2.mono (by omega), hT2⟩, whole hB2 hp2, hl, fun bu hbu => ⟨nice_up (hN bu hbu).1, low_up (hN bu hbu).2 (by decide)⟩⟩
end Qb
set_option Elab.async false
set_option linter.all false
set_option maxRecDepth 100000
set_option maxHeartbeats 4000000
/-! # law: what is due, what is told -/
namespace Qb
open PySem L2
open PySem.Spec hiding Row
open PyProof.Rows hiding St
open Qm
variable {P : Program} {w : World} {K : PySem.W.Frag} {mg : Str → Option Value} {base : Heap} {fa : Addr} {cdv : Value} {A : Around} {outer : List Env} {s : Shared} {H0 : Hp} {E : XK}
def F3 (V : Hp) (B du h : Addr) (bs : List Bun) : Prop := F2 V B bs ∧ LstR IntR V (.ref du) (ratesOf bs) ∧ BunsR V (.ref h) bs
theorem F3.go {V V' : Hp} {B du h : Addr} {bs : List Bun} (f : F3 V B du h bs) (s : Same V V') : F3 V' B du h bs := ⟨f.1.go s, mLstR mIntR _ _ _ _ s f.2.1, mBunsR _ _ _ _ s f.2.2⟩
def I3 (T : List (Addr × Str)) (a st c : Addr) (b : Nat) : L2.St → Hp → Prop := fun σ H => ∃ r2 r5 r6 r7 r8 r9 r11 r12 r13, ∃ (B du h : Addr) (bs : List Bun), σ = sL a st r2 (some (.ref du)) (some (.ref h)) r5 r6 r7 r8 r9 (some (.ref B)) r11 r12 r13 ∧ Rt T st c b H ∧ F3 (Vw st c H) B du h bs
/-- the rates are told in a new list at tl -/
def F4 (K : PySem.W.Frag) (st c : Addr) (H : Hp) (B du h tl : Addr) (bs : List Bun) (d : PyData) : Prop := ∃ (Hb : Hp) (n k : Nat), Hb tl = none ∧ Same (Vw st c Hb) (Vw st c H) ∧ F3 (Vw st c Hb) B du h bs ∧ H tl = some (.lst ((ratesOf bs).map V.int)) ∧ Dp K (Vw st c Hb) (.ref h) d ∧ Fit n k d ∧ n ≤ 2 ^ 20 ∧ k ≤ 8 ∧ tl ∉ [st, c]
def I4 (K : PySem.W.Frag) (T : List (Addr × Str)) (a st c : Addr) (b : Nat) : L2.St → Hp → Prop := fun σ H => ∃ r2 r7 r8 r9 r11 r12 r13, ∃ (B du h tl : Addr) (bs : List Bun) (d : PyData), σ = sL a st r2 (some (.ref du)) (some (.ref h)) (some (.str d.shown)) (some (.ref tl)) r7 r8 r9 (some (.ref B)) r11 r12 r13 ∧ Rt T st c b H ∧ F4 K st c H B du h tl bs d
theorem okb_of {bs : List Bun} (hl : bs.length ≤ 5) (h : ∀ bu ∈ bs, Nice 6 bu ∧ Low 7 bu) : okBuns bs := ⟨hl, fun b hb => ⟨(h b hb).1.len, fun row hr => ((h b hb).1.rows row hr).2.1⟩⟩
theorem strm_occ {H : Hp} {st c : Addr} {b : Nat} (h : Strm H st c b) : Occ [st, c] H := fun x hx => by
  obtain ⟨_, ns, d, n, m, h1, h2, _⟩ := h
  rcases List.mem_cons.mp hx with e | e
  · exact ⟨_, by rw [e]; exact h1⟩
  · exact ⟨_, by rw [List.mem_singleton.mp e]; exact h2⟩
theorem bunl_r {H : Hp} {v : V} {b : Bun} (h : BunL H v b) : BunR H v b := (h.seq).up fun _ _ z => (z.seq).up fun _ _ z => z.pair
theorem bunsl_r {H : Hp} {v : V} {bs : List Bun} (h : BunsL H v bs) : BunsR H v bs := (h.seq).up fun _ _ z => bunl_r z
theorem ints_eq' {H : Hp} {v : V} {l : List Int} (h : LstR IntR H v l) : ∃ a, v = .ref a ∧ H a = some (.lst (l.map V.int)) := by
  obtain ⟨a, xs, e, ha, p⟩ := h
  rw [ints_eq p] at ha
  exact ⟨a, e, ha⟩
theorem ints_mk {H : Hp} {a : Addr} {l : List Int} (h : H a = some (.lst (l.map V.int))) : LstR IntR H (.ref a) l := ⟨a, _, rfl, h, ints_of l⟩
theorem tri2 (T : Txt K mg) {TT : List (Addr × Str)} (hr : Room 8 (lcx P w K mg base fa cdv A outer s H0 E).A) :
    TriP (lcx P w K mg base fa cdv A outer s H0 E) (turnS 2) (fun ⟨a, st, c, b⟩ => I2 TT a st c (b + 700)) (fun ⟨a, st, c, b⟩ => I3 TT a st c (b + 500)) := by
  refine ⟨_, ps_par (i := 3) (j := 4) rfl scLaw.nd rfl rfl (by decide) rfl rfl (pa_cons (pe_df (okDue T) T.D_due (hr.mono (by decide)) rfl (pa_cons (pv 10) pa_nil)) (pa_cons (pe_df (okLoose T) T.D_loose (hr.mono (by decide)) rfl (pa_cons (pv 1) (pa_cons (pv 10) pa_nil))) pa_nil)) (by rfl), ?_⟩
  rintro ⟨a, st, c, b⟩ D σ H ⟨r2, r3, r4, r5, r6, r7, r8, r9, r11, r12, r13, B, bs, rfl, ⟨hS, hT⟩, hB, hl, hN⟩ q
  refine ⟨_, rfl, .ref B, bs, rfl, bunsl_r (mBunsL _ _ _ _ vw_all hB), hl, fun bu hbu => nice_small (hN bu hbu).1, fun H1 du s1 hdu hdl => ?_⟩
  have hS1 := hS.go s1
  refine ⟨_, rfl, _, rfl, st, c, [st, c], b + 500, .ref B, bs, rfl, hS1.mono (by omega), fun x hx => hx, strm_occ hS1, mBunsL _ _ _ _ (vw_sub.trans (hid_mono s1)) hB, okb_of hl hN, fun H2 v hS2 sb2 hv => ?_⟩
  obtain ⟨h, ys, rfl, hh, hp⟩ := hv
  have ndu : du ∉ [st, c] := hS.fresh hdu
  have hdu2 := sb2.at hdl ndu
  exact ⟨_, _, rfl, q _ _ ⟨r2, r5, r6, r7, r8, r9, r11, r12, r13, B, du, h, bs, rfl, ⟨hS2, tabs_but (hT.ext s1) hS1 sb2⟩, ⟨mBunsL _ _ _ _ (vw_but ((Sbut.of s1).trans' sb2)) hB, hl, hN⟩, ints_mk (vw_at hdu2 ndu rfl), ntBunsR _ _ _ ⟨h, ys, rfl, hh, hp⟩⟩⟩
/-- bundles as fewest_rates gets them -/
theorem br_of {H : Hp} {v : V} {bs : List Bun} (h : BunsR H v bs) (hN : ∀ bu ∈ bs, Nice 6 bu) : SeqR BR H v (bs.map some) := by
  obtain ⟨a, xs, e, ha, hp⟩ := h
  refine ⟨a, xs, e, ha, pd_of (by rw [List.length_map]; exact hp.length) fun i x o hx ho => ?_⟩
  rw [List.getElem?_map] at ho
  obtain ⟨bu, hb, r⟩ := pd_get hp hx
  rw [hb] at ho
  cases ho
  have sm := nice_small (hN bu (List.mem_of_getElem? hb))
  exact ⟨r, sm.1, sm.2.1⟩
theorem some_inj {α : Type} : ∀ {l m : List α}, l.map some = m.map some → l = m
  | [], [], _ => rfl
  | [], _ :: _, e => nomatch e
  | _ :: _, [], e => nomatch e
  | x :: l, y :: m, e => by
    rw [List.map_cons, List.map_cons] at e
    obtain ⟨e1, e2⟩ := List.cons.inj e
    rw [Option.some.inj e1, some_inj e2]
theorem sp_few {C : Addr} {H : Hp} {Q : VK} {E' : XK} {v : V} {bs : List Bun} (h : BunsR H v bs) (hl : bs.length ≤ 5) (hN : ∀ bu ∈ bs, Nice 6 bu) (q : ∀ H' p, Same H H' → H p = none → H' p = some (.lst ((ratesOf bs).map V.int)) → Q (.ref p) H') : spFewest C [v] H Q E' := by
  refine ⟨v, rfl, .inr ⟨bs.map some, br_of h hN, by rw [List.length_map]; omega, fun i hi => ?_, fun bs' e => ?_⟩⟩
  · rw [List.getElem?_map] at hi
    cases hb : bs[i]? with
    | none => rw [hb] at hi; cases hi
    | some x => rw [hb] at hi; cases hi
  · have e' : bs = bs' := some_inj e
    subst e'
    exact ⟨hl, fun bu hb => (nice_small (hN bu hb)).2.2.1, q⟩
theorem tri3 (T : Txt K mg) (G : Err K mg) {TT : List (Addr × Str)} (hg : (lcx P w K mg base fa cdv A outer s H0 E).A.guards = some []) (hr : Room 8 (lcx P w K mg base fa cdv A outer s H0 E).A) :
    TriP (lcx P w K mg base fa cdv A outer s H0 E) (turnS 3) (fun ⟨a, st, c, b⟩ => I3 TT a st c (b + 500)) (fun ⟨a, st, c, b⟩ => I4 K TT a st c (b + 500)) := by
  refine ⟨_, ps_par (i := 5) (j := 6) rfl scLaw.nd rfl rfl (by decide) rfl rfl (pa_cons (pe_callB (cr_repr hg hr.units) (by rfl) T.z_repr (by decide +kernel) (pa_cons (pv 4) pa_nil)) (pa_cons (pe_call (okFewest T G) (hr.mono (by decide)) rfl T.D_fewest.m T.D_fewest.F.kp T.D_fewest.b .nil passL (pa_cons (pv 4) pa_nil)) pa_nil)) (by rfl), ?_⟩
  rintro ⟨a, st, c, b⟩ D σ H ⟨r2, r5, r6, r7, r8, r9, r11, r12, r13, B, du, h, bs, rfl, ⟨hS, hT⟩, f⟩ q
  obtain ⟨⟨hB, hl, hN⟩, hdu, hh⟩ := id f
  have shn : Shn K (5 * (6 * (4 * (2 + 1) + 1) + 1)) 4 (Vw st c H) (.ref h) := shn_seq hh hl fun v bu hbu rb => shn_seq rb (hN bu hbu).1.len fun v row hrow rr => shn_seq rr ((hN bu hbu).1.rows row hrow).2.1 fun v qd hqd rp => by
    have hn := (hN bu hbu).1.rows row hrow
    have h1 := hn.2.2.2 qd hqd
    have h2 := (hN bu hbu).2 row hrow qd hqd
    refine shn_pair rp ⟨by omega, ?_⟩ ⟨by omega, by omega⟩
    have h3 : ∀ l : List Int, (∀ x ∈ l, 1 ≤ x) → ∀ x ∈ l, x ≤ l.sum := fun l => by
      induction l with
      | nil => exact fun _ x hx => by cases hx
      | cons y l ih =>
        intro hy x hx
        have hp : 0 ≤ l.sum := by
          cases l with
          | nil => exact Int.le_refl _
          | cons z l => have := ih (fun y hz => hy y (List.mem_cons_of_mem _ hz)) z List.mem_cons_self; have := hy z (List.mem_cons_of_mem _ List.mem_cons_self); omega
        rw [List.sum_cons]
        rcases List.mem_cons.mp hx with e | e
        · omega
        · have := ih (fun y hz => hy y (List.mem_cons_of_mem _ hz)) x e
          have := hy y List.mem_cons_self
          omega
    have h4 := h3 (row.map (·.1)) (fun x hx => by
      obtain ⟨z, hz, rfl⟩ := List.mem_map.mp hx
      exact (hn.2.2.2 z hz).1) qd.1 (List.mem_map.mpr ⟨qd, hqd, rfl⟩)
    have h5 := hn.2.2.1
    unfold rowLen at h5
    omega
  obtain ⟨d, hd, hf⟩ := shn
  refine ⟨_, rfl, h, d, _, _, rfl, dp_go vw_all _ _ hd, hf, by decide, by decide, ?_⟩
  refine ⟨_, rfl, ?_⟩
  dsimp only [tNil, List.cons_append, List.nil_append]
  refine sp_few (mBunsR _ _ _ _ vw_all hh) hl (fun bu hb => (hN bu hb).1) fun H1 tl s1 htl hx => ?_
  exact ⟨_, _, rfl, q _ _ ⟨r2, r7, r8, r9, r11, r12, r13, B, du, h, tl, bs, d, rfl, ⟨hS.go s1, hT.ext s1⟩, H, _, _, htl, vw_same s1, f, hx, hd, hf, by decide, by decide, hS.fresh htl⟩⟩
end Qb
set_option Elab.async false
set_option linter.all false
set_option maxRecDepth 100000
set_option maxHeartbeats 4000000
/-! # law: the answer, other forms -/
namespace Qb
open PySem L2
open PySem.Spec hiding Row
open PyProof.Rows hiding St
open Qm
variable {P : Program} {w : World} {K : PySem.W.Frag} {mg : Str → Option Value} {base : Heap} {fa : Addr} {cdv : Value} {A : Around} {outer : List Env} {s : Shared} {H0 : Hp} {E : XK}
theorem okSame1 (T : Txt K mg) : FnOk P w K mg base CX0 2 T.f_same T.d_same ["_law_found", "_law_due_here"] (spSame (fun H v l => LstR IntR H v l ∧ l.length ≤ 100)) := okSameS mIntR T (okSame0 T)
theorem okSame2 (T : Txt K mg) : FnOk P w K mg base CX0 3 T.f_same T.d_same ["_law_found", "_law_due_here"] (spSame (fun H v l => LstR (fun H v l => LstR IntR H v l ∧ l.length ≤ 100) H v l ∧ l.length ≤ 100)) :=
  okSameS (fun _ _ _ _ s h => ⟨mLstR mIntR _ _ _ _ s h.1, h.2⟩) T (okSame1 T)
theorem tri4 (T : Txt K mg) (G : Err K mg) {TT : List (Addr × Str)} (hg : (lcx P w K mg base fa cdv A outer s H0 E).A.guards = some []) (hr : Room 8 (lcx P w K mg base fa cdv A outer s H0 E).A) :
    TriP (lcx P w K mg base fa cdv A outer s H0 E) (turnS 4) (fun ⟨a, st, c, b⟩ => I4 K TT a st c (b + 500)) (fun ⟨a, st, c, b⟩ => I4 K TT a st c (b + 500)) := by
  refine ⟨_, ps_if (PW.pt (pw_or (pt_not (pt_val (pe_df (okSame1 T) T.D_same (hr.mono (by decide)) rfl (pa_cons (pv 6) (pa_cons (pv 3) pa_nil))))) (pw_or1 (pt_cmpR op_ne (pe_callB (cr_repr hg hr.units) (by rfl) T.z_repr (by decide +kernel) (pa_cons (pv 4) pa_nil)) (pv 5) (nomark _)))))
    (pss_one (ps_ret pe_bl)) pss_nil, ?_⟩
  rintro ⟨a, st, c, b⟩ D σ H ⟨r2, r7, r8, r9, r11, r12, r13, B, du, h, tl, bs, d, rfl, ⟨hS, hT⟩, Hb, n, k, h1, sv, f, hx, hd, hf, hn, hk, nt⟩ q
  have hl := rates_len bs (by have := f.1.2.1; omega)
  refine ⟨_, rfl, _, rfl, .ref tl, .ref du, ratesOf bs, ratesOf bs, rfl, ⟨ints_mk hx, hl⟩, ⟨mLstR mIntR _ _ _ _ (sv.trans vw_all) f.2.1, hl⟩, fun H1 s1 => ⟨_, rfl, ?_⟩⟩
  refine iteN (by rw [decide_eq_true rfl]; rfl) ?_
  refine ⟨_, rfl, h, d, n, k, rfl, dp_go ((sv.trans vw_all).trans s1) _ _ hd, hf, hn, hk, _, rfl, rfl, _, rfl, ?_⟩
  refine iteN (by rw [decide_eq_true rfl]; rfl) ?_
  exact q _ _ ⟨r2, r7, r8, r9, r11, r12, r13, B, du, h, tl, bs, d, rfl, ⟨hS.go s1, hT.ext s1⟩, Hb, n, k, h1, sv.trans (vw_same s1), f, s1 _ _ hx, hd, hf, hn, hk, nt⟩
theorem tri5 (T : Txt K mg) {TT : List (Addr × Str)} (hr : Room 8 (lcx P w K mg base fa cdv A outer s H0 E).A) :
    TriP (lcx P w K mg base fa cdv A outer s H0 E) (turnS 5) (fun ⟨a, st, c, b⟩ => I4 K TT a st c (b + 500)) (fun ⟨a, st, c, b⟩ => I3 TT a st c (b + 500)) := by
  refine ⟨_, ps_expr (pe_bm PySem.F.plainAttrs_list PySem.F.slot_list_append PySem.F.type_list_append mt_append (pv 6) (pa_cons pe_str pa_nil)), ?_⟩
  rintro ⟨a, st, c, b⟩ D σ H ⟨r2, r7, r8, r9, r11, r12, r13, B, du, h, tl, bs, d, rfl, ⟨hS, hT⟩, Hb, n, k, h1, sv, f, hx, hd, hf, hn, hk, nt⟩ q
  have hl := rates_len bs (by have := f.1.2.1; omega)
  refine ⟨_, rfl, .inl ⟨rfl, _, SqL.of hx⟩, tl, _, .str "late", rfl, rfl, hx, by rw [List.length_map]; exact small1000 (by omega), ?_⟩
  exact q _ _ ⟨r2, _, _, r7, r8, r9, r11, r12, r13, B, du, h, bs, rfl, ⟨strm_upd hS nt, tabs_put hT hx⟩, f.go (vw_put sv h1)⟩
theorem asg1 {te : TE} {i : Nat} {D : Ends} {σ : L2.St} {H : Hp} (h : te σ H fun x H1 => D.nx (σ.set i (some x)) H1) : tAsg te (gName i) D σ H := h
def I6 (T : List (Addr × Str)) (a st c : Addr) (b : Nat) : L2.St → Hp → Prop := fun σ H => ∃ r2 r4 r5 r6 r8 r9 r11 r12 r13, ∃ (B du h ot : Addr) (bs os : List Bun), σ = sL a st r2 (some (.ref du)) r4 r5 r6 (some (.ref ot)) r8 r9 (some (.ref B)) r11 r12 r13 ∧ Rt T st c b H ∧ F3 (Vw st c H) B du h bs ∧
  BunsL (Vw st c H) (.ref ot) os ∧ ratesOf os = ratesOf bs ∧ os.length ≤ 5 ∧ ∀ o ∈ os, Nice 6 o
theorem tri6 (T : Txt K mg) {TT : List (Addr × Str)} (hr : Room 8 (lcx P w K mg base fa cdv A outer s H0 E).A) :
    TriP (lcx P w K mg base fa cdv A outer s H0 E) (turnS 6) (fun ⟨a, st, c, b⟩ => I3 TT a st c (b + 500)) (fun ⟨a, st, c, b⟩ => I6 TT a st c (b + 100)) := by
  refine ⟨_, ps_setLc (i := 7) (own := [("_law_bundle", 13)]) (g := gName 13) (tt := tYes) rfl scLaw.nd rfl rfl (sw_true rfl rfl rfl (by decide +kernel)) (pi_list (pe_df (okMixed T) T.D_mixed (hr.mono (by decide)) rfl (pa_cons (pv 1) (pa_cons (pv 10) pa_nil)))) (blkOk_by (N := nmLaw) (sc := defScope sLaw) (by decide +kernel))
    (fun _ _ _ _ _ => pg_name (i := 13) scLaw.nd rfl (Or.inl rfl)) (fun _ _ _ _ _ => pts_nil) (fun _ _ _ _ _ => pe_df (okOther T) T.D_other (hr.mono (by decide)) rfl (pa_cons (pv 1) (pa_cons (pv 13) pa_nil))), ?_⟩
  rintro ⟨a, st, c, b⟩ D σ H ⟨r2, r5, r6, r7, r8, r9, r11, r12, r13, B, du, h, bs, rfl, ⟨hS, hT⟩, f⟩ q
  obtain ⟨⟨⟨B', xs, e, hB, hp⟩, hl, hN⟩, _, _⟩ := id f
  cases e
  have lx := hp.length
  refine asg1 (lcl ⟨_, rfl, _, rfl, st, c, B, b + 490, xs, rfl, hS.mono (by omega), .inl (vw_sub _ _ hB), by omega, fun H1 p ys pm hS1 sb1 hpn hpy => ⟨p, rfl, ⟨_, SqL.of hpy⟩, fun D0 hD0 => ?_⟩⟩)
  have hT1 := tabs_but hT hS sb1
  have nD := hS1.fresh hD0
  have np : p ∉ [st, c] := hS.fresh hpn
  obtain ⟨ms, pmb, pb⟩ := pd_perm pm (hp.mono fun _ _ z => mBunL _ _ _ _ (vw_sub.trans sb1) z)
  have ly := pb.length
  have lb := pmb.length_eq
  refine lc_list (K := K) (a := p) (xs := ys) (fun i H' => ∃ os, MapS st c BunL H1 D0 os H' ∧ Strm H' st c (b + 490 - 60 * i) ∧ LamX.Tabs TT H' ∧ Paired (fun o m => ∀ k, roomOf o k = roomOf m k) os (ms.take i) ∧ ∀ o ∈ os, Nice 6 o)
    ⟨[], MapS.start hD0, strm_upd hS1 nD, hT1.ext (same_new hD0), .nil, fun _ h => (by cases h)⟩ (fun i H' _ ⟨_, ⟨_, _, ss, _⟩, _⟩ => SqL.of (hid_sub _ _ _ _ (ss _ _ (by rw [hid_eq np]; exact hpy)))) ?_ ?_
  · rintro i x H2 hx ⟨os, mps, hS2, hT2, pr, hNo⟩
    obtain ⟨m, hm, rx⟩ := pd_get pb hx
    have hi : i < 5 := by have := (List.getElem?_eq_some_iff.mp hm).1; omega
    refine ⟨rfl, ?_⟩
    refine iteY (B := ∃ os, MapS st c BunL H1 D0 os H2 ∧ Strm H2 st c (b + 490 - 60 * (i + 1)) ∧ LamX.Tabs TT H2 ∧ Paired (fun o m => ∀ k, roomOf o k = roomOf m k) os (ms.take (i + 1)) ∧ ∀ o ∈ os, Nice 6 o) rfl ?_
    obtain ⟨acc0, hacc0, ss0, _⟩ := id mps
    have hNm : Nice 6 m := (hN m (pmb.mem_iff.mp (List.mem_of_getElem? hm))).1
    refine ⟨_, rfl, _, rfl, st, c, b + 490 - 60 * (i + 1), x, m, rfl, hS2.mono (by omega), mBunL _ _ _ _ (ss0.trans hid2) rx, hNm, fun H3 p3 bu hS3 sb3 hp3 hb3 hN3 hr3 _ => ?_⟩
    have ms3 := mps.keep mBunL nD sb3
    obtain ⟨acc3, hacc3, ss3, hpp3⟩ := id ms3
    have hpD : p3 ≠ D0 := fun z => by rw [z, hacc0] at hp3; cases hp3
    obtain ⟨acc4, h1, h2, h3⟩ := ms3.add (bun_out hacc3 hpp3 hpD hb3 fun row hrow => (hN3.rows row hrow).1)
    have lo := pr.length
    rw [List.length_take] at lo
    refine ⟨acc4, h1, by rw [h2]; exact small1000 (by omega), os ++ [bu], h3, strm_upd hS3 nD, tabs_put (tabs_but hT2 hS2 sb3) h1, ?_, fun o ho => (List.mem_append.mp ho).elim (hNo o) fun z => by rw [List.mem_singleton.mp z]; exact hN3⟩
    rw [List.take_add_one, hm]
    exact pr.snoc hr3
  · rintro H2 ⟨os, mps, hS2, hT2, pr, hNo⟩
    obtain ⟨sb2, hos⟩ := mps.out mBunL nD
    rw [ly, List.take_length] at pr
    have lo := pr.length
    exact q _ _ ⟨r2, _, r5, r6, r8, r9, r11, r12, _, B, du, h, D0, bs, os, rfl, ⟨hS2.mono (by omega), hT2⟩, f.go (vw_but (sb1.trans' sb2)), ntBunsL _ _ _ hos, rates_others pmb pr, by omega, hNo⟩
theorem tri7 (T : Txt K mg) (G : Err K mg) {TT : List (Addr × Str)} (hr : Room 8 (lcx P w K mg base fa cdv A outer s H0 E).A) :
    TriP (lcx P w K mg base fa cdv A outer s H0 E) (turnS 7) (fun ⟨a, st, c, b⟩ => I6 TT a st c (b + 100)) (fun ⟨a, st, c, b⟩ => I2 TT a st c (b + 100)) := by
  refine ⟨_, ps_if (pt_not (pt_val (pe_df (okSame1 T) T.D_same (hr.mono (by decide)) rfl (pa_cons (pe_callK0 (okFewest T G) (hr.mono (by decide)) rfl T.D_fewest.m T.D_fewest.F.kp (kb1 T.D_fewest.F (fun _ _ _ _ _ _ _ _ => rfl) (fun _ _ _ _ _ _ _ _ => rfl)) passL (pk_cons (pv 7) pk_nil)) (pa_cons (pv 3) pa_nil)))))
    (pss_one (ps_ret pe_bl)) pss_nil, ?_⟩
  rintro ⟨a, st, c, b⟩ D σ H ⟨r2, r4, r5, r6, r8, r9, r11, r12, r13, B, du, h, ot, bs, os, rfl, ⟨hS, hT⟩, f, ho, hro, hlo, hNo⟩ q
  have hl := rates_len bs (by have := f.1.2.1; omega)
  refine ⟨_, rfl, ?_⟩
  dsimp only [tNil, List.nil_append]
  refine sp_few (bunsl_r (mBunsL _ _ _ _ vw_all ho)) hlo hNo fun H1 tl s1 htl hx => ?_
  rw [hro] at hx
  refine ⟨_, rfl, .ref tl, .ref du, ratesOf bs, ratesOf bs, rfl, ⟨ints_mk hx, hl⟩, ⟨mLstR mIntR _ _ _ _ (vw_all.trans s1) f.2.1, hl⟩, fun H2 s2 => ⟨_, rfl, ?_⟩⟩
  refine iteN (by rw [decide_eq_true rfl]; rfl) ?_
  exact q _ _ ⟨r2, _, r4, r5, r6, _, r8, r9, r11, r12, r13, B, bs, rfl, ⟨(hS.go s1).go s2, (hT.ext s1).ext s2⟩, f.1.go (vw_same (s1.trans s2))⟩
end Qb
set_option Elab.async false
set_option linter.all false
set_option maxRecDepth 100000
set_option maxHeartbeats 4000000
/-! # law: what is no list of bundles -/
namespace Qb
open PySem L2
open PySem.Spec hiding Row
open PyProof.Rows hiding St
open Qm
variable {P : Program} {w : World} {K : PySem.W.Frag} {mg : Str → Option Value} {base : Heap} {fa cA PA : Addr} {A : Around} {outer : List Env} {s : Shared} {H0 : Hp} {E : XK}
abbrev qLam : Str := ("law" : Str) ++ ".<locals>." ++ "<lambda>"
abbrev tabL (PA : Addr) : List (Addr × Str) := [(PA, ("law" : Str) ++ ".<locals>." ++ "<lambda>")]
/-- _law_tried(lambda: body) -/
theorem pe_tried (T : Txt K mg) (G : Err K mg) (TB : LamX.TabB base mg cA PA) {params : Arguments} {body : Expr} {scope : Scope} {t : XK → TE} {p lpos pos : Pos} (hr : Room 8 (lcx P w K mg base fa (.ref cA) A outer s H0 E).A) (L : LamX.LamS (defScope sLaw) scope)
    (hdef : defaultsOf params (lcx P w K mg base fa (.ref cA) A outer s H0 E).env = ([], [])) (hbind : ∀ (q : Str) (cl : List (Str × Addr)) (pm cv ctv : Value), bindArgs (PySem.W.kla_fn "<lambda>" q params body scope cl pm cv ctv) ⟨[], []⟩ = pure [])
    (hbody : ∀ (A1 : Around) (outer1 : List Env) (s1 : Shared) (H1 : Hp) (E1 : XK) (f c' : Addr), Room 6 (A1.deeper (LamX.lamEnv (lcx P w K mg base fa (.ref cA) A outer s H0 E) scope s1.heap.objs.size f c')) → PE (LamX.lamCx (lcx P w K mg base fa (.ref cA) A outer s H0 E) A1 outer1 s1 H1 E1 scope f c') body (t E1)) :
    PE (lcx P w K mg base fa (.ref cA) A outer s H0 E) (.Call (.Name "_law_tried" p) [.Lambda params body scope lpos] [] pos) (LamX.tLam (tabL PA) (TTried K G.C) t) := by
  obtain ⟨oc, od, kV, doc, pm, an, cdv, ct, osl, e, lk, hcd⟩ := T.D_tried.F.ex
  have hb := T.D_tried.b
  rw [e] at lk hb
  have hg : Gl (lcx P w K mg base fa (.ref cA) A outer s H0 E) "_law_tried" := rfl
  have hq : (lcx P w K mg base fa (.ref cA) A outer s H0 E).env.qual = ("law" : Str) ++ ".<locals>." := rfl
  have hcode : (lcx P w K mg base fa (.ref cA) A outer s H0 E).env.code = .ref cA := rfl
  have hN : nmTried[0]? = some ("_law_ask" : Str) := rfl
  have hv : Vis (defScope sTried) "_law_ask" := .inl rfl
  have hG := tried_gives (X := lcx P w K mg base fa (.ref cA) A outer s H0 E) G (g := T.f_tried) (cdg := cdv) (q := qLam)
  exact LamX.pe_lamcall (X := lcx P w K mg base fa (.ref cA) A outer s H0 E) (T := tabL PA) (TT := TTried K G.C) (x := "_law_tried") (a := "_law_ask") (k := 6) (g := T.f_tried) (c := cA) (P := PA) (Ng := nmTried) (cdv := cdv) hg T.D_tried.m T.D_tried.F.kp lk hcd hb scTried hN hv hG TB hcode List.mem_cons_self
    (fun q hq _ => by rw [List.mem_singleton.mp hq]; rfl) hr L hdef hbind hbody
theorem sh_tr (i : Int) : SeqAt.shaped (.tuple [.str "bundles", .int i]) = true := by
  have h : PyData.canLay0 (.str "bundles") = true := by decide +kernel
  have h2 : PyData.canLay0 (.int i) = true := by simp only [PyData.canLay0]
  simp only [SeqAt.shaped, PyData.canLay0, PyData.canLayAll0, PyData.depth, PyData.depthAll, Bool.and_true] at h h2 ⊢
  rw [h]
  rfl
theorem ev_tr (i : Int) : PyData.eqv (.tuple [.str "bundles", .int i]) (.tuple [.str "bundles", .int i]) = true := by
  have h : PyData.eqv (.str "bundles") (.str "bundles") = true := by decide +kernel
  have h2 : PyData.eqv (.int i) (.int i) = true := by rw [eqv_int, decide_eq_true rfl]
  show (PyData.eqv (.str "bundles") (.str "bundles") && (PyData.eqv (.int i) (.int i) && true)) = true
  rw [h, h2]
  rfl
theorem tri8 (T : Txt K mg) (G : Err K mg) (TB : LamX.TabB base mg cA PA) (hr : Room 8 (lcx P w K mg base fa (.ref cA) A outer s H0 E).A) :
    TriP (lcx P w K mg base fa (.ref cA) A outer s H0 E) (turnS 8) (fun ⟨a, st, c, b⟩ => I2 (tabL PA) a st c (b + 100)) (fun ⟨a, st, c, b⟩ => I2 (tabL PA) a st c (b + 100)) := by
  refine ⟨_, ps_for PassesOwn.never rfl (pi_tup (pe_tup (pa_cons pe_non (pa_cons pe_int (pa_cons pe_str (pa_cons pe_dnewK (pa_cons pe_bl pa_nil))))))) (pg_name (i := 11) scLaw.nd rfl (.inr rfl))
    (pss_one (ps_if (pt_cmpR (op_neD hr.units) (pe_tried T G TB hr (LamX.lamS_by (by decide +kernel)) rfl (fun _ _ _ _ _ => rfl)
      (fun A1 outer1 s1 H1 E1 f c' hr1 => pe_call (okFewest T G) hr1 rfl T.D_fewest.m T.D_fewest.F.kp T.D_fewest.b .nil (passes_call (takes_of rfl rfl rfl rfl) fun _ _ _ _ h => h) (pa_cons (pv 11) pa_nil))) (pe_tup (pa_cons pe_str (pa_cons pe_int pa_nil))) (nomark _))
      (pss_one (ps_ret pe_bl)) pss_nil)), ?_⟩
  rintro ⟨a, st, c, b⟩ D σ H ⟨r2, r3, r4, r5, r6, r7, r8, r9, r11, r12, r13, B, bs, rfl, ⟨hS, hT⟩, f⟩ q
  refine fun dk hdk => ⟨by show 5 ≤ sizeLine; decide, fun tp htp => ?_⟩
  have s1 : Same H (upd H dk (.dK [])) := same_new hdk
  have s2 : Same (upd H dk (.dK [])) (upd (upd H dk (.dK [])) tp (.tup [.non, .int 5, .str "ab", .ref dk, .bl true])) := same_new htp
  have hd2 := s2 _ _ (upd_same (H := H) (a := dk) (o := .dK []))
  have ht2 : (upd (upd H dk (.dK [])) tp (.tup [.non, .int 5, .str "ab", .ref dk, .bl true])) tp = some (.tup [.non, .int 5, .str "ab", .ref dk, .bl true]) := upd_same
  generalize upd (upd H dk (.dK [])) tp (.tup [.non, .int 5, .str "ab", .ref dk, .bl true]) = H1 at s2 hd2 ht2
  have s12 := s1.trans s2
  refine ⟨tp, rfl, ⟨_, SqT.of ht2⟩, for_tup (K := K) (a := tp) (xs := [.non, .int 5, .str "ab", .ref dk, .bl true]) (fun i σ H' => ∃ r11, σ = sL a st r2 r3 r4 r5 r6 r7 r8 r9 (some (.ref B)) r11 r12 r13 ∧ Rt (tabL PA) st c (b + 100) H' ∧ F2 (Vw st c H') B bs ∧ H' dk = some (.dK []) ∧ H' tp = some (.tup [.non, .int 5, .str "ab", .ref dk, .bl true]))
    ⟨r11, rfl, ⟨hS.go s12, hT.ext s12⟩, f.go (vw_same s12), hd2, ht2⟩ (fun i σ H' _ ⟨_, _, _, _, _, z⟩ => SqT.of z) ?_ ?_⟩
  · rintro i x σ H' hx ⟨r11, rfl, ⟨hS', hT'⟩, f', hd', ht'⟩
    have kx : ∀ H2 : Hp, H2 dk = some (.dK []) → ∃ n, Kd H2 x n ∧ isLT n = false := fun H2 hd2 => by
      have hm := List.mem_of_getElem? hx
      rcases List.mem_cons.mp hm with e | hm
      · rw [e]; exact ⟨_, .non, by decide⟩
      rcases List.mem_cons.mp hm with e | hm
      · rw [e]; exact ⟨_, .int 5, by decide⟩
      rcases List.mem_cons.mp hm with e | hm
      · rw [e]; exact ⟨_, .str _, by decide⟩
      rcases List.mem_cons.mp hm with e | hm
      · rw [e]; exact ⟨_, .dct hd2, by decide⟩
      · rw [List.mem_singleton.mp hm]; exact ⟨_, .bl _, by decide⟩
    refine ⟨hT', fun H2 eN hT2 => ⟨_, rfl, ?_⟩⟩
    dsimp only [tNil, List.cons_append, List.nil_append]
    obtain ⟨n, kd, hn⟩ := kx H2 (eN _ _ hd' fun ps z => by cases z)
    refine ⟨x, rfl, .inl ⟨n, kd, hn, fun H3 d td => ⟨rfl, d, 0, rfl, td.2.2, fun t ht => ⟨by show 2 ≤ sizeLine; decide, fun t2 ht2 => ?_⟩⟩⟩⟩
    have e3 : LamX.ExtN H' (upd (upd H3 t (.tup [.str "bundles", .int 0])) t2 (.tup [.str "bundles", .int 0])) := eN.trans (LamX.ExtN.of (td.1.trans ((same_new ht).trans (same_new ht2))))
    have s23 := td.1.trans ((same_new (o := .tup [.str "bundles", .int 0]) ht).trans (same_new (o := .tup [.str "bundles", .int 0]) ht2))
    refine ⟨.tuple [.str "bundles", .int 0], .tuple [.str "bundles", .int 0], .tup (SqT.of (same_new ht2 _ _ upd_same)) (.cons (.str _) (.cons (.int _) .nil)), .tup (SqT.of upd_same) (.cons (.str _) (.cons (.int _) .nil)), sh_tr 0, sh_tr 0, _, rfl, ?_⟩
    refine iteN (by rw [ev_tr]; rfl) ?_
    exact ⟨_, rfl, ⟨strm_ext hS' e3, hT2.ext s23⟩, f'.go (vw_ext e3), e3 _ _ hd' (fun ps z => by cases z), e3 _ _ ht' (fun ps z => by cases z)⟩
  · rintro σ H' ⟨r11, rfl, hR, f', _, _⟩
    exact q _ _ ⟨r2, r3, r4, r5, r6, r7, r8, r9, r11, r12, r13, B, bs, rfl, hR, f'⟩
end Qb
set_option Elab.async false
set_option linter.all false
set_option maxRecDepth 100000
set_option maxHeartbeats 4000000
/-! # law: what is no bundle, among bundles -/
namespace Qb
open PySem L2
open PySem.Spec hiding Row
open PyProof.Rows hiding St
open Qm
variable {P : Program} {w : World} {K : PySem.W.Frag} {mg : Str → Option Value} {base : Heap} {fa cA PA : Addr} {A : Around} {outer : List Env} {s : Shared} {H0 : Hp} {E : XK}
def I9 (T : List (Addr × Str)) (a st c : Addr) (b : Nat) : L2.St → Hp → Prop := fun σ H => ∃ r2 r3 r4 r5 r6 r7 r8 r11 r12 r13, ∃ (B : Addr) (bs : List Bun) (n : Nat), σ = sL a st r2 r3 r4 r5 r6 r7 r8 (some (.int (n : Nat))) (some (.ref B)) r11 r12 r13 ∧ Rt T st c b H ∧ F2 (Vw st c H) B bs ∧ n ≤ bs.length
theorem tri9 (T : Txt K mg) {TT : List (Addr × Str)} (hr : Room 8 (lcx P w K mg base fa (.ref cA) A outer s H0 E).A) :
    TriP (lcx P w K mg base fa (.ref cA) A outer s H0 E) (turnS 9) (fun ⟨a, st, c, b⟩ => I2 TT a st c (b + 100)) (fun ⟨a, st, c, b⟩ => I9 TT a st c b) := by
  refine ⟨_, ps_set (i := 9) scLaw.nd rfl (.inr rfl) (pe_df (okDraw T) T.D_draw (hr.mono (by decide)) rfl (pa_cons (pv 1) (pa_cons (pe_op op_add (pe_callB call_len_seq (by rfl) T.z_len PySem.boot_len (pa_cons (pv 10) pa_nil)) pe_int) pa_nil))), ?_⟩
  rintro ⟨a, st, c, b⟩ D σ H ⟨r2, r3, r4, r5, r6, r7, r8, r9, r11, r12, r13, B, bs, rfl, ⟨hS, hT⟩, f⟩ q
  obtain ⟨⟨B', xs, e, hB, hp⟩, hl, hN⟩ := id f
  cases e
  have lx := hp.length
  refine ⟨_, rfl, _, rfl, B, xs, rfl, .inl (SqL.of (vw_all _ _ hB)), _, _, rfl, rfl, st, c, b, (xs.length : Int) + 1, rfl, hS.mono (by omega), by omega, by omega, fun H1 n hS1 sb1 n0 n1 => ?_⟩
  obtain ⟨m, rfl⟩ := Int.eq_ofNat_of_zero_le n0
  exact q _ _ ⟨r2, r3, r4, r5, r6, r7, r8, r11, r12, r13, B, bs, m, rfl, ⟨hS1, tabs_but hT hS sb1⟩, f.go (vw_but sb1), by omega⟩
theorem cut_to (xs : List V) {n : Nat} (h : n ≤ xs.length) : cutV xs none (some (n : Int)) = xs.take n := by
  have e1 : HT.sIx xs.length 0 none = 0 := by unfold HT.sIx; rfl
  have e2 : HT.sIx xs.length xs.length (some (n : Int)) = n := by
    unfold HT.sIx
    simp
    rw [if_neg (show ¬ (n : Int) < 0 by omega)]
    omega
  unfold cutV
  rw [e1, e2]
  simp
theorem cut_from (xs : List V) {n : Nat} (h : n ≤ xs.length) : cutV xs (some (n : Int)) none = xs.drop n := by
  have e1 : HT.sIx xs.length 0 (some (n : Int)) = n := by
    unfold HT.sIx
    simp
    rw [if_neg (show ¬ (n : Int) < 0 by omega)]
    omega
  have e2 : HT.sIx xs.length xs.length none = xs.length := by unfold HT.sIx; rfl
  unfold cutV
  rw [e1, e2, List.take_of_length_le (by rw [List.length_drop]; omega)]
structure Odds (H : Hp) (l e1 e2 e3 e4 t e5 e6 dk : Addr) : Prop where
  l : H l = some (.lst [.non, .ref e1, .int 5, .str "ab", .ref e3, .ref e4, .ref e6, .ref dk])
  a1 : H e1 = some (.lst [])
  a2 : H e2 = some (.lst [])
  a3 : H e3 = some (.lst [.ref e2])
  a4 : H e4 = some (.lst [.non])
  at_ : H t = some (.tup [.int 1, .int 0])
  a5 : H e5 = some (.lst [.ref t])
  a6 : H e6 = some (.lst [.ref e5])
  ad : H dk = some (.dK [])
theorem Odds.ext {H H' : Hp} {l e1 e2 e3 e4 t e5 e6 dk : Addr} (o : Odds H l e1 e2 e3 e4 t e5 e6 dk) (e : LamX.ExtN H H') : Odds H' l e1 e2 e3 e4 t e5 e6 dk :=
  ⟨e _ _ o.l fun _ z => (by cases z), e _ _ o.a1 fun _ z => (by cases z), e _ _ o.a2 fun _ z => (by cases z), e _ _ o.a3 fun _ z => (by cases z), e _ _ o.a4 fun _ z => (by cases z), e _ _ o.at_ fun _ z => (by cases z), e _ _ o.a5 fun _ z => (by cases z), e _ _ o.a6 fun _ z => (by cases z), e _ _ o.ad fun _ z => (by cases z)⟩
theorem Odds.bad {H : Hp} {l e1 e2 e3 e4 t e5 e6 dk : Addr} (o : Odds H l e1 e2 e3 e4 t e5 e6 dk) : ∀ x ∈ ([.non, .ref e1, .int 5, .str "ab", .ref e3, .ref e4, .ref e6, .ref dk] : List V), BR H x none := fun x hm => by
  rcases List.mem_cons.mp hm with e | hm
  · rw [e]; exact .inl ⟨_, .non, by decide⟩
  rcases List.mem_cons.mp hm with e | hm
  · rw [e]; exact .inr ⟨[], ⟨e1, [], rfl, .inl o.a1, .nil⟩, Nat.zero_le _, fun z => nomatch z⟩
  rcases List.mem_cons.mp hm with e | hm
  · rw [e]; exact .inl ⟨_, .int 5, by decide⟩
  rcases List.mem_cons.mp hm with e | hm
  · rw [e]; exact .inl ⟨_, .str _, by decide⟩
  rcases List.mem_cons.mp hm with e | hm
  · rw [e]; exact .inr ⟨[some []], ⟨e3, _, rfl, .inl o.a3, .cons ⟨⟨e2, [], rfl, .inl o.a2, .nil⟩, Nat.zero_le _⟩ .nil⟩, by show 1 ≤ 100; decide, fun z => nomatch (show V.int 0 = V.non from z)⟩
  rcases List.mem_cons.mp hm with e | hm
  · rw [e]; exact .inr ⟨[none], ⟨e4, _, rfl, .inl o.a4, .cons ⟨_, .non, by decide⟩ .nil⟩, by show 1 ≤ 100; decide, fun z => nomatch (show V.int 0 = V.non from z)⟩
  rcases List.mem_cons.mp hm with e | hm
  · rw [e]; exact .inr ⟨[some [(1, 0)]], ⟨e6, _, rfl, .inl o.a6, .cons ⟨⟨e5, _, rfl, .inl o.a5, .cons ⟨t, rfl, .inr o.at_⟩ .nil⟩, by show 1 ≤ 100; decide⟩ .nil⟩, by show 1 ≤ 100; decide, fun z => nomatch (show V.int 0 = V.non from z)⟩
  · rw [List.mem_singleton.mp hm]; exact .inl ⟨_, .dct o.ad, by decide⟩
/-- bundles with an odd thing at n -/
theorem sp_odd {C : Addr} {H : Hp} {Q : VK} {E' : XK} {p : Addr} {xs : List V} {bs : List Bun} {x : V} {n : Nat} (hp : Paired (BR H) xs (bs.map some)) (hb : BR H x none) (hn : n ≤ bs.length) (hl : bs.length ≤ 5) (h : H p = some (.lst ((xs.take n ++ [x, .non]) ++ xs.drop n)))
    (q : ∀ H' d, Told H H' d (n : Nat) → E' (.ref C) (some d) H') : spFewest C [.ref p] H Q E' := by
  have lx := hp.length
  rw [List.length_map] at lx
  have hnon : BR H .non none := .inl ⟨_, .non, by decide⟩
  have hat : ((((bs.map some).take n ++ [none, none]) ++ (bs.map some).drop n : List (Option Bun)))[n]? = some none := by
    rw [List.append_assoc, List.getElem?_append_right (by rw [List.length_take]; omega), List.length_take, List.length_map, Nat.min_eq_left hn, Nat.sub_self]
    rfl
  have hlt : ∀ j, j < n → ∃ b, ((((bs.map some).take n ++ [none, none]) ++ (bs.map some).drop n : List (Option Bun)))[j]? = some (some b) := fun j hj => by
    rw [List.append_assoc, List.getElem?_append_left (by rw [List.length_take, List.length_map]; omega), List.getElem?_take_of_lt hj, List.getElem?_map, List.getElem?_eq_getElem (show j < bs.length by omega)]
    exact ⟨_, rfl⟩
  refine ⟨_, rfl, .inr ⟨_, ⟨p, _, rfl, .inl h, pd_app (pd_app (pd_take n hp) (.cons hb (.cons hnon .nil))) (pd_drop n hp)⟩, ?_, fun i hi hj => ?_, fun bs' e => ?_⟩⟩
  · simp only [List.length_append, List.length_take, List.length_drop, List.length_map, List.length_cons, List.length_nil]
    omega
  · rcases Nat.lt_trichotomy i n with z | z | z
    · obtain ⟨b, hb'⟩ := hlt i z
      rw [hi] at hb'
      cases hb'
    · rw [z]; exact q
    · obtain ⟨b, hb'⟩ := hj n z
      rw [hat] at hb'
      cases hb'
  · rw [e, List.getElem?_map] at hat
    cases hb' : bs'[n]? with
    | none => rw [hb'] at hat; cases hat
    | some x => rw [hb'] at hat; cases hat
end Qb
set_option Elab.async false
set_option linter.all false
set_option maxRecDepth 100000
set_option maxHeartbeats 4000000
/-! # law: an odd thing among bundles; a turn -/
namespace Qb
open PySem L2
open PySem.Spec hiding Row
open PyProof.Rows hiding St
open Qm
variable {P : Program} {w : World} {K : PySem.W.Frag} {mg : Str → Option Value} {base : Heap} {fa cA PA : Addr} {A : Around} {outer : List Env} {s : Shared} {H0 : Hp} {E : XK}
theorem brs_of {H : Hp} {xs : List V} {bs : List Bun} (h : Paired (BunL H) xs bs) (hN : ∀ bu ∈ bs, Nice 6 bu) : Paired (BR H) xs (bs.map some) := by
  refine pd_of (by rw [List.length_map]; exact h.length) fun i x o hx ho => ?_
  rw [List.getElem?_map] at ho
  obtain ⟨bu, hb, r⟩ := pd_get h hx
  rw [hb] at ho
  cases ho
  have sm := nice_small (hN bu (List.mem_of_getElem? hb))
  exact ⟨bunl_r r, sm.1, sm.2.1⟩
theorem tri10 (T : Txt K mg) (G : Err K mg) (TB : LamX.TabB base mg cA PA) (hr : Room 8 (lcx P w K mg base fa (.ref cA) A outer s H0 E).A) :
    TriP (lcx P w K mg base fa (.ref cA) A outer s H0 E) (turnS 10) (fun ⟨a, st, c, b⟩ => I9 (tabL PA) a st c b) (fun ⟨a, st, c, b⟩ => I0 (tabL PA) a st c b) := by
  refine ⟨_, ps_for PassesOwn.never rfl (pi_list (pe_lst (pa_cons pe_non (pa_cons (pe_lst pa_nil) (pa_cons pe_int (pa_cons pe_str (pa_cons (pe_lst (pa_cons (pe_lst pa_nil) pa_nil)) (pa_cons (pe_lst (pa_cons pe_non pa_nil)) (pa_cons (pe_lst (pa_cons (pe_lst (pa_cons (pe_tup (pa_cons pe_int (pa_cons pe_int pa_nil))) pa_nil)) pa_nil)) (pa_cons pe_dnewK pa_nil)))))))))) (pg_name (i := 11) scLaw.nd rfl (.inr rfl))
    (pss_one (ps_if (pt_cmpR (op_neD hr.units) (pe_tried T G TB hr (LamX.lamS_by (by decide +kernel)) rfl (fun _ _ _ _ _ => rfl)
      (fun A1 outer1 s1 H1 E1 f c' hr1 => pe_call (okFewest T G) hr1 rfl T.D_fewest.m T.D_fewest.F.kp T.D_fewest.b .nil (passes_call (takes_of rfl rfl rfl rfl) fun _ _ _ _ h => h)
        (pa_cons (pe_op op_cat (pe_op op_cat (pe_slice (show SlR _ (rSlL K) from sl_list) (pv 10) po_none (po_some (pv 9))) (pe_lst (pa_cons (pv 11) (pa_cons pe_non pa_nil)))) (pe_slice (show SlR _ (rSlL K) from sl_list) (pv 10) (po_some (pv 9)) po_none)) pa_nil))) (pe_tup (pa_cons pe_str (pa_cons (pv 9) pa_nil))) (nomark _))
      (pss_one (ps_ret pe_bl)) pss_nil)), ?_⟩
  rintro ⟨a, st, c, b⟩ D σ H ⟨r2, r3, r4, r5, r6, r7, r8, r11, r12, r13, B, bs, n, rfl, ⟨hS, hT⟩, f, hn⟩ q
  refine ⟨Nat.zero_le _, fun e1 he1 => ⟨Nat.zero_le _, fun e2 he2 => ⟨by show 1 ≤ sizeLine; decide, fun e3 he3 => ⟨by show 1 ≤ sizeLine; decide, fun e4 he4 => ⟨by show 2 ≤ sizeLine; decide, fun t ht => ⟨by show 1 ≤ sizeLine; decide, fun e5 he5 => ⟨by show 1 ≤ sizeLine; decide, fun e6 he6 => fun dk hdk => ⟨by show 8 ≤ sizeLine; decide, fun l hl => ?_⟩⟩⟩⟩⟩⟩⟩⟩
  have s1 := same_new (o := .lst []) he1
  have g1 : upd H e1 (.lst []) e1 = some (.lst []) := upd_same
  generalize upd H e1 (.lst []) = H1 at s1 g1 he2 he3 he4 ht he5 he6 hdk hl ⊢
  have s2 := same_new (o := .lst []) he2
  have g2 : upd H1 e2 (.lst []) e2 = some (.lst []) := upd_same
  generalize upd H1 e2 (.lst []) = H2 at s2 g2 he3 he4 ht he5 he6 hdk hl ⊢
  have s3 := same_new (o := .lst [.ref e2]) he3
  have g3 : upd H2 e3 (.lst [.ref e2]) e3 = some (.lst [.ref e2]) := upd_same
  generalize upd H2 e3 (.lst [.ref e2]) = H3 at s3 g3 he4 ht he5 he6 hdk hl ⊢
  have s4 := same_new (o := .lst [.non]) he4
  have g4 : upd H3 e4 (.lst [.non]) e4 = some (.lst [.non]) := upd_same
  generalize upd H3 e4 (.lst [.non]) = H4 at s4 g4 ht he5 he6 hdk hl ⊢
  have s5 := same_new (o := .tup [.int 1, .int 0]) ht
  have g5 : upd H4 t (.tup [.int 1, .int 0]) t = some (.tup [.int 1, .int 0]) := upd_same
  generalize upd H4 t (.tup [.int 1, .int 0]) = H5 at s5 g5 he5 he6 hdk hl ⊢
  have s6 := same_new (o := .lst [.ref t]) he5
  have g6 : upd H5 e5 (.lst [.ref t]) e5 = some (.lst [.ref t]) := upd_same
  generalize upd H5 e5 (.lst [.ref t]) = H6 at s6 g6 he6 hdk hl ⊢
  have s7 := same_new (o := .lst [.ref e5]) he6
  have g7 : upd H6 e6 (.lst [.ref e5]) e6 = some (.lst [.ref e5]) := upd_same
  generalize upd H6 e6 (.lst [.ref e5]) = H7 at s7 g7 hdk hl ⊢
  have s8 := same_new (o := .dK []) hdk
  have g8 : upd H7 dk (.dK []) dk = some (.dK []) := upd_same
  generalize upd H7 dk (.dK []) = H8 at s8 g8 hl ⊢
  have s9 := same_new (o := .lst [.non, .ref e1, .int 5, .str "ab", .ref e3, .ref e4, .ref e6, .ref dk]) hl
  have g9 : upd H8 l (.lst [.non, .ref e1, .int 5, .str "ab", .ref e3, .ref e4, .ref e6, .ref dk]) l = some (.lst [.non, .ref e1, .int 5, .str "ab", .ref e3, .ref e4, .ref e6, .ref dk]) := upd_same
  generalize upd H8 l (.lst [.non, .ref e1, .int 5, .str "ab", .ref e3, .ref e4, .ref e6, .ref dk]) = H9 at s9 g9
  have s89 := s8.trans s9
  have s79 := s7.trans s89
  have s69 := s6.trans s79
  have s59 := s5.trans s69
  have s49 := s4.trans s59
  have s39 := s3.trans s49
  have s29 := s2.trans s39
  have s19 := s1.trans s29
  have od : Odds H9 l e1 e2 e3 e4 t e5 e6 dk := ⟨g9, s29 _ _ g1, s39 _ _ g2, s49 _ _ g3, s59 _ _ g4, s69 _ _ g5, s79 _ _ g6, s89 _ _ g7, s9 _ _ g8⟩
  clear s1 s2 s3 s4 s5 s6 s7 s8 s9 s29 s39 s49 s59 s69 s79 s89 g1 g2 g3 g4 g5 g6 g7 g8 g9 he1 he2 he3 he4 ht he5 he6 hdk hl
  refine ⟨l, rfl, ⟨_, SqL.of od.l⟩, for_list (K := K) (a := l) (xs := [.non, .ref e1, .int 5, .str "ab", .ref e3, .ref e4, .ref e6, .ref dk]) (fun i σ H' => ∃ r11, σ = sL a st r2 r3 r4 r5 r6 r7 r8 (some (.int (n : Nat))) (some (.ref B)) r11 r12 r13 ∧ Rt (tabL PA) st c b H' ∧ F2 (Vw st c H') B bs ∧ Odds H' l e1 e2 e3 e4 t e5 e6 dk)
    ⟨r11, rfl, ⟨hS.go s19, hT.ext s19⟩, f.go (vw_same s19), od⟩ (fun i σ H' _ ⟨_, _, _, _, z⟩ => SqL.of z.l) ?_ ?_⟩
  · rintro i x σ H' hx ⟨r11, rfl, ⟨hS', hT'⟩, f', od'⟩
    refine ⟨hT', fun H2 eN hT2 => ?_⟩
    have od2 := od'.ext eN
    have f2 : F2 (Vw st c H2) B bs := f'.go (vw_ext eN)
    obtain ⟨⟨B', xs, e, hB, hp⟩, hl5, hN⟩ := id f2
    cases e
    have lx := hp.length
    have hB2 : H2 B = some (.lst xs) := vw_all _ _ hB
    refine ⟨_, rfl, _, rfl, _, rfl, B, xs, rfl, SqL.of hB2, fun p1 hp1 => ?_⟩
    rw [cut_to xs (by omega)]
    refine ⟨_, rfl, by show 2 ≤ sizeLine; decide, fun p2 hp2 => ?_⟩
    have s1 := same_new (o := .lst (xs.take n)) hp1
    have g1 : upd H2 p1 (.lst (xs.take n)) p1 = some (.lst (xs.take n)) := upd_same
    generalize upd H2 p1 (.lst (xs.take n)) = H3 at s1 g1 hp2 ⊢
    have s2 := same_new (o := .lst [x, .non]) hp2
    have g2 : upd H3 p2 (.lst [x, .non]) p2 = some (.lst [x, .non]) := upd_same
    generalize upd H3 p2 (.lst [x, .non]) = H4 at s2 g2 ⊢
    refine ⟨p1, p2, _, _, rfl, rfl, s2 _ _ g1, g2, small1000' (by rw [List.length_take]; show _ + 2 ≤ 1000; omega), fun p3 hp3 => ?_⟩
    have s3 := same_new (o := .lst (xs.take n ++ [x, .non])) hp3
    have g3 : upd H4 p3 (.lst (xs.take n ++ [x, .non])) p3 = some (.lst (xs.take n ++ [x, .non])) := upd_same
    generalize upd H4 p3 (.lst (xs.take n ++ [x, .non])) = H5 at s3 g3 ⊢
    refine ⟨_, rfl, _, rfl, _, rfl, B, xs, rfl, SqL.of (s3 _ _ (s2 _ _ (s1 _ _ hB2))), fun p4 hp4 => ?_⟩
    rw [cut_from xs (by omega)]
    have s4 := same_new (o := .lst (xs.drop n)) hp4
    have g4 : upd H5 p4 (.lst (xs.drop n)) p4 = some (.lst (xs.drop n)) := upd_same
    generalize upd H5 p4 (.lst (xs.drop n)) = H6 at s4 g4 ⊢
    refine ⟨p3, p4, _, _, rfl, rfl, s4 _ _ g3, g4, small1000' (by simp only [List.length_append, List.length_take, List.length_drop, List.length_cons, List.length_nil]; omega), fun p5 hp5 => ?_⟩
    have s5 := same_new (o := .lst ((xs.take n ++ [x, .non]) ++ xs.drop n)) hp5
    have g5 : upd H6 p5 (.lst ((xs.take n ++ [x, .non]) ++ xs.drop n)) p5 = some (.lst ((xs.take n ++ [x, .non]) ++ xs.drop n)) := upd_same
    generalize upd H6 p5 (.lst ((xs.take n ++ [x, .non]) ++ xs.drop n)) = H7 at s5 g5 ⊢
    have sm : Same H2 H7 := (((s1.trans s2).trans s3).trans s4).trans s5
    dsimp only [tNil, List.cons_append, List.nil_append]
    refine sp_odd (brs_of (hp.mono fun _ _ z => mBunL _ _ _ _ (vw_all.trans sm) z) fun bu hb => (hN bu hb).1) (mBR _ _ _ _ sm (od2.bad x (List.mem_of_getElem? hx))) hn hl5 g5 fun H8 d td => ⟨rfl, d, (n : Nat), rfl, td.2.2, fun t ht => ⟨_, rfl, by show 2 ≤ sizeLine; decide, fun t2 ht2 => ?_⟩⟩
    have s78 := td.1.trans ((same_new (o := .tup [.str "bundles", .int (n : Nat)]) ht).trans (same_new (o := .tup [.str "bundles", .int (n : Nat)]) ht2))
    have e8 := eN.trans (LamX.ExtN.of (sm.trans s78))
    refine ⟨.tuple [.str "bundles", .int (n : Nat)], .tuple [.str "bundles", .int (n : Nat)], .tup (SqT.of (same_new ht2 _ _ upd_same)) (.cons (.str _) (.cons (.int _) .nil)), .tup (SqT.of upd_same) (.cons (.str _) (.cons (.int _) .nil)), sh_tr _, sh_tr _, _, rfl, ?_⟩
    refine iteN (by rw [ev_tr]; rfl) ?_
    exact ⟨_, rfl, ⟨strm_ext hS' e8, hT2.ext (sm.trans s78)⟩, f'.go (vw_ext e8), od'.ext e8⟩
  · rintro σ H' ⟨r11, rfl, hR, f', _⟩
    exact q _ _ ⟨r2, r3, r4, r5, r6, r7, r8, _, _, r11, r12, r13, rfl, hR⟩
/-- one turn -/
theorem triT (T : Txt K mg) (G : Err K mg) (TB : LamX.TabB base mg cA PA) (hg : (lcx P w K mg base fa (.ref cA) A outer s H0 E).A.guards = some []) (hr : Room 8 (lcx P w K mg base fa (.ref cA) A outer s H0 E).A) :
    TriS (lcx P w K mg base fa (.ref cA) A outer s H0 E) (fBody (lawS 1)) (fun ⟨a, st, c, b⟩ => I0 (tabL PA) a st c (b + 1000)) (fun ⟨a, st, c, b⟩ => I0 (tabL PA) a st c b) := by
  rw [turn_body]
  exact TriS.cons (tri0 T hr) (TriS.cons (tri1 T hr) (TriS.cons (tri2 T hr) (TriS.cons (tri3 T G hg hr) (TriS.cons (tri4 T G hg hr) (TriS.cons (tri5 T hr) (TriS.cons (tri6 T hr) (TriS.cons (tri7 T G hr) (TriS.cons (tri8 T G TB hr) (TriS.cons (tri9 T hr) (TriS.one (tri10 T G TB hr)))))))))))
end Qb
set_option Elab.async false
set_option linter.all false
set_option maxRecDepth 100000
set_option maxHeartbeats 4000000
/-! # law: the whole -/
namespace Qb
open PySem L2
open PySem.Spec hiding Row
open PyProof.Rows hiding St
open Qm
variable {P : Program} {w : World} {K : PySem.W.Frag} {mg : Str → Option Value} {base : Heap} {fa cA PA : Addr} {A : Around} {outer : List Env} {s : Shared} {H0 : Hp} {E : XK}
theorem triR (T : Txt K mg) (G : Err K mg) (TB : LamX.TabB base mg cA PA) (hg : (lcx P w K mg base fa (.ref cA) A outer s H0 E).A.guards = some []) (hr : Room 8 (lcx P w K mg base fa (.ref cA) A outer s H0 E).A) :
    TriP (lcx P w K mg base fa (.ref cA) A outer s H0 E) (lawS 1) (fun ⟨a, st, c, b⟩ => I0 (tabL PA) a st c (b + 4000)) (fun ⟨a, st, c, b⟩ => I0 (tabL PA) a st c b) := by
  obtain ⟨t, pt, rd⟩ := triT T G TB hg hr
  refine ⟨_, ps_for PassesOwn.never rfl (pi_range1 (by rfl) T.z_range (pa_cons pe_int pa_nil)) (pg_name (i := 2) scLaw.nd rfl (.inl rfl)) pt, ?_⟩
  rintro ⟨a, st, c, b⟩ D σ H h q
  refine ⟨4, rfl, by decide, by decide, for_range (lo := 0) (n := 4) (fun i σ H' => I0 (tabL PA) a st c (b + 1000 * (4 - i)) σ H') h (fun i σ H' hi hI => ?_) (fun σ H' h => q _ _ h)⟩
  obtain ⟨r2, r3, r4, r5, r6, r7, r8, r9, r10, r11, r12, r13, rfl, hS, hT⟩ := hI
  have hi4 : i < 4 := hi
  refine rd ⟨a, st, c, b + 1000 * (4 - (i + 1))⟩ _ _ _ ⟨_, r3, r4, r5, r6, r7, r8, r9, r10, r11, r12, r13, rfl, hS.mono (by show _ + 1000 ≤ _; omega), hT⟩ fun σ' H' hh => hh
theorem ex_nice : ∀ b ∈ exBs, Nice 6 b := by
  have h : ∀ b ∈ exBs, b ≠ [] ∧ b.length ≤ 6 ∧ (∀ row ∈ b, row ≠ [] ∧ row.length ≤ 4 ∧ rowLen row ≤ 100 ∧ ∀ q ∈ row, 1 ≤ q.1 ∧ 1 ≤ q.2) ∧ sumRoom b ≤ 9 := by decide
  exact fun b hb => let ⟨h1, h2, h3, h4⟩ := h b hb; ⟨h1, h2, h3, h4⟩
theorem law_ends (T : Txt K mg) (G : Err K mg) (hr : Room 8 (lcx P w K mg base fa (.ref cA) A outer s H0 E).A) :
    ∃ t, PSs (lcx P w K mg base fa (.ref cA) A outer s H0 E) [lawS 2, lawS 3] t ∧ ∀ (D : Ends) (σ : L2.St) (H : Hp), (∃ a st r2 r3 r4 r5 r6 r7 r8 r9 r10 r11 r12 r13, σ = sL a st r2 r3 r4 r5 r6 r7 r8 r9 r10 r11 r12 r13) → (∀ H', D.rt (.bl true) H') → t D σ H := by
  refine ⟨_, pss_cons (ps_set (i := 8) scLaw.nd rfl (.inl rfl) (pe_lst (pa_cons (pe_lst (pa_cons (pe_lst (pa_cons (pe_tup (pa_cons pe_int (pa_cons pe_int pa_nil))) pa_nil)) (pa_cons (pe_lst (pa_cons (pe_tup (pa_cons pe_int (pa_cons pe_int pa_nil))) (pa_cons (pe_tup (pa_cons pe_int (pa_cons pe_int pa_nil))) pa_nil))) pa_nil)))
      (pa_cons (pe_lst (pa_cons (pe_lst (pa_cons (pe_tup (pa_cons pe_int (pa_cons pe_int pa_nil))) pa_nil)) pa_nil)) (pa_cons (pe_lst (pa_cons (pe_lst (pa_cons (pe_tup (pa_cons pe_int (pa_cons pe_int pa_nil))) pa_nil)) pa_nil)) pa_nil)))))
    (pss_one (ps_ret (pe_df (okSame2 T) T.D_same (hr.mono (by decide)) rfl (pa_cons (pe_lst (pa_cons (pe_call (okFewest T G) (hr.mono (by decide)) rfl T.D_fewest.m T.D_fewest.F.kp T.D_fewest.b .nil passL (pa_cons (pv 8) pa_nil)) (pa_cons (pe_call (okFewest T G) (hr.mono (by decide)) rfl T.D_fewest.m T.D_fewest.F.kp T.D_fewest.b .nil passL (pa_cons (pe_lst pa_nil) pa_nil)) pa_nil)))
      (pa_cons (pe_lst (pa_cons (pe_lst (pa_cons pe_int pa_nil)) (pa_cons (pe_lst pa_nil) pa_nil))) pa_nil))))), ?_⟩
  rintro D σ H ⟨a, st, r2, r3, r4, r5, r6, r7, r8, r9, r10, r11, r12, r13, rfl⟩ q
  refine ⟨by show 2 ≤ sizeLine; decide, fun t1 h1 => ⟨by show 1 ≤ sizeLine; decide, fun x1 h2 => ⟨by show 2 ≤ sizeLine; decide, fun t2 h3 => ⟨by show 2 ≤ sizeLine; decide, fun t3 h4 => ⟨by show 2 ≤ sizeLine; decide, fun x2 h5 => ⟨by show 2 ≤ sizeLine; decide, fun b1 h6 =>
    ⟨by show 2 ≤ sizeLine; decide, fun t4 h7 => ⟨by show 1 ≤ sizeLine; decide, fun x3 h8 => ⟨by show 1 ≤ sizeLine; decide, fun b2 h9 => ⟨by show 2 ≤ sizeLine; decide, fun t5 h10 => ⟨by show 1 ≤ sizeLine; decide, fun x4 h11 => ⟨by show 1 ≤ sizeLine; decide, fun b3 h12 => ⟨by show 3 ≤ sizeLine; decide, fun wr h13 => ?_⟩⟩⟩⟩⟩⟩⟩⟩⟩⟩⟩⟩⟩
  have s1 := same_new (o := .tup [.int 1, .int 2]) h1
  have g1 : upd H t1 (.tup [.int 1, .int 2]) t1 = some (.tup [.int 1, .int 2]) := upd_same
  generalize upd H t1 (.tup [.int 1, .int 2]) = H1 at s1 g1 h2 h3 h4 h5 h6 h7 h8 h9 h10 h11 h12 h13 ⊢
  have s2 := same_new (o := .lst [.ref t1]) h2
  have g2 : upd H1 x1 (.lst [.ref t1]) x1 = some (.lst [.ref t1]) := upd_same
  generalize upd H1 x1 (.lst [.ref t1]) = H2 at s2 g2 h3 h4 h5 h6 h7 h8 h9 h10 h11 h12 h13 ⊢
  have s3 := same_new (o := .tup [.int 2, .int 3]) h3
  have g3 : upd H2 t2 (.tup [.int 2, .int 3]) t2 = some (.tup [.int 2, .int 3]) := upd_same
  generalize upd H2 t2 (.tup [.int 2, .int 3]) = H3 at s3 g3 h4 h5 h6 h7 h8 h9 h10 h11 h12 h13 ⊢
  have s4 := same_new (o := .tup [.int 1, .int 2]) h4
  have g4 : upd H3 t3 (.tup [.int 1, .int 2]) t3 = some (.tup [.int 1, .int 2]) := upd_same
  generalize upd H3 t3 (.tup [.int 1, .int 2]) = H4 at s4 g4 h5 h6 h7 h8 h9 h10 h11 h12 h13 ⊢
  have s5 := same_new (o := .lst [.ref t2, .ref t3]) h5
  have g5 : upd H4 x2 (.lst [.ref t2, .ref t3]) x2 = some (.lst [.ref t2, .ref t3]) := upd_same
  generalize upd H4 x2 (.lst [.ref t2, .ref t3]) = H5 at s5 g5 h6 h7 h8 h9 h10 h11 h12 h13 ⊢
  have s6 := same_new (o := .lst [.ref x1, .ref x2]) h6
  have g6 : upd H5 b1 (.lst [.ref x1, .ref x2]) b1 = some (.lst [.ref x1, .ref x2]) := upd_same
  generalize upd H5 b1 (.lst [.ref x1, .ref x2]) = H6 at s6 g6 h7 h8 h9 h10 h11 h12 h13 ⊢
  have s7 := same_new (o := .tup [.int 1, .int 2]) h7
  have g7 : upd H6 t4 (.tup [.int 1, .int 2]) t4 = some (.tup [.int 1, .int 2]) := upd_same
  generalize upd H6 t4 (.tup [.int 1, .int 2]) = H7 at s7 g7 h8 h9 h10 h11 h12 h13 ⊢
  have s8 := same_new (o := .lst [.ref t4]) h8
  have g8 : upd H7 x3 (.lst [.ref t4]) x3 = some (.lst [.ref t4]) := upd_same
  generalize upd H7 x3 (.lst [.ref t4]) = H8 at s8 g8 h9 h10 h11 h12 h13 ⊢
  have s9 := same_new (o := .lst [.ref x3]) h9
  have g9 : upd H8 b2 (.lst [.ref x3]) b2 = some (.lst [.ref x3]) := upd_same
  generalize upd H8 b2 (.lst [.ref x3]) = H9 at s9 g9 h10 h11 h12 h13 ⊢
  have s10 := same_new (o := .tup [.int 1, .int 4]) h10
  have g10 : upd H9 t5 (.tup [.int 1, .int 4]) t5 = some (.tup [.int 1, .int 4]) := upd_same
  generalize upd H9 t5 (.tup [.int 1, .int 4]) = H10 at s10 g10 h11 h12 h13 ⊢
  have s11 := same_new (o := .lst [.ref t5]) h11
  have g11 : upd H10 x4 (.lst [.ref t5]) x4 = some (.lst [.ref t5]) := upd_same
  generalize upd H10 x4 (.lst [.ref t5]) = H11 at s11 g11 h12 h13 ⊢
  have s12 := same_new (o := .lst [.ref x4]) h12
  have g12 : upd H11 b3 (.lst [.ref x4]) b3 = some (.lst [.ref x4]) := upd_same
  generalize upd H11 b3 (.lst [.ref x4]) = H12 at s12 g12 h13 ⊢
  have s13 := same_new (o := .lst [.ref b1, .ref b2, .ref b3]) h13
  have g13 : upd H12 wr (.lst [.ref b1, .ref b2, .ref b3]) wr = some (.lst [.ref b1, .ref b2, .ref b3]) := upd_same
  generalize upd H12 wr (.lst [.ref b1, .ref b2, .ref b3]) = H13 at s13 g13 ⊢
  have u12 := s13
  have u11 := s12.trans u12
  have u10 := s11.trans u11
  have u9 := s10.trans u10
  have u8 := s9.trans u9
  have u7 := s8.trans u8
  have u6 := s7.trans u7
  have u5 := s6.trans u6
  have u4 := s5.trans u5
  have u3 := s4.trans u4
  have u2 := s3.trans u3
  have u1 := s2.trans u2
  have hb : BunsL H13 (.ref wr) exBs := ⟨wr, _, rfl, g13, .cons ⟨b1, _, rfl, u6 _ _ g6, .cons ⟨x1, _, rfl, u2 _ _ g2, .cons ⟨t1, rfl, u1 _ _ g1⟩ .nil⟩ (.cons ⟨x2, _, rfl, u5 _ _ g5, .cons ⟨t2, rfl, u3 _ _ g3⟩ (.cons ⟨t3, rfl, u4 _ _ g4⟩ .nil)⟩ .nil)⟩
    (.cons ⟨b2, _, rfl, u9 _ _ g9, .cons ⟨x3, _, rfl, u8 _ _ g8, .cons ⟨t4, rfl, u7 _ _ g7⟩ .nil⟩ .nil⟩ (.cons ⟨b3, _, rfl, u12 _ _ g12, .cons ⟨x4, _, rfl, u11 _ _ g11, .cons ⟨t5, rfl, u10 _ _ g10⟩ .nil⟩ .nil⟩ .nil))⟩
  clear s1 s2 s3 s4 s5 s6 s7 s8 s9 s10 s11 s12 s13 u1 u2 u3 u4 u5 u6 u7 u8 u9 u10 u11 u12 g1 g2 g3 g4 g5 g6 g7 g8 g9 g10 g11 g12 g13 h1 h2 h3 h4 h5 h6 h7 h8 h9 h10 h11 h12 h13
  refine ⟨_, rfl, ?_⟩
  dsimp only [tNil, List.cons_append, List.nil_append]
  refine sp_few (bunsl_r hb) (by decide) ex_nice fun K1 p1 k1 hp1 hx1 => ⟨Nat.zero_le _, fun e0 he0 => ?_⟩
  rw [exRates] at hx1
  dsimp only [tNil, List.cons_append, List.nil_append]
  refine sp_few (bs := []) ⟨e0, [], rfl, .inl upd_same, .nil⟩ (by decide) (fun _ h => (by cases h)) fun K2 p2 k2 hp2 hx2 => ?_
  rw [exRates0] at hx2
  have hx1' := k2 _ _ (same_new he0 _ _ hx1)
  refine ⟨by show 2 ≤ sizeLine; decide, fun l1 hl1 => ⟨by show 1 ≤ sizeLine; decide, fun d1 hd1 => ⟨Nat.zero_le _, fun d2 hd2 => ⟨by show 2 ≤ sizeLine; decide, fun l2 hl2 => ?_⟩⟩⟩⟩
  have v1 := same_new (o := .lst [.ref p1, .ref p2]) hl1
  have w1 : upd K2 l1 (.lst [.ref p1, .ref p2]) l1 = some (.lst [.ref p1, .ref p2]) := upd_same
  generalize upd K2 l1 (.lst [.ref p1, .ref p2]) = K3 at v1 w1 hd1 hd2 hl2 ⊢
  have v2 := same_new (o := .lst [.int 3]) hd1
  have w2 : upd K3 d1 (.lst [.int 3]) d1 = some (.lst [.int 3]) := upd_same
  generalize upd K3 d1 (.lst [.int 3]) = K4 at v2 w2 hd2 hl2 ⊢
  have v3 := same_new (o := .lst []) hd2
  have w3 : upd K4 d2 (.lst []) d2 = some (.lst []) := upd_same
  generalize upd K4 d2 (.lst []) = K5 at v3 w3 hl2 ⊢
  have v4 := same_new (o := .lst [.ref d1, .ref d2]) hl2
  have w4 : upd K5 l2 (.lst [.ref d1, .ref d2]) l2 = some (.lst [.ref d1, .ref d2]) := upd_same
  generalize upd K5 l2 (.lst [.ref d1, .ref d2]) = K6 at v4 w4 ⊢
  have v34 := v3.trans v4
  have v24 := v2.trans v34
  have v14 := v1.trans v24
  refine ⟨.ref l1, .ref l2, [[3], []], [[3], []], rfl, ⟨⟨l1, _, rfl, v24 _ _ w1, .cons ⟨⟨p1, _, rfl, v14 _ _ hx1', .cons rfl .nil⟩, by decide⟩ (.cons ⟨⟨p2, _, rfl, v14 _ _ hx2, .nil⟩, by decide⟩ .nil)⟩, by decide⟩,
    ⟨⟨l2, _, rfl, w4, .cons ⟨⟨d1, _, rfl, v34 _ _ w2, .cons rfl .nil⟩, by decide⟩ (.cons ⟨⟨d2, _, rfl, v4 _ _ w3, .nil⟩, by decide⟩ .nil)⟩, by decide⟩, fun H' _ => q H'⟩
/-- the law, called from without -/
theorem law_at (T : Txt K mg) (G : Err K mg) (TB : LamX.TabB base mg cA PA) {oc : Value} {od : Option Addr} {dV kV doc pm ct : Value} {an : Option Addr} {osl : Array (Option Value)} {a : Addr} {ns : List Int} {H : Hp} (lk : K.lookup fa = some ⟨oc, od, .func (PySem.W.fnOf "law" "law" (defArgs sLaw) (defBody sLaw) (defScope sLaw) dV kV doc pm an (.ref cA) ct), osl⟩)
    (hcd : PySem.W.codeIn K (.ref cA) "law" = true) (hr : Room 9 callerA) (e0 : Env0 P w K mg base callerA [] s H) (hb : BindsTo s (PySem.W.fnOf "law" "law" (defArgs sLaw) (defBody sLaw) (defScope sLaw) dV kV doc pm an (.ref cA) ct) ⟨[.ref a], []⟩ [("_law_script", .ref a)])
    (hT : LamX.Tabs (tabL PA) H) (ha : SqL K H a (ns.map V.int)) :
    codeAny (model P w) callerA (.call (.ref fa) ⟨[.ref a], []⟩) (CR CX0 [] P w H s (fun v _ => v = .bl true) E0) s := by
  refine LamX.run_ofS (N := nmLaw) (ps := ["_law_script"]) (us := [.ref a]) (vs := [.ref a]) lk hcd scLaw hr e0 hb (.cons rfl .nil) rfl fun hr' => ?_
  have hr8 : Room 8 (lcx P w K mg base fa (.ref cA) callerA [] s H E0).A := hr'
  obtain ⟨t1, p1, r1⟩ := triR (P := P) (w := w) (base := base) (fa := fa) (outer := []) (s := s) (H0 := H) (E := E0) T G TB rfl hr8
  obtain ⟨t2, p2, r2⟩ := law_ends (P := P) (w := w) (base := base) (fa := fa) (cA := cA) (A := callerA) (outer := []) (s := s) (H0 := H) (E := E0) T G hr8
  obtain ⟨t0, p0, r0⟩ : ∃ t, PS (lcx P w K mg base fa (.ref cA) callerA [] s H E0) (lawS 0) t ∧ ∀ D : Ends, (∀ H' st c, Same H H' → Strm H' st c 900000 → D.nx (sL a st none none none none none none none none none none none none) H') → t D (L2.start nmLaw [.ref a]) H :=
    ⟨_, ps_set (i := 1) scLaw.nd rfl (.inr rfl) (pe_df (okStream T) T.D_stream (hr8.mono (by decide)) rfl (pa_cons (pv 0) pa_nil)), fun D q => ⟨_, rfl, a, ns, rfl, ha, fun H' st c s1 _ _ hS => q H' st c s1 hS⟩⟩
  have p := C8.pss_cut p0 (C8.pss_cut p1 p2)
  refine ⟨_, PSs.nox (X := cxOf CX0 P w K mg base nmLaw "law" (defScope sLaw) fa (.ref cA) callerA [] s H E0) p, ?_⟩
  refine ⟨fun σ' H' => ∃ st c, I0 (tabL PA) a st c 900000 σ' H', r0 _ fun H' st c s1 hS => ⟨st, c, none, none, none, none, none, none, none, none, none, none, none, none, rfl, hS, hT.ext s1⟩, ?_⟩
  rintro σ1 H1 ⟨st, c, h1⟩
  refine ⟨_, r1 ⟨a, st, c, 896000⟩ _ _ _ h1 fun _ _ z => z, ?_⟩
  rintro σ' H2 ⟨r2', r3, r4, r5, r6, r7, r8, r9, r10, r11, r12, r13, rfl, _⟩
  exact r2 _ _ _ ⟨a, st, r2', r3, r4, r5, r6, r7, r8, r9, r10, r11, r12, r13, rfl⟩ fun _ => rfl
end Qb
set_option Elab.async false
set_option linter.all false
set_option maxRecDepth 100000
set_option maxHeartbeats 4000000
/-! # The end: the law's call from without -/
namespace Qb
open PySem L2
open PySem.Spec hiding Row
open PyProof.Rows hiding St
open Qm
/-- what the law's call finds tracked: its table, its script where the top doesn't know it -/
def found (K : PySem.W.Frag) (tb sc : Addr) (ob : Obj) (xs : List V) : Hp := fun z => if z = tb then some (.tbl #[]) else if z = sc ∧ K.lookup sc = none then some (.frz ob (.lst xs)) else none
section
variable {K : PySem.W.Frag} {tb sc : Addr} {ob : Obj} {xs : List V}
theorem found_tb : found K tb sc ob xs tb = some (.tbl #[]) := if_pos rfl
theorem found_or {z : Addr} {u : HO} (h : found K tb sc ob xs z = some u) : (z = tb ∧ u = .tbl #[]) ∨ (z = sc ∧ K.lookup sc = none ∧ u = .frz ob (.lst xs)) := by
  unfold found at h
  by_cases e1 : z = tb
  · rw [if_pos e1] at h
    exact .inl ⟨e1, (Option.some.inj h).symm⟩
  · rw [if_neg e1] at h
    by_cases e2 : z = sc ∧ K.lookup sc = none
    · rw [if_pos e2] at h
      exact .inr ⟨e2.1, e2.2, (Option.some.inj h).symm⟩
    · rw [if_neg e2] at h
      cases h
end
theorem law_end {Pr : Program} {w : World} {K : PySem.W.Frag} {mg mb : Str → Option Value} {fa sc cd tb : Addr} {σ : Shared} {us : List Value} {ns : List Int} (kin : K.In σ.heap) (glob : σ.heap.Ns mainGlobals mg) (blt : σ.heap.Ns builtinsNs mb)
    (boot : ∀ y : Str, y ≠ "__name__" → mb y = bootBuiltins y) (nol : σ.heap.NoLimit) (gn : σ.gens = #[]) (tab : σ.heap.get? tb = some { cls := .none, data := .fields #[] }) (tabK : K.lookup tb = none) (code : PySem.W.CodeHd σ.heap cd tb)
    (bmod : ∃ (m : Addr) (om : Obj), mg "__builtins__" = some (.ref m) ∧ m ≠ builtinsNs ∧ σ.heap.get? m = some om ∧ om.cls = .type "module" ∧ om.dict = some builtinsNs ∧ om.data = .plain)
    (lst : σ.heap.get? sc = some { cls := .type "list", data := .seq us.toArray }) (areI : IntsAre us ns) (few : ns.length ≤ sizeLine)
    (go : ∀ (base : Heap) (H : Hp), LamX.TabB base mg cd tb → Env0 Pr w K mg base callerA [] σ H → H tb = some (.tbl #[]) → SqL K H sc (ns.map V.int) → codeAny (model Pr w) callerA (.call (.ref fa) ⟨[.ref sc], []⟩) (CR CX0 [] Pr w H σ (fun v _ => v = .bl true) E0) σ) :
    codeAny (model Pr w) callerA (.call (.ref fa) ⟨[.ref sc], []⟩) (fun z σ' => z = .ok (.ret (.bool true)) ∧ OldK σ.heap σ'.heap ∧ σ'.os = σ.os ∧ AllBare σ'.gens) σ := by
  have rel := vals_ints areI
  have cnt := areI.length
  have apart : sc ≠ tb := fun z => by
    rw [z, tab] at lst
    have d := congrArg Obj.data (Option.some.inj lst)
    cases d
  generalize hob : ({ cls := .type "list", data := .seq us.toArray } : Obj) = ob at lst
  -- an object that is neither the script nor the table is not tracked
  have out : ∀ {z : Addr} {o : Obj}, σ.heap.get? z = some o → o ≠ ob → o.data ≠ .fields #[] → found K tb sc ob (ns.map V.int) z = none := fun {z o} e n1 n2 => by
    cases q : found K tb sc ob (ns.map V.int) z with
    | none => rfl
    | some u =>
      rcases found_or q with ⟨rfl, _⟩ | ⟨rfl, _, _⟩
      · rw [tab] at e
        cases e
        exact (n2 rfl).elim
      · rw [lst] at e
        cases e
        exact (n1 rfl).elim
  have outD : ∀ {z : Addr} {o : Obj} {es : Array DictEntry} {n : Nat}, σ.heap.get? z = some o → o.data = .dict es n → found K tb sc ob (ns.map V.int) z = none := fun {z o es n} e d =>
    out e (fun q => by rw [q, ← hob] at d; cases d) fun q => by rw [q] at d; cases d
  have outM : ∀ {z : Addr} {o : Obj}, σ.heap.get? z = some o → o.cls = .type "module" → o.data = .plain → found K tb sc ob (ns.map V.int) z = none := fun {z o} e _ d =>
    out e (fun q => by rw [q, ← hob] at d; cases d) fun q => by rw [q] at d; cases d
  have names : ∀ {z : Addr} {m : Str → Option Value}, σ.heap.Ns z m → (hidT σ.heap (found K tb sc ob (ns.map V.int))).Ns z m := fun {z m} ⟨o, es, n, e, d, r⟩ => ⟨o, es, n, hidT_get e (outD e d), d, r⟩
  have kinB : K.In (hidT σ.heap (found K tb sc ob (ns.map V.int))) := fun z o e => by
    refine hidT_get (kin z o e) ?_
    cases q : found K tb sc ob (ns.map V.int) z with
    | none => rfl
    | some u =>
      rcases found_or q with ⟨rfl, _⟩ | ⟨rfl, n, _⟩
      · rw [tabK] at e; cases e
      · rw [n] at e; cases e
  have TB : LamX.TabB (hidT σ.heap (found K tb sc ob (ns.map V.int))) mg cd tb := by
    refine ⟨?_, ?_, fun z => ?_⟩
    · obtain ⟨o, fs, fl, tf, flg, tg, inf, tx, tt, e, q1, q2, q3, q4, q5, q6, q7, q8, ne⟩ := code
      refine ⟨o, fs, fl, tf, flg, tg, inf, tx, tt, hidT_get e (out e (fun z => ?_) fun z => ?_), q1, q2, q3, q4, q5, q6, q7, q8, ne⟩
      · rw [z, ← hob] at q2
        cases q2
      · rw [q2] at z
        cases z
        simp at q3
    · obtain ⟨m, om, k1, k2, k3, k4, k5, k6⟩ := bmod
      refine ⟨m, om, k1, k2, fun z => ?_, fun z => ?_, hidT_get k3 (outM k3 k4 k6), k4, k5, k6⟩
      · obtain ⟨o, es, n, e, d, _⟩ := glob
        rw [z, e] at k3
        cases k3
        rw [d] at k6
        cases k6
      · rw [z, tab] at k3
        cases k3
        cases k6
    · obtain ⟨o, es, n, e, d, _⟩ := glob
      rw [z, tab] at e
      cases e
      cases d
  have held : HOk Pr w (found K tb sc ob (ns.map V.int)) σ.heap := fun z u e => by
    rcases found_or e with ⟨rfl, rfl⟩ | ⟨rfl, _, rfl⟩
    · exact tab
    · exact ⟨lst, by rw [List.length_map]; exact few, us, _, rel, lst.trans (congrArg some hob.symm)⟩
  have here : SqL K (found K tb sc ob (ns.map V.int)) sc (ns.map V.int) := by
    cases q : K.lookup sc with
    | none => exact .inl (.inr ⟨ob, by unfold found; rw [if_neg apart, if_pos ⟨rfl, q⟩]⟩)
    | some o =>
      have e := kin sc o q
      rw [lst] at e
      cases e
      subst hob
      exact .inr ⟨_, us.toArray, _, q, rfl, rfl, rfl, by rw [List.size_toArray, cnt]; exact few, by simpa using rel⟩
  have env : Env0 Pr w K mg (hidT σ.heap (found K tb sc ob (ns.map V.int))) callerA [] σ (found K tb sc ob (ns.map V.int)) :=
    ⟨rfl, ⟨kinB, names glob, ⟨mb, names blt, boot⟩, let ⟨m, k1, k2⟩ := nol; ⟨m, names k1, k2⟩⟩, fun z o e => of_hidT e, Nat.le_of_eq (hidT_size _ _), trivial, fun z hz => (by cases hz), held, .of_eq gn⟩
  refine codeAny_mono (go _ _ TB env found_tb here) fun z σ' h => ?_
  cases z with
  | error e =>
    obtain ⟨⟩ := (show False from h)
  | ok fl =>
    cases fl with
    | next => exact h.elim
    | brk => exact h.elim
    | cont => exact h.elim
    | ret u =>
      obtain ⟨v, H', os, bare, un, held', ru, rfl⟩ := h
      obtain rfl : u = Value.bool true := ru
      have stays : ∀ z o, z ≠ tb → σ.heap.get? z = some o → σ'.heap.get? z = some o := fun z o nz e => by
        cases q : found K tb sc ob (ns.map V.int) z with
        | none => exact un.keep z o e q (fun z => by cases z) fun z => by cases z
        | some v =>
          rcases found_or q with ⟨y, _⟩ | ⟨_, _, rfl⟩
          · exact (nz y).elim
          · have h1 := (held z _ q).1
            rw [e] at h1
            cases h1
            exact (held' z _ (un.frzs z _ _ q)).1
      obtain ⟨more, hm⟩ := un.tbls tb #[] found_tb
      have grown : σ'.heap.get? tb = some { cls := .none, data := .fields more } := by
        have h1 := held' tb _ hm
        rw [Array.empty_append] at h1
        exact h1
      refine ⟨rfl, ⟨fun z o e => ?_, fun z o e => ?_⟩, os, bare⟩
      · by_cases y : z = tb
        · subst y
          rw [tab] at e
          cases e
          exact .inr (.inl ⟨(code.tab tab).isCodeTable, rfl, #[], more, rfl, by rw [Array.empty_append]; exact grown⟩)
        · exact .inl (stays z o y e)
      · by_cases y : z = tb
        · rw [y]
          exact ⟨_, grown⟩
        · exact ⟨o, stays z o y e⟩
end Qb
set_option Elab.async false
set_option linter.all false
set_option maxRecDepth 100000
set_option maxHeartbeats 8000000
/-! # What the head must show, put together -/
namespace Qb
open PySem L2
open PySem.Spec hiding Row
open PyProof.Rows hiding St
open Qm
theorem df_mk {K : PySem.W.Frag} {h : Heap} {mg : Str → Option Value} (X : K.In h) (G : h.Ns mainGlobals mg) {x : Str} {st : Stmt} {ps : List Str} {f : Addr} {oc kV dc pm cd ct : Value} {od an : Option Addr} {osl : Array (Option Value)}
    (a : PySem.W.nsIn K mainGlobals x = some (some (.ref f))) (l : K.lookup f = some ⟨oc, od, .func (PySem.W.fnOf x x (defArgs st) (defBody st) (defScope st) .none kV dc pm an cd ct), osl⟩) (c : PySem.W.codeIn K cd x = true) (k : PySem.W.keepIn K (.ref f) = true)
    (b : ∀ (kV doc pm : Value) (an : Option Addr) (cdv ct : Value) (us : List Value), us.length = ps.length → bindArgs (PySem.W.fnOf x x (defArgs st) (defBody st) (defScope st) .none kV doc pm an cdv ct) ⟨us, []⟩ = pure (ps.zip us)) :
    Df K mg x st ps f (PySem.W.fnOf x x (defArgs st) (defBody st) (defScope st) .none kV dc pm an cd ct) :=
  have F := fun_mk (st := st) l c k
  ⟨F, PySem.W.mg_of X G a, F.binds b⟩
/-- the law's code object, its table -/
theorem hd_mk {K : PySem.W.Frag} {c t : Addr} {o : Obj} (hc : K.lookup c = some o) (hv : PySem.W.codeHdIn [(c, o)] c t = true) : PySem.W.codeHdIn K c t = true := by
  have e : List.lookup c [(c, o)] = some o := by simp
  unfold PySem.W.codeHdIn at hv ⊢
  rw [hc]
  rw [e] at hv
  exact hv
theorem txt_mk {K : PySem.W.Frag} {h : Heap} {mg : Str → Option Value} (X : K.In h) (G : h.Ns mainGlobals mg)
    {f_isList : Addr} {oc_isList kV_isList dc_isList pm_isList cd_isList ct_isList : Value} {od_isList an_isList : Option Addr} {sl_isList : Array (Option Value)}
    {f_isWhole : Addr} {oc_isWhole kV_isWhole dc_isWhole pm_isWhole cd_isWhole ct_isWhole : Value} {od_isWhole an_isWhole : Option Addr} {sl_isWhole : Array (Option Value)}
    {f_isPos : Addr} {oc_isPos kV_isPos dc_isPos pm_isPos cd_isPos ct_isPos : Value} {od_isPos an_isPos : Option Addr} {sl_isPos : Array (Option Value)}
    {f_below : Addr} {oc_below kV_below dc_below pm_below cd_below ct_below : Value} {od_below an_below : Option Addr} {sl_below : Array (Option Value)}
    {f_isPair : Addr} {oc_isPair kV_isPair dc_isPair pm_isPair cd_isPair ct_isPair : Value} {od_isPair an_isPair : Option Addr} {sl_isPair : Array (Option Value)}
    {f_isRow : Addr} {oc_isRow kV_isRow dc_isRow pm_isRow cd_isRow ct_isRow : Value} {od_isRow an_isRow : Option Addr} {sl_isRow : Array (Option Value)}
    {f_badRow : Addr} {oc_badRow kV_badRow dc_badRow pm_badRow cd_badRow ct_badRow : Value} {od_badRow an_badRow : Option Addr} {sl_badRow : Array (Option Value)}
    {f_roadOf : Addr} {oc_roadOf kV_roadOf dc_roadOf pm_roadOf cd_roadOf ct_roadOf : Value} {od_roadOf an_roadOf : Option Addr} {sl_roadOf : Array (Option Value)}
    {f_joined : Addr} {oc_joined kV_joined dc_joined pm_joined cd_joined ct_joined : Value} {od_joined an_joined : Option Addr} {sl_joined : Array (Option Value)}
    {f_roomTo : Addr} {oc_roomTo kV_roomTo dc_roomTo pm_roomTo cd_roomTo ct_roomTo : Value} {od_roomTo an_roomTo : Option Addr} {sl_roomTo : Array (Option Value)}
    {f_restIn : Addr} {oc_restIn kV_restIn dc_restIn pm_restIn cd_restIn ct_restIn : Value} {od_restIn an_restIn : Option Addr} {sl_restIn : Array (Option Value)}
    {f_apart : Addr} {oc_apart kV_apart dc_apart pm_apart cd_apart ct_apart : Value} {od_apart an_apart : Option Addr} {sl_apart : Array (Option Value)}
    {f_choices : Addr} {oc_choices kV_choices dc_choices pm_choices cd_choices ct_choices : Value} {od_choices an_choices : Option Addr} {sl_choices : Array (Option Value)}
    {f_fewest : Addr} {oc_fewest kV_fewest dc_fewest pm_fewest cd_fewest ct_fewest : Value} {od_fewest an_fewest : Option Addr} {sl_fewest : Array (Option Value)}
    {f_stream : Addr} {oc_stream kV_stream dc_stream pm_stream cd_stream ct_stream : Value} {od_stream an_stream : Option Addr} {sl_stream : Array (Option Value)}
    {f_draw : Addr} {oc_draw kV_draw dc_draw pm_draw cd_draw ct_draw : Value} {od_draw an_draw : Option Addr} {sl_draw : Array (Option Value)}
    {f_mixed : Addr} {oc_mixed kV_mixed dc_mixed pm_mixed cd_mixed ct_mixed : Value} {od_mixed an_mixed : Option Addr} {sl_mixed : Array (Option Value)}
    {f_same : Addr} {oc_same kV_same dc_same pm_same cd_same ct_same : Value} {od_same an_same : Option Addr} {sl_same : Array (Option Value)}
    {f_loose : Addr} {oc_loose kV_loose dc_loose pm_loose cd_loose ct_loose : Value} {od_loose an_loose : Option Addr} {sl_loose : Array (Option Value)}
    {f_lbelow : Addr} {oc_lbelow kV_lbelow dc_lbelow pm_lbelow cd_lbelow ct_lbelow : Value} {od_lbelow an_lbelow : Option Addr} {sl_lbelow : Array (Option Value)}
    {f_llanes : Addr} {oc_llanes kV_llanes dc_llanes pm_llanes cd_llanes ct_llanes : Value} {od_llanes an_llanes : Option Addr} {sl_llanes : Array (Option Value)}
    {f_lroom : Addr} {oc_lroom kV_lroom dc_lroom pm_lroom cd_lroom ct_lroom : Value} {od_lroom an_lroom : Option Addr} {sl_lroom : Array (Option Value)}
    {f_other : Addr} {oc_other kV_other dc_other pm_other cd_other ct_other : Value} {od_other an_other : Option Addr} {sl_other : Array (Option Value)}
    {f_lrest : Addr} {oc_lrest kV_lrest dc_lrest pm_lrest cd_lrest ct_lrest : Value} {od_lrest an_lrest : Option Addr} {sl_lrest : Array (Option Value)}
    {f_small : Addr} {oc_small kV_small dc_small pm_small cd_small ct_small : Value} {od_small an_small : Option Addr} {sl_small : Array (Option Value)}
    {f_lists : Addr} {oc_lists kV_lists dc_lists pm_lists cd_lists ct_lists : Value} {od_lists an_lists : Option Addr} {sl_lists : Array (Option Value)}
    {f_tell : Addr} {oc_tell kV_tell dc_tell pm_tell cd_tell ct_tell : Value} {od_tell an_tell : Option Addr} {sl_tell : Array (Option Value)}
    {f_due : Addr} {oc_due kV_due dc_due pm_due cd_due ct_due : Value} {od_due an_due : Option Addr} {sl_due : Array (Option Value)}
    {f_tried : Addr} {oc_tried kV_tried dc_tried pm_tried cd_tried ct_tried : Value} {od_tried an_tried : Option Addr} {sl_tried : Array (Option Value)}
    (a_isList : PySem.W.nsIn K mainGlobals "is_list" = some (some (.ref f_isList)))
    (l_isList : K.lookup f_isList = some ⟨oc_isList, od_isList, .func (PySem.W.fnOf "is_list" "is_list" (defArgs sIsList) (defBody sIsList) (defScope sIsList) .none kV_isList dc_isList pm_isList an_isList cd_isList ct_isList), sl_isList⟩)
    (c_isList : PySem.W.codeIn K cd_isList "is_list" = true)
    (k_isList : PySem.W.keepIn K (.ref f_isList) = true)
    (a_isWhole : PySem.W.nsIn K mainGlobals "is_whole" = some (some (.ref f_isWhole)))
    (l_isWhole : K.lookup f_isWhole = some ⟨oc_isWhole, od_isWhole, .func (PySem.W.fnOf "is_whole" "is_whole" (defArgs sIsWhole) (defBody sIsWhole) (defScope sIsWhole) .none kV_isWhole dc_isWhole pm_isWhole an_isWhole cd_isWhole ct_isWhole), sl_isWhole⟩)
    (c_isWhole : PySem.W.codeIn K cd_isWhole "is_whole" = true)
    (k_isWhole : PySem.W.keepIn K (.ref f_isWhole) = true)
    (a_isPos : PySem.W.nsIn K mainGlobals "is_positive" = some (some (.ref f_isPos)))
    (l_isPos : K.lookup f_isPos = some ⟨oc_isPos, od_isPos, .func (PySem.W.fnOf "is_positive" "is_positive" (defArgs sIsPos) (defBody sIsPos) (defScope sIsPos) .none kV_isPos dc_isPos pm_isPos an_isPos cd_isPos ct_isPos), sl_isPos⟩)
    (c_isPos : PySem.W.codeIn K cd_isPos "is_positive" = true)
    (k_isPos : PySem.W.keepIn K (.ref f_isPos) = true)
    (a_below : PySem.W.nsIn K mainGlobals "is_below" = some (some (.ref f_below)))
    (l_below : K.lookup f_below = some ⟨oc_below, od_below, .func (PySem.W.fnOf "is_below" "is_below" (defArgs sBelow) (defBody sBelow) (defScope sBelow) .none kV_below dc_below pm_below an_below cd_below ct_below), sl_below⟩)
    (c_below : PySem.W.codeIn K cd_below "is_below" = true)
    (k_below : PySem.W.keepIn K (.ref f_below) = true)
    (a_isPair : PySem.W.nsIn K mainGlobals "is_pair_of" = some (some (.ref f_isPair)))
    (l_isPair : K.lookup f_isPair = some ⟨oc_isPair, od_isPair, .func (PySem.W.fnOf "is_pair_of" "is_pair_of" (defArgs sPair) (defBody sPair) (defScope sPair) .none kV_isPair dc_isPair pm_isPair an_isPair cd_isPair ct_isPair), sl_isPair⟩)
    (c_isPair : PySem.W.codeIn K cd_isPair "is_pair_of" = true)
    (k_isPair : PySem.W.keepIn K (.ref f_isPair) = true)
    (a_isRow : PySem.W.nsIn K mainGlobals "is_row" = some (some (.ref f_isRow)))
    (l_isRow : K.lookup f_isRow = some ⟨oc_isRow, od_isRow, .func (PySem.W.fnOf "is_row" "is_row" (defArgs sIsRow) (defBody sIsRow) (defScope sIsRow) .none kV_isRow dc_isRow pm_isRow an_isRow cd_isRow ct_isRow), sl_isRow⟩)
    (c_isRow : PySem.W.codeIn K cd_isRow "is_row" = true)
    (k_isRow : PySem.W.keepIn K (.ref f_isRow) = true)
    (a_badRow : PySem.W.nsIn K mainGlobals "bad_row" = some (some (.ref f_badRow)))
    (l_badRow : K.lookup f_badRow = some ⟨oc_badRow, od_badRow, .func (PySem.W.fnOf "bad_row" "bad_row" (defArgs sBadRow) (defBody sBadRow) (defScope sBadRow) .none kV_badRow dc_badRow pm_badRow an_badRow cd_badRow ct_badRow), sl_badRow⟩)
    (c_badRow : PySem.W.codeIn K cd_badRow "bad_row" = true)
    (k_badRow : PySem.W.keepIn K (.ref f_badRow) = true)
    (a_roadOf : PySem.W.nsIn K mainGlobals "road_of" = some (some (.ref f_roadOf)))
    (l_roadOf : K.lookup f_roadOf = some ⟨oc_roadOf, od_roadOf, .func (PySem.W.fnOf "road_of" "road_of" (defArgs sRoadOf) (defBody sRoadOf) (defScope sRoadOf) .none kV_roadOf dc_roadOf pm_roadOf an_roadOf cd_roadOf ct_roadOf), sl_roadOf⟩)
    (c_roadOf : PySem.W.codeIn K cd_roadOf "road_of" = true)
    (k_roadOf : PySem.W.keepIn K (.ref f_roadOf) = true)
    (a_joined : PySem.W.nsIn K mainGlobals "joined_lanes" = some (some (.ref f_joined)))
    (l_joined : K.lookup f_joined = some ⟨oc_joined, od_joined, .func (PySem.W.fnOf "joined_lanes" "joined_lanes" (defArgs sJoined) (defBody sJoined) (defScope sJoined) .none kV_joined dc_joined pm_joined an_joined cd_joined ct_joined), sl_joined⟩)
    (c_joined : PySem.W.codeIn K cd_joined "joined_lanes" = true)
    (k_joined : PySem.W.keepIn K (.ref f_joined) = true)
    (a_roomTo : PySem.W.nsIn K mainGlobals "room_to" = some (some (.ref f_roomTo)))
    (l_roomTo : K.lookup f_roomTo = some ⟨oc_roomTo, od_roomTo, .func (PySem.W.fnOf "room_to" "room_to" (defArgs sRoomTo) (defBody sRoomTo) (defScope sRoomTo) .none kV_roomTo dc_roomTo pm_roomTo an_roomTo cd_roomTo ct_roomTo), sl_roomTo⟩)
    (c_roomTo : PySem.W.codeIn K cd_roomTo "room_to" = true)
    (k_roomTo : PySem.W.keepIn K (.ref f_roomTo) = true)
    (a_restIn : PySem.W.nsIn K mainGlobals "rest_in" = some (some (.ref f_restIn)))
    (l_restIn : K.lookup f_restIn = some ⟨oc_restIn, od_restIn, .func (PySem.W.fnOf "rest_in" "rest_in" (defArgs sRestIn) (defBody sRestIn) (defScope sRestIn) .none kV_restIn dc_restIn pm_restIn an_restIn cd_restIn ct_restIn), sl_restIn⟩)
    (c_restIn : PySem.W.codeIn K cd_restIn "rest_in" = true)
    (k_restIn : PySem.W.keepIn K (.ref f_restIn) = true)
    (a_apart : PySem.W.nsIn K mainGlobals "are_told_apart" = some (some (.ref f_apart)))
    (l_apart : K.lookup f_apart = some ⟨oc_apart, od_apart, .func (PySem.W.fnOf "are_told_apart" "are_told_apart" (defArgs sApart) (defBody sApart) (defScope sApart) .none kV_apart dc_apart pm_apart an_apart cd_apart ct_apart), sl_apart⟩)
    (c_apart : PySem.W.codeIn K cd_apart "are_told_apart" = true)
    (k_apart : PySem.W.keepIn K (.ref f_apart) = true)
    (a_choices : PySem.W.nsIn K mainGlobals "choices_of" = some (some (.ref f_choices)))
    (l_choices : K.lookup f_choices = some ⟨oc_choices, od_choices, .func (PySem.W.fnOf "choices_of" "choices_of" (defArgs sChoices) (defBody sChoices) (defScope sChoices) .none kV_choices dc_choices pm_choices an_choices cd_choices ct_choices), sl_choices⟩)
    (c_choices : PySem.W.codeIn K cd_choices "choices_of" = true)
    (k_choices : PySem.W.keepIn K (.ref f_choices) = true)
    (a_fewest : PySem.W.nsIn K mainGlobals "fewest_rates" = some (some (.ref f_fewest)))
    (l_fewest : K.lookup f_fewest = some ⟨oc_fewest, od_fewest, .func (PySem.W.fnOf "fewest_rates" "fewest_rates" (defArgs sFewest) (defBody sFewest) (defScope sFewest) .none kV_fewest dc_fewest pm_fewest an_fewest cd_fewest ct_fewest), sl_fewest⟩)
    (c_fewest : PySem.W.codeIn K cd_fewest "fewest_rates" = true)
    (k_fewest : PySem.W.keepIn K (.ref f_fewest) = true)
    (a_stream : PySem.W.nsIn K mainGlobals "_law_stream" = some (some (.ref f_stream)))
    (l_stream : K.lookup f_stream = some ⟨oc_stream, od_stream, .func (PySem.W.fnOf "_law_stream" "_law_stream" (defArgs sStream) (defBody sStream) (defScope sStream) .none kV_stream dc_stream pm_stream an_stream cd_stream ct_stream), sl_stream⟩)
    (c_stream : PySem.W.codeIn K cd_stream "_law_stream" = true)
    (k_stream : PySem.W.keepIn K (.ref f_stream) = true)
    (a_draw : PySem.W.nsIn K mainGlobals "_law_draw" = some (some (.ref f_draw)))
    (l_draw : K.lookup f_draw = some ⟨oc_draw, od_draw, .func (PySem.W.fnOf "_law_draw" "_law_draw" (defArgs sDraw) (defBody sDraw) (defScope sDraw) .none kV_draw dc_draw pm_draw an_draw cd_draw ct_draw), sl_draw⟩)
    (c_draw : PySem.W.codeIn K cd_draw "_law_draw" = true)
    (k_draw : PySem.W.keepIn K (.ref f_draw) = true)
    (a_mixed : PySem.W.nsIn K mainGlobals "_law_mixed" = some (some (.ref f_mixed)))
    (l_mixed : K.lookup f_mixed = some ⟨oc_mixed, od_mixed, .func (PySem.W.fnOf "_law_mixed" "_law_mixed" (defArgs sMixed) (defBody sMixed) (defScope sMixed) .none kV_mixed dc_mixed pm_mixed an_mixed cd_mixed ct_mixed), sl_mixed⟩)
    (c_mixed : PySem.W.codeIn K cd_mixed "_law_mixed" = true)
    (k_mixed : PySem.W.keepIn K (.ref f_mixed) = true)
    (a_same : PySem.W.nsIn K mainGlobals "_law_same" = some (some (.ref f_same)))
    (l_same : K.lookup f_same = some ⟨oc_same, od_same, .func (PySem.W.fnOf "_law_same" "_law_same" (defArgs sSame) (defBody sSame) (defScope sSame) .none kV_same dc_same pm_same an_same cd_same ct_same), sl_same⟩)
    (c_same : PySem.W.codeIn K cd_same "_law_same" = true)
    (k_same : PySem.W.keepIn K (.ref f_same) = true)
    (a_loose : PySem.W.nsIn K mainGlobals "_law_loose" = some (some (.ref f_loose)))
    (l_loose : K.lookup f_loose = some ⟨oc_loose, od_loose, .func (PySem.W.fnOf "_law_loose" "_law_loose" (defArgs sLoose) (defBody sLoose) (defScope sLoose) .none kV_loose dc_loose pm_loose an_loose cd_loose ct_loose), sl_loose⟩)
    (c_loose : PySem.W.codeIn K cd_loose "_law_loose" = true)
    (k_loose : PySem.W.keepIn K (.ref f_loose) = true)
    (a_lbelow : PySem.W.nsIn K mainGlobals "_law_is_below" = some (some (.ref f_lbelow)))
    (l_lbelow : K.lookup f_lbelow = some ⟨oc_lbelow, od_lbelow, .func (PySem.W.fnOf "_law_is_below" "_law_is_below" (defArgs sLBelow) (defBody sLBelow) (defScope sLBelow) .none kV_lbelow dc_lbelow pm_lbelow an_lbelow cd_lbelow ct_lbelow), sl_lbelow⟩)
    (c_lbelow : PySem.W.codeIn K cd_lbelow "_law_is_below" = true)
    (k_lbelow : PySem.W.keepIn K (.ref f_lbelow) = true)
    (a_llanes : PySem.W.nsIn K mainGlobals "_law_lanes" = some (some (.ref f_llanes)))
    (l_llanes : K.lookup f_llanes = some ⟨oc_llanes, od_llanes, .func (PySem.W.fnOf "_law_lanes" "_law_lanes" (defArgs sLLanes) (defBody sLLanes) (defScope sLLanes) .none kV_llanes dc_llanes pm_llanes an_llanes cd_llanes ct_llanes), sl_llanes⟩)
    (c_llanes : PySem.W.codeIn K cd_llanes "_law_lanes" = true)
    (k_llanes : PySem.W.keepIn K (.ref f_llanes) = true)
    (a_lroom : PySem.W.nsIn K mainGlobals "_law_room" = some (some (.ref f_lroom)))
    (l_lroom : K.lookup f_lroom = some ⟨oc_lroom, od_lroom, .func (PySem.W.fnOf "_law_room" "_law_room" (defArgs sLRoom) (defBody sLRoom) (defScope sLRoom) .none kV_lroom dc_lroom pm_lroom an_lroom cd_lroom ct_lroom), sl_lroom⟩)
    (c_lroom : PySem.W.codeIn K cd_lroom "_law_room" = true)
    (k_lroom : PySem.W.keepIn K (.ref f_lroom) = true)
    (a_other : PySem.W.nsIn K mainGlobals "_law_other_form" = some (some (.ref f_other)))
    (l_other : K.lookup f_other = some ⟨oc_other, od_other, .func (PySem.W.fnOf "_law_other_form" "_law_other_form" (defArgs sOther) (defBody sOther) (defScope sOther) .none kV_other dc_other pm_other an_other cd_other ct_other), sl_other⟩)
    (c_other : PySem.W.codeIn K cd_other "_law_other_form" = true)
    (k_other : PySem.W.keepIn K (.ref f_other) = true)
    (a_lrest : PySem.W.nsIn K mainGlobals "_law_rest_in" = some (some (.ref f_lrest)))
    (l_lrest : K.lookup f_lrest = some ⟨oc_lrest, od_lrest, .func (PySem.W.fnOf "_law_rest_in" "_law_rest_in" (defArgs sLRest) (defBody sLRest) (defScope sLRest) .none kV_lrest dc_lrest pm_lrest an_lrest cd_lrest ct_lrest), sl_lrest⟩)
    (c_lrest : PySem.W.codeIn K cd_lrest "_law_rest_in" = true)
    (k_lrest : PySem.W.keepIn K (.ref f_lrest) = true)
    (a_small : PySem.W.nsIn K mainGlobals "_law_small_bundle" = some (some (.ref f_small)))
    (l_small : K.lookup f_small = some ⟨oc_small, od_small, .func (PySem.W.fnOf "_law_small_bundle" "_law_small_bundle" (defArgs sSmall) (defBody sSmall) (defScope sSmall) .none kV_small dc_small pm_small an_small cd_small ct_small), sl_small⟩)
    (c_small : PySem.W.codeIn K cd_small "_law_small_bundle" = true)
    (k_small : PySem.W.keepIn K (.ref f_small) = true)
    (a_lists : PySem.W.nsIn K mainGlobals "_law_lists" = some (some (.ref f_lists)))
    (l_lists : K.lookup f_lists = some ⟨oc_lists, od_lists, .func (PySem.W.fnOf "_law_lists" "_law_lists" (defArgs sLists) (defBody sLists) (defScope sLists) .none kV_lists dc_lists pm_lists an_lists cd_lists ct_lists), sl_lists⟩)
    (c_lists : PySem.W.codeIn K cd_lists "_law_lists" = true)
    (k_lists : PySem.W.keepIn K (.ref f_lists) = true)
    (a_tell : PySem.W.nsIn K mainGlobals "_law_tell_apart" = some (some (.ref f_tell)))
    (l_tell : K.lookup f_tell = some ⟨oc_tell, od_tell, .func (PySem.W.fnOf "_law_tell_apart" "_law_tell_apart" (defArgs sTell) (defBody sTell) (defScope sTell) .none kV_tell dc_tell pm_tell an_tell cd_tell ct_tell), sl_tell⟩)
    (c_tell : PySem.W.codeIn K cd_tell "_law_tell_apart" = true)
    (k_tell : PySem.W.keepIn K (.ref f_tell) = true)
    (a_due : PySem.W.nsIn K mainGlobals "_law_due" = some (some (.ref f_due)))
    (l_due : K.lookup f_due = some ⟨oc_due, od_due, .func (PySem.W.fnOf "_law_due" "_law_due" (defArgs sDue) (defBody sDue) (defScope sDue) .none kV_due dc_due pm_due an_due cd_due ct_due), sl_due⟩)
    (c_due : PySem.W.codeIn K cd_due "_law_due" = true)
    (k_due : PySem.W.keepIn K (.ref f_due) = true)
    (a_tried : PySem.W.nsIn K mainGlobals "_law_tried" = some (some (.ref f_tried)))
    (l_tried : K.lookup f_tried = some ⟨oc_tried, od_tried, .func (PySem.W.fnOf "_law_tried" "_law_tried" (defArgs sTried) (defBody sTried) (defScope sTried) .none kV_tried dc_tried pm_tried an_tried cd_tried ct_tried), sl_tried⟩)
    (c_tried : PySem.W.codeIn K cd_tried "_law_tried" = true)
    (k_tried : PySem.W.keepIn K (.ref f_tried) = true)
    (z_isinstance : PySem.W.nsIn K mainGlobals "isinstance" = some none)
    (z_list : PySem.W.nsIn K mainGlobals "list" = some none)
    (z_tuple : PySem.W.nsIn K mainGlobals "tuple" = some none)
    (z_int : PySem.W.nsIn K mainGlobals "int" = some none)
    (z_bool : PySem.W.nsIn K mainGlobals "bool" = some none)
    (z_len : PySem.W.nsIn K mainGlobals "len" = some none)
    (z_all : PySem.W.nsIn K mainGlobals "all" = some none)
    (z_sum : PySem.W.nsIn K mainGlobals "sum" = some none)
    (z_min : PySem.W.nsIn K mainGlobals "min" = some none)
    (z_max : PySem.W.nsIn K mainGlobals "max" = some none)
    (z_sorted : PySem.W.nsIn K mainGlobals "sorted" = some none)
    (z_range : PySem.W.nsIn K mainGlobals "range" = some none)
    (z_enumerate : PySem.W.nsIn K mainGlobals "enumerate" = some none)
    (z_set : PySem.W.nsIn K mainGlobals "set" = some none)
    (z_zip : PySem.W.nsIn K mainGlobals "zip" = some none)
    (z_abs : PySem.W.nsIn K mainGlobals "abs" = some none)
    (z_dict : PySem.W.nsIn K mainGlobals "dict" = some none)
    (z_repr : PySem.W.nsIn K mainGlobals "repr" = some none)
    : Nonempty (Txt K mg) := ⟨{
  f_isList := f_isList
  d_isList := _
  D_isList := df_mk X G a_isList l_isList c_isList k_isList fun _ _ _ _ _ _ us hl => match us, hl with | [_], _ => rfl
  f_isWhole := f_isWhole
  d_isWhole := _
  D_isWhole := df_mk X G a_isWhole l_isWhole c_isWhole k_isWhole fun _ _ _ _ _ _ us hl => match us, hl with | [_], _ => rfl
  f_isPos := f_isPos
  d_isPos := _
  D_isPos := df_mk X G a_isPos l_isPos c_isPos k_isPos fun _ _ _ _ _ _ us hl => match us, hl with | [_], _ => rfl
  f_below := f_below
  d_below := _
  D_below := df_mk X G a_below l_below c_below k_below fun _ _ _ _ _ _ us hl => match us, hl with | [_, _], _ => rfl
  f_isPair := f_isPair
  d_isPair := _
  D_isPair := df_mk X G a_isPair l_isPair c_isPair k_isPair fun _ _ _ _ _ _ us hl => match us, hl with | [_], _ => rfl
  f_isRow := f_isRow
  d_isRow := _
  D_isRow := df_mk X G a_isRow l_isRow c_isRow k_isRow fun _ _ _ _ _ _ us hl => match us, hl with | [_], _ => rfl
  f_badRow := f_badRow
  d_badRow := _
  D_badRow := df_mk X G a_badRow l_badRow c_badRow k_badRow fun _ _ _ _ _ _ us hl => match us, hl with | [_], _ => rfl
  f_roadOf := f_roadOf
  d_roadOf := _
  D_roadOf := df_mk X G a_roadOf l_roadOf c_roadOf k_roadOf fun _ _ _ _ _ _ us hl => match us, hl with | [_], _ => rfl
  f_joined := f_joined
  d_joined := _
  D_joined := df_mk X G a_joined l_joined c_joined k_joined fun _ _ _ _ _ _ us hl => match us, hl with | [_], _ => rfl
  f_roomTo := f_roomTo
  d_roomTo := _
  D_roomTo := df_mk X G a_roomTo l_roomTo c_roomTo k_roomTo fun _ _ _ _ _ _ us hl => match us, hl with | [_, _], _ => rfl
  f_restIn := f_restIn
  d_restIn := _
  D_restIn := df_mk X G a_restIn l_restIn c_restIn k_restIn fun _ _ _ _ _ _ us hl => match us, hl with | [_, _], _ => rfl
  f_apart := f_apart
  d_apart := _
  D_apart := df_mk X G a_apart l_apart c_apart k_apart fun _ _ _ _ _ _ us hl => match us, hl with | [_, _], _ => rfl
  f_choices := f_choices
  d_choices := _
  D_choices := df_mk X G a_choices l_choices c_choices k_choices fun _ _ _ _ _ _ us hl => match us, hl with | [_, _], _ => rfl
  f_fewest := f_fewest
  d_fewest := _
  D_fewest := df_mk X G a_fewest l_fewest c_fewest k_fewest fun _ _ _ _ _ _ us hl => match us, hl with | [_], _ => rfl
  f_stream := f_stream
  d_stream := _
  D_stream := df_mk X G a_stream l_stream c_stream k_stream fun _ _ _ _ _ _ us hl => match us, hl with | [_], _ => rfl
  f_draw := f_draw
  d_draw := _
  D_draw := df_mk X G a_draw l_draw c_draw k_draw fun _ _ _ _ _ _ us hl => match us, hl with | [_, _], _ => rfl
  f_mixed := f_mixed
  d_mixed := _
  D_mixed := df_mk X G a_mixed l_mixed c_mixed k_mixed fun _ _ _ _ _ _ us hl => match us, hl with | [_, _], _ => rfl
  f_same := f_same
  d_same := _
  D_same := df_mk X G a_same l_same c_same k_same fun _ _ _ _ _ _ us hl => match us, hl with | [_, _], _ => rfl
  f_loose := f_loose
  d_loose := _
  D_loose := df_mk X G a_loose l_loose c_loose k_loose fun _ _ _ _ _ _ us hl => match us, hl with | [_, _], _ => rfl
  f_lbelow := f_lbelow
  d_lbelow := _
  D_lbelow := df_mk X G a_lbelow l_lbelow c_lbelow k_lbelow fun _ _ _ _ _ _ us hl => match us, hl with | [_, _], _ => rfl
  f_llanes := f_llanes
  d_llanes := _
  D_llanes := df_mk X G a_llanes l_llanes c_llanes k_llanes fun _ _ _ _ _ _ us hl => match us, hl with | [_], _ => rfl
  f_lroom := f_lroom
  d_lroom := _
  D_lroom := df_mk X G a_lroom l_lroom c_lroom k_lroom fun _ _ _ _ _ _ us hl => match us, hl with | [_, _], _ => rfl
  f_other := f_other
  d_other := _
  D_other := df_mk X G a_other l_other c_other k_other fun _ _ _ _ _ _ us hl => match us, hl with | [_, _], _ => rfl
  f_lrest := f_lrest
  d_lrest := _
  D_lrest := df_mk X G a_lrest l_lrest c_lrest k_lrest fun _ _ _ _ _ _ us hl => match us, hl with | [_, _], _ => rfl
  f_small := f_small
  d_small := _
  D_small := df_mk X G a_small l_small c_small k_small fun _ _ _ _ _ _ us hl => match us, hl with | [_, _], _ => rfl
  f_lists := f_lists
  d_lists := _
  D_lists := df_mk X G a_lists l_lists c_lists k_lists fun _ _ _ _ _ _ us hl => match us, hl with | [_, _], _ => rfl
  f_tell := f_tell
  d_tell := _
  D_tell := df_mk X G a_tell l_tell c_tell k_tell fun _ _ _ _ _ _ us hl => match us, hl with | [_, _], _ => rfl
  f_due := f_due
  d_due := _
  D_due := df_mk X G a_due l_due c_due k_due fun _ _ _ _ _ _ us hl => match us, hl with | [_], _ => rfl
  f_tried := f_tried
  d_tried := _
  D_tried := df_mk X G a_tried l_tried c_tried k_tried fun _ _ _ _ _ _ us hl => match us, hl with | [_], _ => rfl
  z_isinstance := PySem.W.mg_none_of X G z_isinstance
  z_list := PySem.W.mg_none_of X G z_list
  z_tuple := PySem.W.mg_none_of X G z_tuple
  z_int := PySem.W.mg_none_of X G z_int
  z_bool := PySem.W.mg_none_of X G z_bool
  z_len := PySem.W.mg_none_of X G z_len
  z_all := PySem.W.mg_none_of X G z_all
  z_sum := PySem.W.mg_none_of X G z_sum
  z_min := PySem.W.mg_none_of X G z_min
  z_max := PySem.W.mg_none_of X G z_max
  z_sorted := PySem.W.mg_none_of X G z_sorted
  z_range := PySem.W.mg_none_of X G z_range
  z_enumerate := PySem.W.mg_none_of X G z_enumerate
  z_set := PySem.W.mg_none_of X G z_set
  z_zip := PySem.W.mg_none_of X G z_zip
  z_abs := PySem.W.mg_none_of X G z_abs
  z_dict := PySem.W.mg_none_of X G z_dict
  z_repr := PySem.W.mg_none_of X G z_repr
}⟩
theorem err_mk {K : PySem.W.Frag} {h : Heap} {mg : Str → Option Value} (X : K.In h) (G : h.Ns mainGlobals mg) {C fI N : Addr} {nm q : Str} {bs bm sub : List Value} {sn : List Str} {ab : Bool} {col : Option Bool} {dd : Option Addr} {k0 k1 k2 k3 k5 : Option Value} {oc kV dc pm cd ct : Value} {od an : Option Addr} {osl : Array (Option Value)}
    (aC : PySem.W.nsIn K mainGlobals "BadBundles" = some (some (.ref C)))
    (xL : K.lookup C = some (excClassObj nm q C N bs bm true sn sub ab col dd k0 k1 k2 k3 k5 "ValueError.__new__"))
    (rv : PySem.HandSPX.refsVE bm = true)
    (sa : PySem.W.findIn K (.ref C) "__setattr__" = some (some (.builtin "object.__setattr__")))
    (ga : PySem.W.findIn K (.ref C) "__getattribute__" = some (some (.builtin "BaseException.__getattribute__")))
    (gg : PySem.W.findIn K (.ref C) "__getattr__" = some none)
    (nb : PySem.W.findIn K (.ref C) "index" = some none)
    (iI : PySem.W.findIn K (.ref C) "__init__" = some (some (.ref fI)))
    (tI : PySem.W.typeIn K (.ref fI) = some (.type "function"))
    (lI : K.lookup fI = some ⟨oc, od, .func (PySem.W.fnOf "__init__" "BadBundles.__init__" (defArgs sInit) (defBody sInit) (defScope sInit) .none kV dc pm an cd ct), osl⟩)
    (cI : PySem.W.codeIn K cd "BadBundles.__init__" = true)
    (kI : PySem.W.keepIn K (.ref fI) = true)
    (kC : PySem.W.keepIn K (.ref C) = true)
    (eC : PySem.W.subIn K (.ref C) (.type "BaseException") = some true)
    (tC : PySem.W.typeIn K (.ref C) = some (.type "type"))
    (hC : PySem.W.hasDictIn K C = true)
    (sC : PySem.W.subIn K (.ref C) (.ref C) = some true) : Nonempty (Err K mg) :=
  have F := fun_mk (st := sInit) (qual := "BadBundles.__init__") lI cI kI
  ⟨{ C := C, fI := fI, dI := _, oex := ⟨⟨nm, q, N, bs, bm, sn, sub, ab, col, dd, k0, k1, k2, k3, k5, xL, rv⟩, sa, eC, tC, kC⟩, xf := ⟨ga, gg, eC, hC⟩, iC := iI, tI := tI, gC := PySem.W.mg_of X G aC, F := F,
     bI := F.binds (ps := ["self", "index"]) fun _ _ _ _ _ _ us hl => match us, hl with | [_, _], _ => rfl, no := nb, te := PySem.W.exm_ref eC hC tC sC }⟩
/-- what is wanted of the law's def -/
def LawFits (P : Program) (w : World) (K : PySem.W.Frag) (mg : Str → Option Value) (fa : Addr) (h : Heap) : Prop := ∃ cd tb : Addr, h.get? tb = some { cls := .none, data := .fields #[] } ∧ K.lookup tb = none ∧ PySem.W.CodeHd h cd tb ∧
  ∀ (base : Heap) (H : Hp) (s : Shared) (a : Addr) (ns : List Int), LamX.TabB base mg cd tb → Env0 P w K mg base callerA [] s H → H tb = some (.tbl #[]) → SqL K H a (ns.map V.int) → codeAny (model P w) callerA (.call (.ref fa) ⟨[.ref a], []⟩) (CR CX0 [] P w H s (fun v _ => v = .bl true) E0) s
theorem law_mk {P : Program} {w : World} {K : PySem.W.Frag} {h : Heap} {mg : Str → Option Value} {fa fL cL tL : Addr} {oc kV dc pm ct e : Value} {od an dd : Option Addr} {osl sl : Array (Option Value)} {vs : Array Value} (X : K.In h) (G : h.Ns mainGlobals mg) (hfa : mg "law" = some (.ref fa)) (hO : LamX.OwnTab K fa h) (T : Nonempty (Txt K mg)) (R : Nonempty (Err K mg))
    (aL : PySem.W.nsIn K mainGlobals "law" = some (some (.ref fL)))
    (lL : K.lookup fL = some ⟨oc, od, .func (PySem.W.fnOf "law" "law" (defArgs sLaw) (defBody sLaw) (defScope sLaw) .none kV dc pm an (.ref cL) ct), osl⟩)
    (kL : PySem.W.codeIn K (.ref cL) "law" = true)
    (hL : K.lookup cL = some ⟨e, dd, .fields vs, sl⟩)
    (vL : vs[11]? = some (.ref tL))
    (dL : PySem.W.codeHdIn [(cL, ⟨e, dd, .fields vs, sl⟩)] cL tL = true)
    (nL : K.lookup tL = none) : LawFits P w K mg fa h := by
  obtain ⟨T⟩ := T
  obtain ⟨R⟩ := R
  have e1 := hfa.symm.trans (PySem.W.mg_of X G aL)
  cases e1
  refine ⟨cL, tL, hO cL tL _ _ _ _ _ _ lL rfl rfl hL vL, nL, PySem.W.codeHd_of_K X (hd_mk hL dL), fun base H s a ns TB e0 hH ha => ?_⟩
  exact law_at T R TB lL kL ⟨rfl, by decide, by decide⟩ e0 (.of_eq rfl) (fun p hp => by rw [List.mem_singleton.mp hp]; exact LamX.TabS.nil hH) ha
theorem walk_law {l : PySem.W.OpenLaw} {q : Program} {loose : List Str} {XP : (Str → Option Value) → Heap → Prop} {YP : World → Heap → Prop} {d : DefRec} {Kp : Params → PySem.W.Frag} (most : l.most = some 63) (nodef : d.params.defaults = [])
    (among : ((recsOf q).any fun r => r.name == d.name) = true) (inK : ∀ (w : World) (h : Heap), YP w h → (Kp w.params).In h)
    (fits : ∀ (w : World) (mg : Str → Option Value) (fa : Addr) (h : Heap), YP w h → (Kp w.params).In h → h.Ns mainGlobals mg → mg d.name = some (.ref fa) → LamX.OwnTab (Kp w.params) fa h → LawFits l.prog w (Kp w.params) mg fa h) :
    PySem.W.WalkO q loose XP YP l.row.toRowW d [] (fun f vs => PySem.call f vs) := by
  refine Att.attach_callB most nodef fun w σ₀ σ mg mb fa o pm cd doc sc us ns gr yp fo od fc fg lst areI len _ gn => ?_
  have kin := inK w _ yp
  have own : LamX.OwnTab (Kp w.params) fa σ.heap := by
    intro c t o1 fd1 e dd fs sl q1 q2 q3 q4 q5
    obtain ⟨r, rm, rn⟩ := List.any_eq_true.mp among
    obtain ⟨a', o', fd', c', t', j1, j2, j3, j4, j5, j6⟩ := gr.T.tab r rm
    rw [beq_iff_eq.mp rn, fg] at j1
    obtain rfl : fa = a' := by cases j1; rfl
    have g1 := kin _ _ q1
    rw [j2] at g1
    obtain rfl : o' = o1 := by cases g1; rfl
    rw [j3] at q2
    obtain rfl : fd' = fd1 := by cases q2; rfl
    rw [j4] at q3
    obtain rfl : c' = c := by cases q3; rfl
    obtain ⟨⟨co, cv, m1, _, m3, m4⟩, mt⟩ := j6
    have g2 := kin _ _ q4
    rw [m1] at g2
    cases g2
    cases m3
    rw [m4] at q5
    obtain rfl : t' = t := by cases q5; rfl
    exact mt
  obtain ⟨cL, tL, t1, t2, t3, run⟩ := fits w mg fa _ yp kin gr.T.g fg own
  exact law_end kin gr.T.g gr.T.b gr.T.builtins gr.T.nolimit gn t1 t2 t3 gr.T.bmain lst areI (Nat.le_trans len (by decide)) fun base H TB e0 hH hS => run base H σ sc ns TB e0 hH hS
end Qb
set_option Elab.async false
open PySem PySem.W PyProof.Rows in
set_option maxRecDepth 100000 in
set_option maxHeartbeats 0 in
theorem PySem.Challenge.cw_quickbythen_k72_whole_fewest_rates_holds : PySem.Challenge.rw_quickbythen_k72_whole_fewest_rates.Holds := by
  w_on; o_law; k_head; (case hw => w_witness2)
  k_fill
  refine Qb.walk_law (l := PySem.Challenge.rw_quickbythen_k72_whole_fewest_rates) rfl rfl (by decide +kernel) (fun w h Y => PySem.W.km_in_of Y) ?F
  case F =>
    intro w mg fa h Y KX G hmg hO
    clear Y
    refine' Qb.law_mk KX G hmg hO ?T ?R ?aL ?lL ?kL ?hL ?vL ?dL ?nL
    (case T =>
      refine' Qb.txt_mk KX G ?a_isList ?l_isList ?c_isList ?k_isList ?a_isWhole ?l_isWhole ?c_isWhole ?k_isWhole ?a_isPos ?l_isPos ?c_isPos ?k_isPos ?a_below ?l_below ?c_below ?k_below ?a_isPair ?l_isPair ?c_isPair ?k_isPair ?a_isRow ?l_isRow ?c_isRow ?k_isRow ?a_badRow ?l_badRow ?c_badRow ?k_badRow ?a_roadOf ?l_roadOf ?c_roadOf ?k_roadOf ?a_joined ?l_joined ?c_joined ?k_joined ?a_roomTo ?l_roomTo ?c_roomTo ?k_roomTo ?a_restIn ?l_restIn ?c_restIn ?k_restIn ?a_apart ?l_apart ?c_apart ?k_apart ?a_choices ?l_choices ?c_choices ?k_choices ?a_fewest ?l_fewest ?c_fewest ?k_fewest ?a_stream ?l_stream ?c_stream ?k_stream ?a_draw ?l_draw ?c_draw ?k_draw ?a_mixed ?l_mixed ?c_mixed ?k_mixed ?a_same ?l_same ?c_same ?k_same ?a_loose ?l_loose ?c_loose ?k_loose ?a_lbelow ?l_lbelow ?c_lbelow ?k_lbelow ?a_llanes ?l_llanes ?c_llanes ?k_llanes ?a_lroom ?l_lroom ?c_lroom ?k_lroom ?a_other ?l_other ?c_other ?k_other ?a_lrest ?l_lrest ?c_lrest ?k_lrest ?a_small ?l_small ?c_small ?k_small ?a_lists ?l_lists ?c_lists ?k_lists ?a_tell ?l_tell ?c_tell ?k_tell ?a_due ?l_due ?c_due ?k_due ?a_tried ?l_tried ?c_tried ?k_tried ?z_isinstance ?z_list ?z_tuple ?z_int ?z_bool ?z_len ?z_all ?z_sum ?z_min ?z_max ?z_sorted ?z_range ?z_enumerate ?z_set ?z_zip ?z_abs ?z_dict ?z_repr
      (case a_isList => k_is)
      (case l_isList => k_is)
      (case c_isList => k_is)
      (case k_isList => k_is)
      (case a_isWhole => k_is)
      (case l_isWhole => k_is)
      (case c_isWhole => k_is)
      (case k_isWhole => k_is)
      (case a_isPos => k_is)
      (case l_isPos => k_is)
      (case c_isPos => k_is)
      (case k_isPos => k_is)
      (case a_below => k_is)
      (case l_below => k_is)
      (case c_below => k_is)
      (case k_below => k_is)
      (case a_isPair => k_is)
      (case l_isPair => k_is)
      (case c_isPair => k_is)
      (case k_isPair => k_is)
      (case a_isRow => k_is)
      (case l_isRow => k_is)
      (case c_isRow => k_is)
      (case k_isRow => k_is)
      (case a_badRow => k_is)
      (case l_badRow => k_is)
      (case c_badRow => k_is)
      (case k_badRow => k_is)
      (case a_roadOf => k_is)
      (case l_roadOf => k_is)
      (case c_roadOf => k_is)
      (case k_roadOf => k_is)
      (case a_joined => k_is)
      (case l_joined => k_is)
      (case c_joined => k_is)
      (case k_joined => k_is)
      (case a_roomTo => k_is)
      (case l_roomTo => k_is)
      (case c_roomTo => k_is)
      (case k_roomTo => k_is)
      (case a_restIn => k_is)
      (case l_restIn => k_is)
      (case c_restIn => k_is)
      (case k_restIn => k_is)
      (case a_apart => k_is)
      (case l_apart => k_is)
      (case c_apart => k_is)
      (case k_apart => k_is)
      (case a_choices => k_is)
      (case l_choices => k_is)
      (case c_choices => k_is)
      (case k_choices => k_is)
      (case a_fewest => k_is)
      (case l_fewest => k_is)
      (case c_fewest => k_is)
      (case k_fewest => k_is)
      (case a_stream => k_is)
      (case l_stream => k_is)
      (case c_stream => k_is)
      (case k_stream => k_is)
      (case a_draw => k_is)
      (case l_draw => k_is)
      (case c_draw => k_is)
      (case k_draw => k_is)
      (case a_mixed => k_is)
      (case l_mixed => k_is)
      (case c_mixed => k_is)
      (case k_mixed => k_is)
      (case a_same => k_is)
      (case l_same => k_is)
      (case c_same => k_is)
      (case k_same => k_is)
      (case a_loose => k_is)
      (case l_loose => k_is)
      (case c_loose => k_is)
      (case k_loose => k_is)
      (case a_lbelow => k_is)
      (case l_lbelow => k_is)
      (case c_lbelow => k_is)
      (case k_lbelow => k_is)
      (case a_llanes => k_is)
      (case l_llanes => k_is)
      (case c_llanes => k_is)
      (case k_llanes => k_is)
      (case a_lroom => k_is)
      (case l_lroom => k_is)
      (case c_lroom => k_is)
      (case k_lroom => k_is)
      (case a_other => k_is)
      (case l_other => k_is)
      (case c_other => k_is)
      (case k_other => k_is)
      (case a_lrest => k_is)
      (case l_lrest => k_is)
      (case c_lrest => k_is)
      (case k_lrest => k_is)
      (case a_small => k_is)
      (case l_small => k_is)
      (case c_small => k_is)
      (case k_small => k_is)
      (case a_lists => k_is)
      (case l_lists => k_is)
      (case c_lists => k_is)
      (case k_lists => k_is)
      (case a_tell => k_is)
      (case l_tell => k_is)
      (case c_tell => k_is)
      (case k_tell => k_is)
      (case a_due => k_is)
      (case l_due => k_is)
      (case c_due => k_is)
      (case k_due => k_is)
      (case a_tried => k_is)
      (case l_tried => k_is)
      (case c_tried => k_is)
      (case k_tried => k_is)
      (case z_isinstance => k_is)
      (case z_list => k_is)
      (case z_tuple => k_is)
      (case z_int => k_is)
      (case z_bool => k_is)
      (case z_len => k_is)
      (case z_all => k_is)
      (case z_sum => k_is)
      (case z_min => k_is)
      (case z_max => k_is)
      (case z_sorted => k_is)
      (case z_range => k_is)
      (case z_enumerate => k_is)
      (case z_set => k_is)
      (case z_zip => k_is)
      (case z_abs => k_is)
      (case z_dict => k_is)
      (case z_repr => k_is)
      )
    (case R =>
      refine' Qb.err_mk KX G ?aC ?xL ?rv ?sa ?ga ?gg ?nb ?iI ?tI ?lI ?cI ?kI ?kC ?eC ?tC ?hC ?sC
      (case aC => k_is)
      (case xL => k_is)
      (case rv => first | rfl | decide +kernel)
      (case sa => k_is)
      (case ga => k_is)
      (case gg => k_is)
      (case nb => k_is)
      (case iI => k_is)
      (case tI => k_is)
      (case lI => k_is)
      (case cI => k_is)
      (case kI => k_is)
      (case kC => k_is)
      (case eC => k_is)
      (case tC => k_is)
      (case hC => k_is)
      (case sC => first | rfl | k_is)
      )
    (case aL => k_is)
    (case lL => k_is)
    (case kL => k_is)
    (case hL => k_is)
    (case vL => rfl)
    (case dL => rfl)
    (case nL => rfl)
