import PyProof.Rows.All
import Wide.All
import OpenK.AllK
import Wide.FinOn
import HandS.ForMost
import KE.Datum
import KE.DatumMore
import KE.DatumOrd
import KE.DatumMoreOrd
import KE.DatumIndex
import HandS.Walk
import HandS.DictComp
import HandS.Star
import HandS.Conv
import KE.KExcSuper
import KE.KExcInit
import KE.KExcPX
import HandS.ForExc
import HandS.ExcCtx
import HandS.ExcField
import KE.KStateDown
import Lean
import HandS.More
import HandS.WordsExc
import HandS.Defaults
import HandS.Head0
import HandS.Head1
import HandS.Head2
import HandS.HeadEnd
import HandS.HeadHook1
import HandS.HeadHook2
import HandS.HeadHook3
import KE.KDictKeyed
import KE.SortData
import KE.SortKeyHeap
import KE.DataMinKey
import KE.KDictSum
import HandS.SortKw
import HandS.Set
import HandS.SetFor
import HandS.Strs
import HandS.TupSets
import HandS.Flow
import HandS.IsInst
import KE.KDictDisplayH
import KE.KDictCopyH
import HandS.DictTup
import HandS.ExcOwn
import HandS.TryOnly
import PySem.Challenge.RW_mastcalls_k46_whole_town_cuts
section
set_option Elab.async false
set_option maxRecDepth 100000
namespace MC
open PySem L2
/-! the program's text by places -/
def top (i : Nat) : Stmt := PySem.Challenge.pw_mastcalls_k46_whole_town_cuts.main.body.getD i (.Pass ⟨0, 0, 0, 0⟩)
abbrev sBadSceneInit : Stmt := inClass (top 3) 0
abbrev sBadNameInit : Stmt := inClass (top 4) 0
abbrev sBadCutInit : Stmt := inClass (top 5) 0
abbrev sIsWhole : Stmt := top 10
abbrev sIsName : Stmt := top 11
abbrev sCallInit : Stmt := inClass (top 12) 0
abbrev sSceneInit : Stmt := inClass (top 13) 0
abbrev sSceneOrder : Stmt := inClass (top 13) 2
abbrev sSceneRank : Stmt := inClass (top 13) 3
abbrev sSeatsInit : Stmt := inClass (top 15) 0
abbrev sSeatsSit : Stmt := inClass (top 15) 1
abbrev sSeatsHasRoom : Stmt := inClass (top 15) 2
abbrev sSeatsWaysFrom : Stmt := inClass (top 15) 3
abbrev sSeatsAdd : Stmt := inClass (top 15) 4
abbrev sKeptInit : Stmt := inClass (top 16) 0
abbrev sMovesInit : Stmt := inClass (top 19) 0
abbrev sMovesCost : Stmt := inClass (top 19) 1
abbrev sMovesArcs : Stmt := inClass (top 19) 2
abbrev sMovesPrices : Stmt := inClass (top 19) 3
abbrev sMovesRing : Stmt := inClass (top 19) 4
abbrev sMovesBetter : Stmt := inClass (top 19) 5
abbrev sReseated : Stmt := top 20
abbrev sMovesOf : Stmt := top 21
abbrev sLotsOf : Stmt := top 23
abbrev sDangerInit : Stmt := inClass (top 25) 0
abbrev sLotsBelow : Stmt := top 26
abbrev sSizeAndRow : Stmt := top 27
abbrev sWaysInto : Stmt := top 28
abbrev sDangerAt : Stmt := top 29
abbrev sDangerFor : Stmt := top 30
abbrev sTownInit : Stmt := inClass (top 32) 0
abbrev sTownScene : Stmt := inClass (top 32) 1
abbrev sTownSettle : Stmt := inClass (top 32) 2
abbrev sTownCheck : Stmt := inClass (top 32) 3
abbrev sTownBegin : Stmt := inClass (top 32) 4
abbrev sTownGo : Stmt := inClass (top 32) 5
abbrev sTownEnd : Stmt := inClass (top 32) 6
abbrev sTownFall : Stmt := inClass (top 32) 7
abbrev sTownRise : Stmt := inClass (top 32) 8
abbrev sTownIsSafe : Stmt := inClass (top 32) 9
abbrev sCheckDeed : Stmt := top 35
abbrev sDoIn : Stmt := top 36
abbrev sTownLine : Stmt := top 37
abbrev sDeedOf : Stmt := top 38
abbrev sTownDeeds : Stmt := top 39
abbrev sTownJournalInit : Stmt := inClass (top 40) 0
abbrev sTownJournalDo : Stmt := inClass (top 40) 1
abbrev sTownJournalSync : Stmt := inClass (top 40) 2
abbrev sTownJournalFallen : Stmt := inClass (top 40) 3
abbrev sMapInit : Stmt := inClass (top 42) 0
abbrev sMapNextZones : Stmt := inClass (top 42) 3
abbrev sMapReach : Stmt := inClass (top 42) 4
abbrev sMapUpMasts : Stmt := inClass (top 42) 5
abbrev sMapRoom : Stmt := inClass (top 42) 6
abbrev sLnumber : Stmt := top 44
abbrev sLtake : Stmt := top 45
abbrev sLpick : Stmt := top 46
abbrev sLmasts : Stmt := top 47
abbrev sLheard : Stmt := top 48
abbrev sLtown : Stmt := top 49
abbrev sLtold : Stmt := top 50
abbrev sLwish : Stmt := top 51
abbrev sLaw : Stmt := top 52
end MC
end
section
set_option Elab.async false
set_option linter.all false
set_option maxRecDepth 100000
set_option maxHeartbeats 4000000
/-! Own rules, 1: data with a Lean type in the hand layer; small constructs. -/
namespace MC
open PySem PySem.Spec PyProof.Rows L2

/-- the value v holds the datum x -/
def Hv {α : Type} [DecidableEq α] [PySem.W.Datum α] (K : PySem.W.Frag) (H : Hp) (v : V) (x : α) : Prop := Dp K H v (PySem.W.Datum.toD x)
/-- item by item -/
def Ha {α : Type} [DecidableEq α] [PySem.W.Datum α] (K : PySem.W.Frag) (H : Hp) (vs : List V) (xs : List α) : Prop := DpAll K H vs (xs.map PySem.W.Datum.toD)

section
variable {α β : Type} [DecidableEq α] [PySem.W.Datum α] [DecidableEq β] [PySem.W.Datum β] {K : PySem.W.Frag} {H : Hp}
theorem hv_str (x : Str) : Hv K H (.str x) x := Dp.str x
theorem hv_int (x : Int) : Hv K H (.int x) x := Dp.int x
theorem ha_nil : Ha K H [] ([] : List α) := DpAll.nil
theorem ha_cons {v : V} {vs : List V} {x : α} {xs : List α} (h : Hv K H v x) (hs : Ha K H vs xs) : Ha K H (v :: vs) (x :: xs) := DpAll.cons h hs
theorem ha_strs : ∀ xs : List Str, Ha K H (xs.map V.str) xs
  | [] => ha_nil
  | x :: xs => ha_cons (hv_str x) (ha_strs xs)
theorem ha_ints : ∀ xs : List Int, Ha K H (xs.map V.int) xs
  | [] => ha_nil
  | x :: xs => ha_cons (hv_int x) (ha_ints xs)
theorem hv_list {a : Addr} {vs : List V} {xs : List α} (h : SqL K H a vs) (hs : Ha K H vs xs) : Hv K H (.ref a) xs := Dp.lst h hs
theorem hv_tup {a : Addr} {vs : List V} {xs : List α} (h : SqT K H a vs) (hs : Ha K H vs xs) : Hv K H (.ref a) (PySem.W.Tup.mk xs) := Dp.tup h hs
theorem hv_pair {a : Addr} {v u : V} {x : α} {y : β} (h : SqT K H a [v, u]) (h1 : Hv K H v x) (h2 : Hv K H u y) : Hv K H (.ref a) (x, y) := Dp.tup h (DpAll.cons h1 (DpAll.cons h2 DpAll.nil))
theorem hv_t3 {γ : Type} [DecidableEq γ] [PySem.W.Datum γ] {a : Addr} {v u t : V} {x : α} {y : β} {z : γ} (h : SqT K H a [v, u, t]) (h1 : Hv K H v x) (h2 : Hv K H u y) (h3 : Hv K H t z) : Hv K H (.ref a) (PySem.W.T3.mk x y z) :=
  Dp.tup h (DpAll.cons h1 (DpAll.cons h2 (DpAll.cons h3 DpAll.nil)))
end

section
variable {X : Cx} {pins : List (Addr × Obj)} {σ : L2.St} {H : Hp} {s : Shared} {α : Type} [DecidableEq α] [PySem.W.Datum α]
theorem Hv.holds (I : Inv X pins σ H s) {v : V} {u : Value} {x : α} (h : Hv X.K H v x) (r : RelV v u) : PySem.W.Holds s.heap u x := Dp.reads I _ _ _ h r
theorem Ha.holds (I : Inv X pins σ H s) {vs : List V} {us : List Value} {xs : List α} (h : Ha X.K H vs xs) (r : Vals vs us) : PySem.W.HoldAll s.heap us xs := Dp.readsAll I _ _ _ h r
end

section
variable {X : Cx}
/-- the room that data of a type asks -/
abbrev Fit (X : Cx) (α : Type) [DecidableEq α] [PySem.W.Datum α] : Prop := X.A.units + 1 + PySem.W.Datum.depth α < cLine
/-- ==, != of two data of one type -/
def rEqT (α : Type) [DecidableEq α] [PySem.W.Datum α] (K : PySem.W.Frag) : R2 := fun x y H Q => ∃ a b : α, Hv K H x a ∧ Hv K H y b ∧ Q (.bl (decide (a = b))) H
def rNeT (α : Type) [DecidableEq α] [PySem.W.Datum α] (K : PySem.W.Frag) : R2 := fun x y H Q => ∃ a b : α, Hv K H x a ∧ Hv K H y b ∧ Q (.bl (decide (a ≠ b))) H
theorem op_eqT (α : Type) [DecidableEq α] [PySem.W.Datum α] (hu : Fit X α) : OpR X (compareOp .Eq) (rEqT α X.K) := by
  rintro pins s σ H x y v u Q I rx ry ⟨a, b, h1, h2, q⟩
  exact PySem.W.eq_datum (h1.holds I rx) (h2.holds I ry) (by have := hu; omega) ⟨.bl _, H, I, rfl, q⟩
theorem op_neT (α : Type) [DecidableEq α] [PySem.W.Datum α] (hu : Fit X α) : OpR X (compareOp .NotEq) (rNeT α X.K) := by
  rintro pins s σ H x y v u Q I rx ry ⟨a, b, h1, h2, q⟩
  exact PySem.W.ne_datum (h1.holds I rx) (h2.holds I ry) (by have := hu; omega) ⟨.bl _, H, I, rfl, q⟩
/-- x not in t, t a tuple of data of one type -/
def rNiT (α : Type) [DecidableEq α] [PySem.W.Datum α] (K : PySem.W.Frag) : R2 := fun x y H Q => ∃ (a : α) (p : Addr) (vs : List V) (xs : List α), y = .ref p ∧ Hv K H x a ∧ SqT K H p vs ∧ Ha K H vs xs ∧ Q (.bl (decide (a ∉ xs))) H
theorem op_niT (α : Type) [DecidableEq α] [PySem.W.Datum α] (hu : Fit X α) : OpR X (compareOp .NotIn) (rNiT α X.K) := by
  rintro pins s σ H x y v u Q I rx ry ⟨a, p, vs, xs, rfl, h1, hs, h2, q⟩
  cases ry
  obtain ⟨its, r, ⟨o, ho, hc, n, hd⟩, _⟩ := I.tuple hs
  exact PySem.W.notIn_tuple_datum ⟨o, ho, hc, n, hd⟩ (by simpa using h2.holds I r) (h1.holds I rx) hu ⟨.bl _, H, I, rfl, q⟩
/-- l.remove(x): the first one that is x -/
def rRemT (α : Type) [DecidableEq α] [PySem.W.Datum α] (K : PySem.W.Frag) : V → List V → Hp → VK → Prop := fun x xs H Q => ∃ (l : Addr) (vs : List V) (ys : List α) (v : V) (a : α) (j : Nat), x = .ref l ∧ xs = [v] ∧ H l = some (.lst vs) ∧ Ha K H vs ys ∧ Hv K H v a ∧
  ys[j]? = some a ∧ (∀ m : Nat, m < j → ys[m]? ≠ some a) ∧ Q .non (upd H l (.lst (vs.eraseIdx j)))
theorem vals_erase {xs : List V} {us : List Value} (r : Vals xs us) (j : Nat) : Vals (xs.eraseIdx j) (us.eraseIdx j) := by
  rw [List.eraseIdx_eq_take_drop_succ, List.eraseIdx_eq_take_drop_succ]
  exact (r.take j).append (r.drop (j + 1))
theorem mt_removeT (α : Type) [DecidableEq α] [PySem.W.Datum α] (hu : Fit X α) : MtM X "list.remove" (rRemT α X.K) := by
  rintro pins s σ H x xs v us Q I rx rxs ⟨l, vs, ys, z, a, j, rfl, rfl, hH, h2, h1, hj, hno, q⟩
  cases rx
  obtain ⟨u, rfl, ru⟩ := rxs.one
  obtain ⟨z, its, n, r, hl, e⟩ := I.lstM hH
  refine PySem.W.remove_list_datum (vs := its.toArray) ⟨_, e, rfl, n, rfl⟩ (by simpa using h2.holds I r) (h1.holds I ru) hu hj hno (by simpa [← hl] using z) ?_
  · refine ⟨.non, _, I.lset (its' := its.eraseIdx j) (t' := s.toks) hH e ?_ (vals_erase r j) (Nat.le_trans (List.length_eraseIdx_le ..) z), rfl, q⟩
    show its.toArray.eraseIdxIfInBounds j = (its.eraseIdx j).toArray
    rw [List.eraseIdxIfInBounds_toArray]

/-! ### an item of a list, read for an augmented store -/
def rGetL : V → V → Hp → VK → Prop := fun o i H Q => ∃ (p : Addr) (xs : List V) (k : Nat) (v : V), o = .ref p ∧ i = .int (k : Nat) ∧ H p = some (.lst xs) ∧ xs[k]? = some v ∧ Q v H
theorem get_list : PGet X rGetL := by
  rintro pins s σ H o i ov iv Q I ro ri ⟨p, xs, k, v, rfl, rfl, hp, hv, q⟩
  cases ro
  obtain ⟨t, rfl⟩ := ri
  obtain ⟨its, n, r, ho, hz⟩ := I.lst hp
  obtain ⟨u, hu, ru⟩ := r.get hv
  have hk := (List.getElem?_eq_some_iff.mp hv).1
  have hsl : sizeLine = 16777216 := sizeLine_eq
  refine wpAny_getItem_list (items := its.toArray) ⟨_, ho, rfl, n, rfl⟩ (by omega) (by omega) (x := u) ?_ ⟨v, H, I, ru, q⟩
  simpa using hu

/-! ### *d in a display, d a dict with int and text keys -/
def tStarD (te : TE) (t : TA) : TA := fun σ H Q => te σ H fun x H1 => ∃ p kvs, x = V.ref p ∧ H1 p = some (.dK kvs) ∧ t σ H1 fun ys H2 => Q (kvs.map (fun kv => kV kv.1) ++ ys) H2
theorem star_dk {pins : List (Addr × Obj)} {σ : L2.St} {H : Hp} {s : Shared} {a : Addr} {kvs : List (Key × V)} {E : Value → Shared → Prop} {Q : List Value → Shared → Prop} (hc : X.calm = true) (I : Inv X pins σ H s) (h : H a = some (.dK kvs))
    (hQ : ∀ us s', Inv X pins σ H s' → Vals (kvs.map fun kv => kV kv.1) us → Q us s') : PySem.W.StarOf (model X.prog X.w) X.A E (.ref a) Q s := by
  obtain ⟨z, lo, vs, rk, hd⟩ := (show ObjOk X.prog X.w H s.heap a (.dK kvs) from I.hok a _ h)
  obtain ⟨ep, hat⟩ := hd.dictAt
  have hl : kvs.length = vs.length := Paired.length rk
  have hT : s.TypeIs (.ref a) "dict" := hd.typeIs
  unfold PySem.W.StarOf notIterableAtAll
  refine wpAny_bind (wpAny_specialOf hT PySem.F.slot_dict_iter.lookup (wpAny_pure ⟨rfl, ?_⟩))
  refine PySem.W.kdu_collect (PySem.W.kdl_dict (knd := mixKind X.prog X.w) (kvs := vs) (ep := ep) lo) (I.ok.hd hc) hat (by rw [← hl]; exact z) fun h' tk acc hk hacc => ?_
  refine hQ _ _ (I.kept (t' := tk) hk) ?_
  have el : acc.toList.length = acc.size := by simp
  refine vals_of_at (by rw [List.length_map, el, hacc.1, hl]) fun j x w h1 h2 => ?_
  obtain ⟨k, y, hky, hi⟩ := hacc.2 j w (by rw [← Array.getElem?_toList]; exact h2)
  have e1 : (kvs.map (·.1))[j]? = some k := by
    rw [KV.keys rk, List.getElem?_map, hky] <;> rfl
  rw [show (kvs.map fun kv => kV kv.1) = (kvs.map (·.1)).map kV by rw [List.map_map] <;> rfl, List.getElem?_map, e1] at h1
  cases h1
  exact keyIs_rel hi
theorem pa_starD {e : Expr} {es : List Expr} {te : TE} {t : TA} {p : Pos} (hc : X.calm = true) (he : PE X e te) (hr : PA X es t) (hs : starEach (.Starred e p :: es) X.env = (true, eval e X.env) :: starEach es X.env := by rfl) : PA X (.Starred e p :: es) (tStarD te t) := by
  refine ⟨fun pos pins s σ H Q I h => ?_⟩
  refine PySem.W.items_star (thn (he.run pins s σ H _ I h) fun v s1 ⟨y, H1, I1, ry, a, kvs, ey, hx, q⟩ => ?_) hs
  subst ey
  obtain rfl : v = Value.ref a := ry
  refine star_dk hc I1 hx fun us s2 I2 rv => ?_
  exact thn (hr.run pos pins s2 σ H1 _ I2 q) fun ws s3 ⟨vs, H3, I3, r3, q3⟩ => ⟨_, H3, I3, rv.append r3, q3⟩

/-! ### name = {k: v for ..}; a comprehension's dict over any walk -/
theorem ps_setDc {i : Nat} {y : Str} {py : Pos} {kx vx tg iter : Expr} {ifs : List Expr} {scope : Scope} {own : List (Str × Nat)} {pos spos : Pos} {wi : TI} {g : TG} {tt : TT} {tk tv : TE} (hc : X.calm = true) (hN : X.N.Nodup) (hy : X.N[i]? = some y) (hyl : X.env.scope.names.lookup y = some .local)
    (hsw : swapsWith (.DictComp kx vx [⟨tg, iter, ifs, 0⟩] scope pos) (some (.Name y py)) spos.line X.env = pure true) (hi : PI X tg iter wi) (ok : BlkOk X.N X.env.scope scope own)
    (hg : ∀ (s : Shared) (H : Hp) (C : Addr) (cl : List (Str × Addr)) (fp : List Addr), PG (X.blk s H scope (compEnvC scope cl C X.env) fp) tg g) (ht : ∀ (s : Shared) (H : Hp) (C : Addr) (cl : List (Str × Addr)) (fp : List Addr), PTs (X.blk s H scope (compEnvC scope cl C X.env) fp) ifs tt)
    (hk : ∀ (s : Shared) (H : Hp) (C : Addr) (cl : List (Str × Addr)) (fp : List Addr), PE (X.blk s H scope (compEnvC scope cl C X.env) fp) kx tk)
    (he : ∀ (s : Shared) (H : Hp) (C : Addr) (cl : List (Str × Addr)) (fp : List Addr), PE (X.blk s H scope (compEnvC scope cl C X.env) fp) vx tv) (hs : ∀ x, foldedSetIterable iter X.env x = pure x := by intro _; rfl) :
    PS X (.Assign [.Name y py] (.DictComp kx vx [⟨tg, iter, ifs, 0⟩] scope pos) spos) (tAsg (tDc wi g tt tk tv (own.map (·.2))) (gName i)) := by
  refine ⟨fun pins s σ H D I h => ?_⟩
  rw [exec_Assign_Name_used _ _ _ _ hsw]
  refine wpAny_bind (wpAny_standAt (wpAny_bind ?_))
  show wpAny _ X.A (do let _ ← comprehension (.DictComp kx vx [⟨tg, iter, ifs, 0⟩] scope pos) scope X.env (firstIterPos [⟨tg, iter, ifs, 0⟩] pos) newDict false (eval iter X.env) (some (assign (.Name y py) X.env))) _ _ s
  have h : tDc wi g tt tk tv (own.map (·.2)) σ H (fun x H1 => gName i x σ H1 D.nx) := h
  refine wpAny_bind (thn (dc_core (Qf := fun _ s' => SP X pins D .next s') hc hN I hi ok hg ht hk he hs h fun L C s' m H' I' q hn f => ?_) fun _ s' hq => wpAny_pure (wpAny_pure hq))
  show wpAny _ _ (assign (.Name y py) X.env (.ref L)) _ _ _
  refine wpAny_assign_Name (store_ok2 (v := V.ref L) I' hN hy (.inl hyl) rfl (fun s2 I2 ⟨a, sb, ha⟩ => ?_) (.inr hyl))
  obtain ⟨f0, f1, f2, f3, f4, f5⟩ := f
  have haC : C ≠ a := by
    rcases ha with z | z
    · rw [z]; exact f1
    · exact fun e => f4 y a z e.symm
  exact ⟨m, hn.sameBut sb haC, fun h3 sb3 => ⟨_, H', I2.turned (t' := s2.toks) (fun b o hb e => (sb3.2 b hb).trans e) f0 f1 f3 f4 f5, q⟩⟩
theorem swd_true {kx vx : Expr} {gs : List Comprehension} {scope : Scope} {pos py : Pos} {y : Str} {l : Nat} {env : Env} (hk : env.scope.kind = .function) (hy : env.scope.names.lookup y = some .local) (hl : (py.line == pos.line) = true)
    (ha : (scope.names.any fun (n, k) => n == y && (k == .local || k == .cell)) = false) : swapsWith (.DictComp kx vx gs scope pos) (some (.Name y py)) l env = pure true := by
  have ky : env.kindOf y = some .local := hy
  have hb : env.blockKind = .function := by
    unfold Env.blockKind
    rw [hk] <;> rfl
  unfold swapsWith
  simp only [hb, ky, ha, Expr.pos, hl]
  rfl
/-- over a walk: Pv by the turn and the heap (the new dict at D within) -/
theorem dc_it {J : It} {n : Nat} {G : Hp → Prop} {Y : Nat → Hp → V → Hp → Prop} (w : Walk J n G Y) {g : TG} {tt : TT} {tk tv : TE} {vs : List Nat} {σ : L2.St} {H1 : Hp} {D : Addr} {Qd : Hp → Prop} (Pv : Nat → Hp → Prop) (h0 : Pv 0 (upd H1 D (.dK []))) (hG : ∀ i H, i ≤ n → Pv i H → G H)
    (hs : ∀ i x H H', i < n → Pv i H → Y i H x H' → g x (wipe σ vs) H' fun σ2 H2 => wipe σ2 vs = wipe σ vs ∧ tt σ2 H2 fun b H3 =>
      if b = true then tk σ2 H3 fun y H4 => tv σ2 H4 fun z H5 => ∃ kvs k, y = kV k ∧ H5 D = some (.dK kvs) ∧ kvs.length < sizeLine ∧ Pv (i + 1) (upd H5 D (.dK (putK kvs k z))) else Pv (i + 1) H3) (hd : ∀ H, Pv n H → Qd H) :
    ∃ W : Nat → Nat → Hp → Prop, (∃ m, W 0 m (upd H1 D (.dK []))) ∧ ∀ i m H, W i m H →
      (J.stop i H ∧ Qd H) ∨ (J.go i H ∧ ∃ Nx : Hp → Prop, (∀ H', Nx H' → ∃ m', m' < m ∧ W (i + 1) m' H') ∧ ∀ x H', J.yld i H x H' → g x (wipe σ vs) H' fun σ2 H2 => wipe σ2 vs = wipe σ vs ∧ tt σ2 H2 fun b H3 =>
        if b = true then tk σ2 H3 fun y H4 => tv σ2 H4 fun z H5 => ∃ kvs k, y = kV k ∧ H5 D = some (.dK kvs) ∧ kvs.length < sizeLine ∧ Nx (upd H5 D (.dK (putK kvs k z))) else Nx H3) := by
  refine ⟨fun i m H => m + i = n ∧ Pv i H, ⟨n, by simp, h0⟩, ?_⟩
  rintro i m H ⟨e, p⟩
  have q := hG i H (by omega) p
  by_cases hlt : i < n
  · exact .inr ⟨w.goes i H hlt q, Pv (i + 1), fun H' p' => ⟨m - 1, by omega, by omega, p'⟩, fun x H' y => hs i x H H' hlt p (w.yields i H x H' hlt q y)⟩
  · have ei : i = n := by omega
    subst ei
    exact .inl ⟨w.stops H q, hd H p⟩
end
end MC
end
section
set_option Elab.async false
set_option linter.all false
set_option maxRecDepth 100000
set_option maxHeartbeats 4000000
/-! Own rules, exceptions 1: an own error whose __init__ says super().__init__('..'); self.f = f, made and raised. -/
namespace MC
open PySem PySem.Spec PySem.Calls PyProof.Rows L2
open PySem.W (ksFn ksEnv ks_superObj ks_superIn excInitIn excOver excObj excTup kxs_mw Frag hideAll of_hideAll hideAll_none hideAll_get)
abbrev bmE : List Value := [.type "Exception", .type "BaseException", .type "object"]
def bdA (f : Str) (p1 p2 : Pos) : Arguments := { posonlyargs := [], args := [{ arg := "self", annotation := none, pos := p1 }, { arg := f, annotation := none, pos := p2 }], vararg := none, kwonlyargs := [], kw_defaults := [], kwarg := none, defaults := [] }
def bdB (f tx : Str) (p0 p1 p2 p3 p4 p5 q1 q2 q3 q4 : Pos) : List Stmt :=
  [.Expr (.Call (.Attribute (.Call (.Name "super" p0) [] [] p1) "__init__" p2) [.Constant (.str tx) 0 p3] [] p4) p5, .Assign [.Attribute (.Name "self" q1) f q2] (.Name f q3) q4]
def bdS (f : Str) : Scope := { kind := .function, names := [(PySem.Str.ofString "self", .local), (f, .local), (PySem.Str.ofString "__class__", .free), (PySem.Str.ofString "super", .globalImplicit)], isGenerator := false, isCoroutine := false, more := [] }
/-- the call's text, read: its places lie on one line -/
def CallEq (f tx : Str) (a cc cda : Addr) (p0 p1 p2 p3 p4 : Pos) : Prop := ∀ (q : Str) (L : Addr), ∃ pl, eval (.Call (.Attribute (.Call (.Name "super" p0) [] [] p1) "__init__" p2) [.Constant (.str tx) 0 p3] [] p4) (ksEnv q (bdS f) L a (.ref cda) cc) = (do
      let ov ← attributeBase (.Call (.Name "super" p0) [] [] p1) "__init__" (ksEnv q (bdS f) L a (.ref cda) cc) (eval (.Call (.Name "super" p0) [] [] p1) (ksEnv q (bdS f) L a (.ref cda) cc))
      standAt p2.atName
      let (g, first) ← holding [ov] (getMethod ov "__init__" pl)
      callWith p4 g first (backTo p4 (starEach [.Constant (.str tx) 0 p3] (ksEnv q (bdS f) L a (.ref cda) cc))) [])
/-- what the written part says of an error class at C and of its __init__, at fI; cc its cell, cda its code -/
structure BadT (P : Program) (K : Frag) (mg : Str → Option Value) (x f : Str) (C fI cc cda : Addr) : Prop where
  gC : mg x = some (.ref C)
  sup : mg "super" = none
  kC : PySem.W.keepIn K (.ref C) = true
  exi : excInitIn K C bmE "Exception.__new__" = true
  over : excOver K C bmE = true
  iC : PySem.W.findIn K (.ref C) "__init__" = some (some (.ref fI))
  fnI : PySem.W.isFn K (.ref fI) = true
  fn : ∃ (oc : Value) (od : Option Addr) (doc pm ct : Value) (an : Option Addr) (osl : Array (Option Value)) (qual tx : Str) (r1 r2 p0 p1 p2 p3 p4 p5 q1 q2 q3 q4 : Pos),
    K.lookup fI = some ⟨oc, od, .func (ksFn "__init__" qual (bdA f r1 r2) (bdB f tx p0 p1 p2 p3 p4 p5 q1 q2 q3 q4) (bdS f) .none .none doc pm an (.ref cda) ct cc), osl⟩ ∧ PySem.W.codeIn K (.ref cda) qual = true ∧ CallEq f tx fI cc cda p0 p1 p2 p3 p4
  cell : ∃ cl cld csl, K.lookup cc = some ⟨cl, cld, .cell (some (.ref C)), csl⟩
  code : ∃ ccl cdd vs ccs file tf, K.lookup cda = some ⟨ccl, cdd, .fields vs, ccs⟩ ∧ vs[2]? = some (.str file tf) ∧ ((P.main.file : Str) == file) = true
  top : (P.main.scope.names.lookup ("super" : Str)).isSome = false
  clsD : ∃ cd, PySem.W.clsIn K C = some cd
  self : PySem.W.mroIn K C (.ref C) = some true
  supI : ks_superIn K C C "__init__" = some (some (.builtin "Exception.__init__"))
  exE : PySem.W.subIn K (.ref C) (.type "Exception") = some true
  tp : PySem.W.nsIn K cStatics "thirdparty.any" = some none
  sa : PySem.W.findIn K (.ref C) "__setattr__" = some (some (.builtin "object.__setattr__"))
  tk : PySem.W.takerIn K C f = some none
  hd : PySem.W.hasDictIn K C = true
  exC : PySem.W.subIn K (.ref C) (.type "BaseException") = some true
  tyC : PySem.W.typeIn K (.ref C) = some (.type "type")
  xf : XfC K C
  no : PySem.W.findIn K (.ref C) f = some none

section
variable {P : Program} {w : World} {A : Around} {E : Value → Shared → Prop} {R : Result → Shared → Prop} {s : Shared} {K : Frag} {mg : Str → Option Value} {x f : Str} {C fI cc cda : Addr} {base : Heap}
/-- the scope's words, for a field that is none of the three -/
structure FldOk (f : Str) : Prop where
  cls : (bdS f).names.lookup ("__class__" : Str) = some .free
  sup : (bdS f).names.lookup ("super" : Str) = some .globalImplicit
  self : (bdS f).names.lookup ("self" : Str) = some .local
  fld : (bdS f).names.lookup f = some .local
  dbg : (f == ("__debug__" : Str)) = false
  nocell : ∀ y ∈ (bdS f).names, y.2 ≠ .cell
  ne : (("self" : Str) == f) = false
  bind : ∀ (qual : Str) (body : List Stmt) (doc pm ct cdv : Value) (an : Option Addr) (cc : Addr) (r1 r2 : Pos) (u v : Value), bindArgs (ksFn "__init__" qual (bdA f r1 r2) body (bdS f) .none .none doc pm an cdv ct cc) ⟨[u, v], []⟩ = pure [(("self" : Str), u), (f, v)]
  asg : ∀ (q : Str) (L a cc : Addr) (cdv : Value) (q1 q2 q3 q4 : Pos), swapsWith (.Name f q3) (some (.Attribute (.Name "self" q1) f q2)) q4.line (ksEnv q (bdS f) L a cdv cc) = pure false
theorem fld_name : FldOk "name" := ⟨rfl, rfl, rfl, rfl, by decide, by decide, by decide, fun _ _ _ _ _ _ _ _ _ _ _ _ => by first | rfl | with_unfolding_all rfl, fun _ _ _ _ _ _ _ _ _ => by first | rfl | with_unfolding_all rfl⟩
theorem fld_place : FldOk "place" := ⟨rfl, rfl, rfl, rfl, by decide, by decide, by decide, fun _ _ _ _ _ _ _ _ _ _ _ _ => by first | rfl | with_unfolding_all rfl, fun _ _ _ _ _ _ _ _ _ => by first | rfl | with_unfolding_all rfl⟩
theorem bad_super {q : Str} {body : List Stmt} {L xA : Addr} {p0 p1 : Pos} {whole : Sem Value} {Q : Value → Shared → Prop} {ox : Obj} {m : Str → Option Value}
    (T : BadT P K mg x f C fI cc cda) (FO : FldOk f) (X : K.In s.heap) (M : Mod K mg base) (kb : ∀ b o, base.get? b = some o → s.heap.get? b = some o)
    (hn : s.heap.Ns L m) (hv : m "self" = some (.ref xA)) (hx : s.heap.get? xA = some ox) (hxc : ox.cls = .ref C) (hnc : ∀ c, ox.data ≠ .cls c)
    (h : ∀ h', h'.get? s.heap.objs.size = some (ks_superObj C xA C) → (∀ b o, s.heap.get? b = some o → h'.get? b = some o) → Q (.ref s.heap.objs.size) { s with heap := h' }) :
    _root_.PySem.wpAt (model P w) A (.func body (ksEnv q (bdS f) L fI (.ref cda) cc)) (attributeBase (.Call (.Name "super" p0) [] [] p1) "__init__" (ksEnv q (bdS f) L fI (.ref cda) cc) whole) Q E s := by
  obtain ⟨oc, od, doc, pm, ct, an, osl, qual, tx, r1, r2, _, _, _, _, _, _, _, _, _, _, hf, _, _⟩ := T.fn
  obtain ⟨ccl, cdd, vs, ccs, file, tf, hcode, hvs, hfile⟩ := T.code
  obtain ⟨cl, cld, csl, hcell⟩ := T.cell
  obtain ⟨cdD, hD⟩ := T.clsD
  obtain ⟨mb, hb1, hb2⟩ := M.blt
  obtain ⟨hh, g, d, t, os⟩ := s
  obtain ⟨oD, hD1, hD2⟩ : ∃ oD, hh.get? C = some oD ∧ oD.data = .cls cdD := by
    unfold PySem.W.clsIn at hD
    split at hD
    · rename_i c d cd' sl ho
      cases hD
      exact ⟨_, X _ _ ho, rfl⟩
    · cases hD
  refine ks_wpAt_super_base (env := ksEnv q (bdS f) L fI (.ref cda) cc) FO.sup FO.cls (by decide) rfl (X _ _ hf) rfl rfl rfl (X _ _ hcode) rfl hvs hfile T.top ?_
  refine PySem.W.ks_loadName_global rfl FO.sup (loadGlobal_builtin (env := ksEnv q (bdS f) L fI (.ref cda) cc) (M.glob.keeps kb) T.sup (hb1.keeps kb) ((hb2 _ (by decide)).trans (by kernel_rfl)) ⟨rfl, ?_⟩)
  refine wpAny_loadName_free rfl FO.cls rfl ⟨_, X _ _ hcell, rfl⟩ ?_
  refine wpAny_loadName_local rfl FO.self hn hv ?_
  refine ks_wpAny_isType_cls hD1 hD2 ⟨rfl, ?_⟩
  refine ks_wpAny_call_super hD1 hD2 hx hxc hnc (PySem.W.looks_mroIn X T.self) (fun h' e k => ?_)
  exact h h' e k

theorem ns1_one {h : Heap} {d : Addr} {f : Str} {tk : Tok} {v : Value} {hs : Int} {n : Nat} (ho : h.get? d = some (PySem.W.dictOf [⟨hs, .str f tk, v⟩] n)) : h.Ns1 d (fun y => if y = f then some v else none) := by
  refine ⟨_, _, _, ho, rfl, fun e he => ?_, List.pairwise_singleton _ _, fun name => ?_⟩
  · have : e = ⟨hs, .str f tk, v⟩ := by simpa using he
    exact ⟨f, tk, by rw [this]⟩
  · unfold nsFind findBy
    by_cases hn : name = f
    · subst hn
      simp [Value.isStr]
    · have hf : (f == name) = false := by
        rw [beq_eq_false_iff_ne]
        exact fun e => hn e.symm
      simp [Value.isStr, hf, hn]
/-- what __init__ leaves of a fresh error at xA -/
structure BadEnd (h h' : Heap) (f : Str) (xA C dx t1 : Addr) (v : Value) : Prop where
  keep : ∀ b o, b ≠ xA → h.get? b = some o → h'.get? b = some o
  obj : h'.get? xA = some (excObj C t1 (some dx) .none)
  dbig : h.objs.size ≤ dx
  dne : dx ≠ xA
  ns : h'.Ns1 dx (fun y => if y = f then some v else none)
theorem bad_init {xA t0 : Addr} {v : Value} (T : BadT P K mg x f C fI cc cda) (FO : FldOk f) (X : K.In s.heap) (M : Mod K mg base) (kb : ∀ b o, base.get? b = some o → s.heap.get? b = some o) (hlim : s.heap.NoLimit)
    (hx : s.heap.get? xA = some (excObj C t0 none .none)) (hnx : K.lookup xA = none) (hbx : base.get? xA = none) (hroom : A.depth < recursionLimit)
    (hq : ∀ h' tk dx t1, BadEnd s.heap h' f xA C dx t1 v → R (.ok (.ret .none)) { s with heap := h', toks := tk }) :
    codeAny (model P w) A (.call (.ref fI) ⟨[.ref xA, v], []⟩) R s := by
  obtain ⟨oc, od, doc, pm, ct, an, osl, qual, tx, r1, r2, p0, p1, p2, p3, p4, p5, q1, q2, q3, q4, hf, hcd, hce⟩ := T.fn
  refine ks_codeAny_call_defAt (fd := ksFn "__init__" qual (bdA f r1 r2) (bdB f tx p0 p1 p2 p3 p4 p5 q1 q2 q3 q4) (bdS f) .none .none doc pm an (.ref cda) ct cc) (body := bdB f tx p0 p1 p2 p3 p4 p5 q1 q2 q3 q4) (binds := [(("self" : Str), .ref xA), (f, v)]) hroom (X _ _ hf) rfl hlim (PySem.W.codeRec_of X hcd) rfl
    (BindsTo.of_eq (FO.bind ..)) FO.nocell (fun y hy => ?_) (fun h₁ hns k₁ => ?_) rfl rfl rfl
  · rcases List.mem_cons.mp hy with rfl | hy
    · exact FO.self
    · rw [List.mem_singleton.mp hy]
      exact FO.fld
  have hxL : xA < s.heap.objs.size := Heap.lt_size hx
  have hL : s.heap.objs.size ≠ xA := Nat.ne_of_gt hxL
  obtain ⟨G, hG⟩ : ∃ G, G = hideAll s.heap [xA] := ⟨_, rfl⟩
  have G2 : G.get? xA = none := by
    rw [hG]
    exact hideAll_none _ List.mem_cons_self
  have Gk : ∀ b o, G.get? b = some o → s.heap.get? b = some o := fun b o q => by
    rw [hG] at q
    exact of_hideAll _ q
  have XG : K.In G := fun a o q => by
    rw [hG]
    exact hideAll_get _ (X a o q) fun hm => by
      rw [List.mem_singleton.mp hm, hnx] at q
      cases q
  have Gz : G.objs.size ≤ s.heap.objs.size := by
    rw [hG]
    exact Nat.le_of_eq (PySem.W.hideAll_size _ _)
  have X1 : K.In h₁ := X.keeps k₁
  have kb1 : ∀ b o, base.get? b = some o → h₁.get? b = some o := fun b o q => k₁ b o (kb b o q)
  have F1 : Fr G s.heap.objs.size h₁ (fun y => ([(("self" : Str), Value.ref xA), (f, v)] : List (Str × Value)).reverse.lookup y) := ⟨hns, fun b o q => k₁ b o (Gk b o q), Gz⟩
  have N1 : News G s.heap.objs.size h₁ [(xA, excObj C t0 none .none)] := fun p hp => by
    rw [List.mem_singleton.mp hp]
    exact ⟨k₁ _ _ hx, hL.symm, G2⟩
  have mself : (fun y => ([(("self" : Str), Value.ref xA), (f, v)] : List (Str × Value)).reverse.lookup y) ("self" : Str) = some (.ref xA) := by
    show ([(f, v), (("self" : Str), Value.ref xA)] : List (Str × Value)).lookup ("self" : Str) = _
    rw [List.lookup_cons, FO.ne]
    rfl
  have mf : (fun y => ([(("self" : Str), Value.ref xA), (f, v)] : List (Str × Value)).reverse.lookup y) f = some v := by
    show ([(f, v), (("self" : Str), Value.ref xA)] : List (Str × Value)).lookup f = _
    rw [List.lookup_cons, beq_self_eq_true]
  generalize hm : (fun y => ([(("self" : Str), Value.ref xA), (f, v)] : List (Str × Value)).reverse.lookup y) = m at F1 mself mf
  show _root_.PySem.wpAt (model P w) (A.deeper (ksEnv qual (bdS f) s.heap.objs.size fI (.ref cda) cc)) (.func (bdB f tx p0 p1 p2 p3 p4 p5 q1 q2 q3 q4) (ksEnv qual (bdS f) s.heap.objs.size fI (.ref cda) cc)) (execs (bdB f tx p0 p1 p2 p3 p4 p5 q1 q2 q3 q4) (ksEnv qual (bdS f) s.heap.objs.size fI (.ref cda) cc)) _ _ _
  obtain ⟨pl, hcall⟩ := hce qual s.heap.objs.size
  refine ks_wpAt_execs_cons (ks_wpAt_Expr_any (ks_wpAt_MethodCall (pl := pl) ?_ hcall))
  refine bad_super (s := { s with heap := h₁, toks := s.toks + 2 }) T FO X1 M kb1 F1.ns mself (N1 _ List.mem_cons_self).1 rfl (fun c z => by cases z) fun h₂ hso k₂ => ?_
  -- the super object is new
  have oxL : ∀ p ∈ [(xA, excObj C t0 none .none)], p.1 < h₁.objs.size := fun p hp => Heap.lt_size (N1 p hp).1
  obtain ⟨F2, N2, _⟩ := PySem.W.ks_newsPush (s := { s with heap := h₁, toks := s.toks + 2 }) F1 N1 rfl hso k₂
  have I2 : PySem.W.InstAt h₂ xA (excObj C t0 none .none) C none := ⟨(N2 _ (.tail _ (.head _))).1, rfl, rfl, trivial⟩
  refine PySem.W.kxs_method (s := { s with heap := h₂, toks := s.toks + 2 }) PySem.W.kxs_Exception F2 XG N2 (.head _) I2 T.tp T.supI T.exE (by decide) fun u h₃ F3 N3 lu => ?_
  refine PySem.W.kxs_callWith1 (i := "Exception.__init__") (x := xA) N3 (.head _) ?_ rfl rfl
  refine PyProof.Rows.args_cons (Constant_str (PyProof.Rows.args_nil ⟨PySem.W.kxs_at N3 (.head _), ?_⟩)) rfl
  have nex : ∀ p ∈ ([] : List (Addr × Obj)), p.1 ≠ xA := fun _ h => nomatch h
  have sox : s.heap.objs.size ≤ h₁.objs.size := Nat.le_of_lt hns.lt
  have nso : h₁.objs.size ≠ xA := Nat.ne_of_gt (Nat.lt_of_lt_of_le hxL sox)
  have nu : u ≠ xA := Nat.ne_of_gt (lu (xA, excObj C t0 none .none) (.tail _ (.head _)))
  have X3 : K.In h₃ := XG.keeps F3.keep
  refine PySem.W.kxs_call (s := { s with heap := h₃, toks := _ }) (i := "Exception.__init__") F3 XG N3 F.excBase_Exception T.exi (.head _) (.tail nu (.tail nso (.head nex))) (by rw [sizeLine_eq]; exact (by decide : 1 ≤ 16777216)) fun t1 h₄ F4 N4 lt1 => ?_
  -- self.f = f
  refine ks_wpAt_execs_cons (ks_wpAt_Assign_Attr (wpAt_of_wpAny (wpAny_Name (wpAny_loadName_local rfl FO.fld F4.ns mf ?_) FO.dbg)) (FO.asg ..))
  refine wpAny_Name (wpAny_loadName_local rfl FO.self F4.ns mself ?_) (by decide)
  have nt1 : t1 ≠ xA := Nat.ne_of_gt (lt1 (xA, excObj C t0 none .none) (.tail _ (.tail _ (.head _))))
  refine PySem.W.set_exc0 (s := { s with heap := h₄, toks := _ }) F.store_Exception F4 XG N4 (.tail _ (.tail _ (.tail _ (.head _)))) T.sa T.over T.tk T.hd rfl (.tail nt1 (.tail nu (.tail nso (.head nex)))) (by show 1 ≤ 1000; decide) fun dx h₅ F5 N5 ltd => ?_
  show _root_.PySem.wpAt _ _ _ (execs [] _) _ _ _
  refine wpAt_of_wpAny (wpAny_execs_nil ?_)
  have ndx : dx ≠ xA := Nat.ne_of_gt (ltd (xA, excObj C t1 none .none) (.tail _ (.tail _ (.tail _ (.head _)))))
  refine hq h₅ _ dx t1 ⟨fun b o hb q => ?_, (N5 _ (.tail _ (.tail _ (.tail _ (.tail _ (.head _)))))).1, ?_, ndx, ns1_one (N5 _ (.head _)).1⟩
  · exact F5.keep b o (by rw [hG]; exact hideAll_get _ q fun hm => hb (List.mem_singleton.mp hm))
  · have z := ltd (h₁.objs.size, ks_superObj C xA C) (.tail _ (.tail _ (.head _)))
    exact Nat.le_of_lt (Nat.lt_of_le_of_lt sox z)

/-- a made error -/
structure BadMade (h h' : Heap) (f : Str) (e C d : Addr) (v : Value) : Prop where
  keep : ∀ b o, h.get? b = some o → h'.get? b = some o
  new : h.objs.size ≤ e
  obj : ∃ oe vs, h'.get? e = some oe ∧ oe.cls = .ref C ∧ oe.dict = some d ∧ oe.data = .fields vs ∧ vs[1]? = some .none
  dbig : h.objs.size ≤ d
  dne : d ≠ e
  ns : h'.Ns1 d (fun y => if y = f then some v else none)
theorem bad_made {v : Value} (T : BadT P K mg x f C fI cc cda) (FO : FldOk f) (X : K.In s.heap) (M : Mod K mg base) (kb : ∀ b o, base.get? b = some o → s.heap.get? b = some o) (hlim : s.heap.NoLimit) (hroom : A.depth + 1 < recursionLimit)
    (hq : ∀ h' tk e d, BadMade s.heap h' f e C d v → R (.ok (.ret (.ref e))) { s with heap := h', toks := tk }) :
    codeAny (model P w) A (.call (.ref C) ⟨[v], []⟩) R s := by
  obtain ⟨nm, N', qn, bs, bm, hdct, sn, sub, ab, col, dd, k0, k1, k2, k3, k5, hC, hT⟩ := PySem.W.excInit_of X T.exi
  obtain ⟨oI, hoI, hcI⟩ : ∃ oI, s.heap.get? fI = some oI ∧ oI.cls = .type "function" := by
    obtain ⟨o, ho, hc⟩ := Option.map_eq_some_iff.mp (show (K.lookup fI).map (·.cls) = some (.type "function") from beq_iff_eq.mp T.fnI)
    exact ⟨o, X _ _ ho, hc⟩
  obtain ⟨hp, g, dr, tk, os⟩ := s
  have k : ∀ b o, hp.get? b = some o → ((hp.push (PySem.W.kdv_tup [v])).push (PySem.PX.excO C hp.objs.size)).get? b = some o := fun b o e => Heap.get?_push_of_some _ (Heap.get?_push_of_some _ e)
  have hget : ((hp.push (PySem.W.kdv_tup [v])).push (PySem.PX.excO C hp.objs.size)).get? (hp.objs.size + 1) = some (PySem.PX.excO C hp.objs.size) := by heap_get
  have new : ∀ {b : Addr}, hp.objs.size ≤ b → hp.get? b = none := fun h => Heap.get?_none_of_le h
  have hnx : K.lookup (hp.objs.size + 1) = none := by
    cases e : K.lookup (hp.objs.size + 1) with
    | none => rfl
    | some o =>
      have z := X _ _ e
      rw [new (Nat.le_succ _)] at z
      cases z
  have hbx : base.get? (hp.objs.size + 1) = none := by
    cases e : base.get? (hp.objs.size + 1) with
    | none => rfl
    | some o =>
      have z := kb _ _ e
      rw [new (Nat.le_succ _)] at z
      cases z
  refine PySem.PX.call_own F.excBase_Exception hT hC (PySem.W.looks_findIn X T.iC) (fun self => PySem.W.exc_bind hoI hcI self) (by rw [sizeLine_eq]; exact (by decide : 1 ≤ 16777216)) ?_
  refine bad_init (s := ⟨(hp.push (PySem.W.kdv_tup [v])).push (PySem.PX.excO C hp.objs.size), g, dr, tk, os⟩) T FO (X.keeps k) M (fun b o q => k b o (kb b o q)) (hlim.keeps k) hget hnx hbx ?_ fun h' tk' dx t1 B => ?_
  · show A.depth + 1 < recursionLimit
    exact hroom
  · refine ⟨rfl, hq h' tk' (hp.objs.size + 1) dx ⟨fun b o e => B.keep b o (Nat.ne_of_lt (Nat.lt_succ_of_lt (Heap.lt_size e))) (k b o e), Nat.le_succ _, ⟨_, _, B.obj, rfl, rfl, rfl, rfl⟩, ?_, B.dne, B.ns⟩⟩
    have z : ((hp.push (PySem.W.kdv_tup [v])).push (PySem.PX.excO C hp.objs.size)).objs.size ≤ dx := B.dbig
    rw [Heap.size_push, Heap.size_push] at z
    exact Nat.le_trans (Nat.le_trans (Nat.le_succ _) (Nat.le_succ _)) z
end

theorem relO_one {f : Str} {v : V} {v' : Value} (r : RelV v v') (g : Str) : RelO (List.lookup g [(f, v)]) (if g = f then some v' else none) := by
  by_cases hw : g = f
  · subst hw
    rw [if_pos rfl, List.lookup_cons, beq_self_eq_true]
    exact r
  · rw [if_neg hw, List.lookup_cons, beq_eq_false_iff_ne.mpr hw]
    trivial
section
variable {X : Cx} {x f : Str} {C fI cc cda : Addr}
/-- C(e): the error's class and its new own dict -/
def tMkBad (f : Str) (C : Addr) (ta : TA) : L2.St → Hp → XK → Prop := fun σ H Q => ta σ H fun vs H1 => ∃ v, vs = [v] ∧ ∀ d, H1 d = none → Q (.ref C) (some d) (upd H1 d (.xd [(f, v)]))
theorem pmk_bad {a : Expr} {ta : TA} {p pos : Pos} {k : Nat} (T : BadT X.prog X.K X.mg x f C fI cc cda) (FO : FldOk f) (hr : Room k X.A) (ha : PA X [a] ta) (hg : Gl X x) (hx : (x == ("__debug__" : Str)) = false := by decide)
    (he : starEach (a :: []) X.env = (false, eval a X.env) :: starEach [] X.env := by rfl) (hpl : (backTo pos (starEach [] X.env)).any (·.1) = false := by rfl) :
    PMk X (.Call (.Name x p) [a] [] pos) (tMkBad f C ta) := by
  intro pins s σ H Q I h
  refine wpAny_Call_Name_kw (ld_glob I hg T.gC ?_ hx)
  refine PySem.W.callWith_K (h₀ := X.base) I.ok.mod.kin T.kC (thn (ha.run pos pins s σ H _ I h) fun us s1 hh => ?_) he hpl
  obtain ⟨vs, H1, I1, r1, v, ev, q1⟩ := hh
  subst ev
  refine ⟨I1.kIn, ?_⟩
  obtain ⟨v', rfl, rv⟩ := r1.one
  show wpAny _ _ (call (.ref C) [v']) _ _ _
  have hlim := I1.nolimit
  have kb := I1.bk
  obtain ⟨hp, g, dr, tk, os⟩ := s1
  refine wpAny_call (bad_made T FO I1.kIn I1.mod kb hlim (by have := hr.dp; omega) fun h' tk' e d M => ?_)
  show MkP X pins σ Q (.ref e) ⟨h', g, dr, tk', os⟩
  obtain ⟨oe, fv, hoe, hc, hd, hdat, h1⟩ := M.obj
  have hns := M.ns
  obtain ⟨G', g1, g2⟩ := restrict h' fun b => decide (b ≠ e)
  have gk : ∀ b, b ≠ e → G'.get? b = h'.get? b := fun b hb => g1 b (decide_eq_true hb)
  have ge : G'.get? e = none := g2 e (by simp)
  have old : ∀ b o, hp.get? b = some o → G'.get? b = some o := fun b o q => (gk b (Nat.ne_of_lt (Nat.lt_of_lt_of_le (Heap.lt_size q) M.new))).trans (M.keep b o q)
  have ob : ObjOk X.prog X.w (upd H1 d (.xd [(f, v)])) G' d (.xd [(f, v)]) :=
    ⟨_, hns.at (fun o q => (gk d M.dne).trans q), fun y => relO_one rv y⟩
  have J : Inv X pins σ (upd H1 d (.xd [(f, v)])) ⟨G', g, dr, tk', os⟩ := I1.laid (t' := tk') old M.dbig ob
  refine ⟨e, oe, fv, ⟨G', g, dr, tk', os⟩, _, .ref C, some d, rfl, J, fun b o q => ?_, ge, hoe, ⟨hc, hd⟩, hdat, h1, ?_, rfl, I1.bare, raises_own T.exC T.tyC, q1 d (I1.hok.fresh M.dbig)⟩
  · by_cases hb : b = e
    · have q' : G'.get? b = some o := q
      rw [hb, ge] at q'; cases q'
    · exact (gk b hb).symm.trans q
  · rw [upd_ne (Ne.symm M.dne)]
    exact I1.hok.fresh M.new
end
end MC
end
section
set_option Elab.async false
set_option linter.all false
set_option maxRecDepth 100000
set_option maxHeartbeats 4000000
/-! The head, 1: the Hook, widened by own errors and one more Bool. -/
namespace MC
open PySem PySem.Spec PyProof.Rows L2
def frM (g : Addr → Option Obj) (n : Nat) : PySem.W.Frag := He.frG g (cStatics :: He.asD g n)
theorem frM_in {h : Heap} {n : Nat} : (frM h.get? n).In h := fun _ _ e => He.frG_at _ e
/-- an error's __init__ as it was written -/
abbrev BadW : Type := Option (Str × Arguments × FuncBody × Scope × Addr × List Str × Addr)
def badW (K : PySem.W.Frag) (x : Str) : BadW := match K.lookup (He.ma K (He.ga K x) "__init__") with
  | some ⟨_, _, .func fd, _⟩ => some (fd.name, fd.params, fd.body, fd.scope, fd.globals, fd.closure.map (·.1), fd.builtins)
  | _ => none
def badV (st : Stmt) : BadW := some ("__init__", defArgs st, .stmts (defBody st), defScope st, mainGlobals, ["__class__"], builtinsNs)
def cellB (K : PySem.W.Frag) (cc C : Addr) : Bool := match K.lookup cc with
  | some ⟨_, _, .cell (some (.ref D)), _⟩ => decide (D = C)
  | _ => false
def fileB (K : PySem.W.Frag) (P : Program) (cda : Addr) : Bool := match K.lookup cda with
  | some ⟨_, _, .fields vs, _⟩ => (match (vs[2]? : Option Value) with
    | some (.str file _) => (P.main.file : Str) == file
    | _ => false)
  | _ => false
def initM (K : PySem.W.Frag) (P : Program) (C : Addr) (q : Str) (dV kV : Value) (cl : List (Str × Addr)) (cdv : Value) : Bool := match dV, kV, cl, cdv with
  | .none, .none, [(_, cc)], .ref cda => PySem.W.codeIn K (.ref cda) q && (cellB K cc C && fileB K P cda)
  | _, _, _, _ => false
theorem initM_ok {K : PySem.W.Frag} {P : Program} {C : Addr} {q : Str} {dV kV : Value} {cl : List (Str × Addr)} {cdv : Value} (h : initM K P C q dV kV cl cdv = true) :
    dV = .none ∧ kV = .none ∧ ∃ z cc cda, cl = [(z, cc)] ∧ cdv = .ref cda ∧ PySem.W.codeIn K (.ref cda) q = true ∧ cellB K cc C = true ∧ fileB K P cda = true := by
  unfold initM at h
  split at h
  · rename_i z cc cda
    obtain ⟨k1, k2⟩ := He.ba h
    obtain ⟨k3, k4⟩ := He.ba k2
    exact ⟨rfl, rfl, z, cc, cda, rfl, rfl, k1, k3, k4⟩
  · cases h
def initB (K : PySem.W.Frag) (P : Program) (C fI : Addr) : Bool := match K.lookup fI with
  | some ⟨_, _, .func fd, _⟩ => initM K P C fd.qualname fd.defaults fd.kwdefaults fd.closure fd.code
  | _ => false
def badB (K : PySem.W.Frag) (P : Program) (x f : Str) : Bool :=
  PySem.W.keepIn K (.ref (He.ga K x)) && (PySem.W.excInitIn K (He.ga K x) bmE "Exception.__new__" && (PySem.W.excOver K (He.ga K x) bmE && (He.eqO (PySem.W.findIn K (.ref (He.ga K x)) "__init__") (some (some (.ref (He.ma K (He.ga K x) "__init__")))) &&
  (PySem.W.isFn K (.ref (He.ma K (He.ga K x) "__init__")) && (initB K P (He.ga K x) (He.ma K (He.ga K x) "__init__") && ((PySem.W.clsIn K (He.ga K x)).isSome && (decide (PySem.W.mroIn K (He.ga K x) (.ref (He.ga K x)) = some true) &&
  (He.eqO (PySem.W.ks_superIn K (He.ga K x) (He.ga K x) "__init__") (some (some (.builtin "Exception.__init__"))) && (decide (PySem.W.subIn K (.ref (He.ga K x)) (.type "Exception") = some true) && (He.eqO (PySem.W.nsIn K cStatics "thirdparty.any") (some none) &&
  (He.eqO (PySem.W.findIn K (.ref (He.ga K x)) "__setattr__") (some (some (.builtin "object.__setattr__"))) && (He.eqO (PySem.W.takerIn K (He.ga K x) f) (some none) && (PySem.W.hasDictIn K (He.ga K x) && (decide (PySem.W.subIn K (.ref (He.ga K x)) (.type "BaseException") = some true) &&
  (decide (PySem.W.typeIn K (.ref (He.ga K x)) = some (.type "type")) && (xfB K (He.ga K x) && He.eqO (PySem.W.findIn K (.ref (He.ga K x)) f) (some none)))))))))))))))))
theorem badT_of {P : Program} {K : PySem.W.Frag} {mg : Str → Option Value} {x f tx : Str} {r1 r2 p0 p1 p2 p3 p4 p5 q1 q2 q3 q4 : Pos} (hx : mg x = some (.ref (He.ga K x))) (hs : mg "super" = none) (ht : (P.main.scope.names.lookup ("super" : Str)).isSome = false)
    (ew : badW K x = (some ("__init__", bdA f r1 r2, .stmts (bdB f tx p0 p1 p2 p3 p4 p5 q1 q2 q3 q4), bdS f, mainGlobals, ["__class__"], builtinsNs) : BadW)) (c : badB K P x f = true) (ce : ∀ a cc cda, CallEq f tx a cc cda p0 p1 p2 p3 p4) :
    ∃ fI cc cda, BadT P K mg x f (He.ga K x) fI cc cda := by
  obtain ⟨h1, c⟩ := He.ba c
  obtain ⟨h2, c⟩ := He.ba c
  obtain ⟨h3, c⟩ := He.ba c
  obtain ⟨h4, c⟩ := He.ba c
  obtain ⟨h5, c⟩ := He.ba c
  obtain ⟨h6, c⟩ := He.ba c
  obtain ⟨h7, c⟩ := He.ba c
  obtain ⟨h8, c⟩ := He.ba c
  obtain ⟨h9, c⟩ := He.ba c
  obtain ⟨h10, c⟩ := He.ba c
  obtain ⟨h11, c⟩ := He.ba c
  obtain ⟨h12, c⟩ := He.ba c
  obtain ⟨h13, c⟩ := He.ba c
  obtain ⟨h14, c⟩ := He.ba c
  obtain ⟨h15, c⟩ := He.ba c
  obtain ⟨h16, c⟩ := He.ba c
  obtain ⟨h17, h18⟩ := He.ba c
  unfold badW at ew
  unfold initB at h6
  cases q : K.lookup (He.ma K (He.ga K x) "__init__") with
  | none =>
    rw [q] at h6
    cases h6
  | some o =>
    obtain ⟨oc, od, dt, osl⟩ := o
    rw [q] at h6 ew
    cases dt with
    | func fd =>
      obtain ⟨n1, n2, n3, n4, n5, n6, n7, n8, n9, n10, n11, n12, n13, n14, n15⟩ := fd
      have e2 : (some (n1, n3, n4, n5, n6, n7.map (·.1), n15) : BadW) = (some ("__init__", bdA f r1 r2, .stmts (bdB f tx p0 p1 p2 p3 p4 p5 q1 q2 q3 q4), bdS f, mainGlobals, ["__class__"], builtinsNs) : BadW) := ew
      simp only [Option.some.injEq, Prod.mk.injEq] at e2
      obtain ⟨g1, g2, g3, g4, g5, g6, g7⟩ := e2
      subst g1 g2 g3 g4 g5 g7
      obtain ⟨rfl, rfl, z, cc, cda, rfl, rfl, k1, k3, k4⟩ := initM_ok (show initM K P (He.ga K x) n2 n8 n9 n7 n13 = true from h6)
      have ez : z = "__class__" := by
        have g6' : [z] = ([("__class__" : Str)] : List Str) := g6
        injection g6'
      subst ez
      refine ⟨_, cc, cda, ⟨hx, hs, h1, h2, h3, He.eqO_ok h4, h5, ⟨oc, od, n10, n11, n14, n12, osl, n2, tx, r1, r2, p0, p1, p2, p3, p4, p5, q1, q2, q3, q4, q, k1, ce _ _ _⟩, ?_, ?_, ht, Option.isSome_iff_exists.mp h7, of_decide_eq_true h8, He.eqO_ok h9, of_decide_eq_true h10, He.eqO_ok h11, He.eqO_ok h12, He.eqO_ok h13, h14, of_decide_eq_true h15, of_decide_eq_true h16, xfB_ok h17, He.eqO_ok h18⟩⟩
      · unfold cellB at k3
        split at k3
        · rename_i cl cld D csl hl
          rw [of_decide_eq_true k3] at hl
          exact ⟨cl, cld, csl, hl⟩
        · cases k3
      · unfold fileB at k4
        split at k4
        · rename_i ccl cdd vs ccs hl
          split at k4
          · rename_i file tf hv
            exact ⟨ccl, cdd, vs, ccs, file, tf, hl, hv, k4⟩
          · cases k4
        · cases k4
    | _ => cases h6
/-- a method that can be taken as a value; a table's values -/
def bmB (K : PySem.W.Frag) (x m : Str) : Bool := He.eqO (PySem.W.specialIn K (.ref (He.ma K (He.ga K x) m)) "__get__") (some (some (.builtin "function.__get__"))) && (decide (PySem.W.takesIn K (.ref (He.ma K (He.ga K x) m)) = some false) && PySem.W.fnIn K (He.ma K (He.ga K x) m))
theorem bmB_ok {K : PySem.W.Frag} {x m : Str} (mt : Meth K (He.ga K x) m (He.ma K (He.ga K x) m)) (hc : PySem.W.copiedNames.contains m = false) (h : bmB K x m = true) : BMeth K (He.ga K x) m (He.ma K (He.ga K x) m) := by
  obtain ⟨h1, h⟩ := He.ba h
  obtain ⟨h2, h3⟩ := He.ba h
  exact ⟨mt, He.eqO_ok h1, of_decide_eq_true h2, hc, h3⟩
def shB (K : PySem.W.Frag) (z : Str) (i : Int) : Bool := match PySem.W.nsIn K (He.ga K "SHAPES") z with
  | some (some (.int j _)) => decide (j = i)
  | _ => false
theorem shB_ok {K : PySem.W.Frag} {z : Str} {i : Int} (h : shB K z i = true) : ∃ t, PySem.W.nsIn K (He.ga K "SHAPES") z = some (some (.int i t)) := by
  unfold shB at h
  split at h
  · rename_i j t e
    rw [of_decide_eq_true h] at e
    exact ⟨t, e⟩
  · cases h
/-! ### the Hook -/
abbrev AlM : Type := He.AlT × Bool × List BadW
def obsM (n : Nat) (fa : List He.Fa) (fn : List He.DefD) (ts : List He.Tab) (ex : PySem.W.Frag → Bool) (xs : List Str) (g : Addr → Option Obj) : AlM := (He.obsT fa fn ts (frM g n), ex (frM g n), xs.map (badW (frM g n)))
def valM (fn : List He.DefD) (ts : List He.Tab) (sts : List Stmt) (w : World) : AlM := (He.valT fn ts w, true, sts.map badV)
def hookM (n : Nat) (fa : List He.Fa) (fn : List He.DefD) (ts : List He.Tab) (ex : PySem.W.Frag → Bool) (xs : List Str) (sts : List Stmt) : PySem.W.Hook where
  α := AlM
  obs := fun s => obsM n fa fn ts ex xs s.heap.get?
  val := fun w => valM fn ts sts w
  says := fun w h => ∃ K : PySem.W.Frag, K.In h ∧ He.SaysT fa fn ts w K ∧ ex K = true ∧ xs.map (badW K) = sts.map badV
  of := fun _ _ e => ⟨_, frM_in, congrArg (fun z : AlM => z.1) e, congrArg (fun z : AlM => z.2.1) e, congrArg (fun z : AlM => z.2.2) e⟩
  keeps := fun _ _ _ ⟨K, hK, c⟩ k => ⟨K, PySem.W.Frag.In.keeps hK k, c⟩
theorem obsM_eq {n : Nat} {fa : List He.Fa} {fn : List He.DefD} {ts : List He.Tab} {ex : PySem.W.Frag → Bool} {xs : List Str} {sts : List Stmt} {g : Addr → Option Obj} {s : Shared} (h : ∀ a, g a = s.heap.get? a) : obsM n fa fn ts ex xs g = (hookM n fa fn ts ex xs sts).obs s := by
  have e : g = s.heap.get? := funext h
  rw [e] <;> rfl
end MC
end
section
set_option Elab.async false
set_option linter.all false
set_option maxRecDepth 100000
set_option maxHeartbeats 0
/-! The head, 2: facts by names (a Hook), the kernel's run. Printed by gen_fin.py. -/
namespace MC
open PySem PySem.Spec PyProof.Rows L2
def dIsWhole : He.DefD := ⟨("is_whole", none), "is_whole", "is_whole", defArgs sIsWhole, defBody sIsWhole, defScope sIsWhole, [], []⟩
def dIsName : He.DefD := ⟨("is_name", none), "is_name", "is_name", defArgs sIsName, defBody sIsName, defScope sIsName, [], []⟩
def dCallInit : He.DefD := ⟨("Call", some "__init__"), "__init__", "Call.__init__", defArgs sCallInit, defBody sCallInit, defScope sCallInit, [], []⟩
def dSceneInit : He.DefD := ⟨("Scene", some "__init__"), "__init__", "Scene.__init__", defArgs sSceneInit, defBody sSceneInit, defScope sSceneInit, [], []⟩
def dSceneOrder : He.DefD := ⟨("Scene", some "order"), "order", "Scene.order", defArgs sSceneOrder, defBody sSceneOrder, defScope sSceneOrder, [], []⟩
def dSceneRank : He.DefD := ⟨("Scene", some "rank"), "rank", "Scene.rank", defArgs sSceneRank, defBody sSceneRank, defScope sSceneRank, [], []⟩
def dSeatsInit : He.DefD := ⟨("Seats", some "__init__"), "__init__", "Seats.__init__", defArgs sSeatsInit, defBody sSeatsInit, defScope sSeatsInit, [], []⟩
def dSeatsSit : He.DefD := ⟨("Seats", some "sit"), "sit", "Seats.sit", defArgs sSeatsSit, defBody sSeatsSit, defScope sSeatsSit, [], []⟩
def dSeatsHasRoom : He.DefD := ⟨("Seats", some "has_room"), "has_room", "Seats.has_room", defArgs sSeatsHasRoom, defBody sSeatsHasRoom, defScope sSeatsHasRoom, [], []⟩
def dSeatsWaysFrom : He.DefD := ⟨("Seats", some "ways_from"), "ways_from", "Seats.ways_from", defArgs sSeatsWaysFrom, defBody sSeatsWaysFrom, defScope sSeatsWaysFrom, [], []⟩
def dSeatsAdd : He.DefD := ⟨("Seats", some "add"), "add", "Seats.add", defArgs sSeatsAdd, defBody sSeatsAdd, defScope sSeatsAdd, [], []⟩
def dKeptInit : He.DefD := ⟨("Kept", some "__init__"), "__init__", "Kept.__init__", defArgs sKeptInit, defBody sKeptInit, defScope sKeptInit, [], []⟩
def dMovesInit : He.DefD := ⟨("Moves", some "__init__"), "__init__", "Moves.__init__", defArgs sMovesInit, defBody sMovesInit, defScope sMovesInit, [], []⟩
def dMovesCost : He.DefD := ⟨("Moves", some "cost"), "cost", "Moves.cost", defArgs sMovesCost, defBody sMovesCost, defScope sMovesCost, [], []⟩
def dMovesArcs : He.DefD := ⟨("Moves", some "arcs"), "arcs", "Moves.arcs", defArgs sMovesArcs, defBody sMovesArcs, defScope sMovesArcs, [], []⟩
def dMovesPrices : He.DefD := ⟨("Moves", some "prices"), "prices", "Moves.prices", defArgs sMovesPrices, defBody sMovesPrices, defScope sMovesPrices, [], []⟩
def dMovesRing : He.DefD := ⟨("Moves", some "ring"), "ring", "Moves.ring", defArgs sMovesRing, defBody sMovesRing, defScope sMovesRing, [], []⟩
def dMovesBetter : He.DefD := ⟨("Moves", some "better"), "better", "Moves.better", defArgs sMovesBetter, defBody sMovesBetter, defScope sMovesBetter, [], []⟩
def dReseated : He.DefD := ⟨("reseated", none), "reseated", "reseated", defArgs sReseated, defBody sReseated, defScope sReseated, [], []⟩
def dMovesOf : He.DefD := ⟨("moves_of", none), "moves_of", "moves_of", defArgs sMovesOf, defBody sMovesOf, defScope sMovesOf, [], []⟩
def dLotsOf : He.DefD := ⟨("lots_of", none), "lots_of", "lots_of", defArgs sLotsOf, defBody sLotsOf, defScope sLotsOf, [], []⟩
def dDangerInit : He.DefD := ⟨("Danger", some "__init__"), "__init__", "Danger.__init__", defArgs sDangerInit, defBody sDangerInit, defScope sDangerInit, [], []⟩
def dLotsBelow : He.DefD := ⟨("lots_below", none), "lots_below", "lots_below", defArgs sLotsBelow, defBody sLotsBelow, defScope sLotsBelow, [], []⟩
def dSizeAndRow : He.DefD := ⟨("size_and_row", none), "size_and_row", "size_and_row", defArgs sSizeAndRow, defBody sSizeAndRow, defScope sSizeAndRow, [], []⟩
def dWaysInto : He.DefD := ⟨("ways_into", none), "ways_into", "ways_into", defArgs sWaysInto, defBody sWaysInto, defScope sWaysInto, [], []⟩
def dDangerAt : He.DefD := ⟨("danger_at", none), "danger_at", "danger_at", defArgs sDangerAt, defBody sDangerAt, defScope sDangerAt, [], []⟩
def dDangerFor : He.DefD := ⟨("danger_for", none), "danger_for", "danger_for", defArgs sDangerFor, defBody sDangerFor, defScope sDangerFor, [], []⟩
def dTownInit : He.DefD := ⟨("Town", some "__init__"), "__init__", "Town.__init__", defArgs sTownInit, defBody sTownInit, defScope sTownInit, [], []⟩
def dTownScene : He.DefD := ⟨("Town", some "scene"), "scene", "Town.scene", defArgs sTownScene, defBody sTownScene, defScope sTownScene, [], []⟩
def dTownSettle : He.DefD := ⟨("Town", some "settle"), "settle", "Town.settle", defArgs sTownSettle, defBody sTownSettle, defScope sTownSettle, [], []⟩
def dTownCheck : He.DefD := ⟨("Town", some "check"), "check", "Town.check", defArgs sTownCheck, defBody sTownCheck, defScope sTownCheck, [], []⟩
def dTownBegin : He.DefD := ⟨("Town", some "begin"), "begin", "Town.begin", defArgs sTownBegin, defBody sTownBegin, defScope sTownBegin, [], []⟩
def dTownGo : He.DefD := ⟨("Town", some "go"), "go", "Town.go", defArgs sTownGo, defBody sTownGo, defScope sTownGo, [], []⟩
def dTownEnd : He.DefD := ⟨("Town", some "end"), "end", "Town.end", defArgs sTownEnd, defBody sTownEnd, defScope sTownEnd, [], []⟩
def dTownFall : He.DefD := ⟨("Town", some "fall"), "fall", "Town.fall", defArgs sTownFall, defBody sTownFall, defScope sTownFall, [], []⟩
def dTownRise : He.DefD := ⟨("Town", some "rise"), "rise", "Town.rise", defArgs sTownRise, defBody sTownRise, defScope sTownRise, [], []⟩
def dTownIsSafe : He.DefD := ⟨("Town", some "is_safe"), "is_safe", "Town.is_safe", defArgs sTownIsSafe, defBody sTownIsSafe, defScope sTownIsSafe, [], []⟩
def dCheckDeed : He.DefD := ⟨("check_deed", none), "check_deed", "check_deed", defArgs sCheckDeed, defBody sCheckDeed, defScope sCheckDeed, [], []⟩
def dDoIn : He.DefD := ⟨("do_in", none), "do_in", "do_in", defArgs sDoIn, defBody sDoIn, defScope sDoIn, [], []⟩
def dTownLine : He.DefD := ⟨("town_line", none), "town_line", "town_line", defArgs sTownLine, defBody sTownLine, defScope sTownLine, [], []⟩
def dDeedOf : He.DefD := ⟨("deed_of", none), "deed_of", "deed_of", defArgs sDeedOf, defBody sDeedOf, defScope sDeedOf, [], []⟩
def dTownDeeds : He.DefD := ⟨("town_deeds", none), "town_deeds", "town_deeds", defArgs sTownDeeds, defBody sTownDeeds, defScope sTownDeeds, [], []⟩
def dTownJournalInit : He.DefD := ⟨("TownJournal", some "__init__"), "__init__", "TownJournal.__init__", defArgs sTownJournalInit, defBody sTownJournalInit, defScope sTownJournalInit, [], []⟩
def dTownJournalDo : He.DefD := ⟨("TownJournal", some "do"), "do", "TownJournal.do", defArgs sTownJournalDo, defBody sTownJournalDo, defScope sTownJournalDo, [], []⟩
def dTownJournalSync : He.DefD := ⟨("TownJournal", some "sync"), "sync", "TownJournal.sync", defArgs sTownJournalSync, defBody sTownJournalSync, defScope sTownJournalSync, [], []⟩
def dTownJournalFallen : He.DefD := ⟨("TownJournal", some "fallen"), "fallen", "TownJournal.fallen", defArgs sTownJournalFallen, defBody sTownJournalFallen, defScope sTownJournalFallen, [], []⟩
def dMapInit : He.DefD := ⟨("Map", some "__init__"), "__init__", "Map.__init__", defArgs sMapInit, defBody sMapInit, defScope sMapInit, [], []⟩
def dMapNextZones : He.DefD := ⟨("Map", some "next_zones"), "next_zones", "Map.next_zones", defArgs sMapNextZones, defBody sMapNextZones, defScope sMapNextZones, [], []⟩
def dMapReach : He.DefD := ⟨("Map", some "reach"), "reach", "Map.reach", defArgs sMapReach, defBody sMapReach, defScope sMapReach, [], []⟩
def dMapUpMasts : He.DefD := ⟨("Map", some "up_masts"), "up_masts", "Map.up_masts", defArgs sMapUpMasts, defBody sMapUpMasts, defScope sMapUpMasts, [], []⟩
def dMapRoom : He.DefD := ⟨("Map", some "room"), "room", "Map.room", defArgs sMapRoom, defBody sMapRoom, defScope sMapRoom, [], []⟩
def dLnumber : He.DefD := ⟨("_law_number", none), "_law_number", "_law_number", defArgs sLnumber, defBody sLnumber, defScope sLnumber, [], []⟩
def dLtake : He.DefD := ⟨("_law_take", none), "_law_take", "_law_take", defArgs sLtake, defBody sLtake, defScope sLtake, [], []⟩
def dLpick : He.DefD := ⟨("_law_pick", none), "_law_pick", "_law_pick", defArgs sLpick, defBody sLpick, defScope sLpick, [], []⟩
def dLmasts : He.DefD := ⟨("_law_masts", none), "_law_masts", "_law_masts", defArgs sLmasts, defBody sLmasts, defScope sLmasts, [], []⟩
def dLheard : He.DefD := ⟨("_law_heard", none), "_law_heard", "_law_heard", defArgs sLheard, defBody sLheard, defScope sLheard, [], []⟩
def dLtown : He.DefD := ⟨("_law_town", none), "_law_town", "_law_town", defArgs sLtown, defBody sLtown, defScope sLtown, [], []⟩
def dLtold : He.DefD := ⟨("_law_told", none), "_law_told", "_law_told", defArgs sLtold, defBody sLtold, defScope sLtold, [], []⟩
def dLwish : He.DefD := ⟨("_law_wish", none), "_law_wish", "_law_wish", defArgs sLwish, defBody sLwish, defScope sLwish, [], []⟩
def dLaw : He.DefD := ⟨("law", none), "law", "law", defArgs sLaw, defBody sLaw, defScope sLaw, [], []⟩
def fn : List He.DefD := [dIsWhole, dIsName, dCallInit, dSceneInit, dSceneOrder, dSceneRank, dSeatsInit, dSeatsSit, dSeatsHasRoom, dSeatsWaysFrom, dSeatsAdd, dKeptInit, dMovesInit, dMovesCost, dMovesArcs, dMovesPrices, dMovesRing, dMovesBetter, dReseated, dMovesOf, dLotsOf, dDangerInit, dLotsBelow, dSizeAndRow, dWaysInto, dDangerAt, dDangerFor, dTownInit, dTownScene, dTownSettle, dTownCheck, dTownBegin, dTownGo, dTownEnd, dTownFall, dTownRise, dTownIsSafe, dCheckDeed, dDoIn, dTownLine, dDeedOf, dTownDeeds, dTownJournalInit, dTownJournalDo, dTownJournalSync, dTownJournalFallen, dMapInit, dMapNextZones, dMapReach, dMapUpMasts, dMapRoom, dLnumber, dLtake, dLpick, dLmasts, dLheard, dLtown, dLtold, dLwish, dLaw]
def fa : List He.Fa := [.glo "Call",
  .cls "Call",
  .mkr "Call",
  .noat "Call" "worth",
  .noat "Call" "heard",
  .glo "Scene",
  .cls "Scene",
  .mkr "Scene",
  .noat "Scene" "channels",
  .noat "Scene" "calls",
  .meth "Scene" "order",
  .meth "Scene" "rank",
  .glo "Seats",
  .cls "Seats",
  .mkr "Seats",
  .noat "Seats" "scene",
  .noat "Seats" "seating",
  .noat "Seats" "seated",
  .meth "Seats" "sit",
  .meth "Seats" "has_room",
  .meth "Seats" "ways_from",
  .meth "Seats" "add",
  .glo "Kept",
  .cls "Kept",
  .mkr "Kept",
  .noat "Kept" "lot",
  .noat "Kept" "seating",
  .noat "Kept" "papers",
  .glo "Moves",
  .cls "Moves",
  .mkr "Moves",
  .noat "Moves" "scene",
  .noat "Moves" "before",
  .noat "Moves" "seats",
  .meth "Moves" "cost",
  .meth "Moves" "arcs",
  .meth "Moves" "prices",
  .meth "Moves" "ring",
  .meth "Moves" "better",
  .glo "Danger",
  .cls "Danger",
  .mkr "Danger",
  .noat "Danger" "falls",
  .noat "Danger" "masts",
  .noat "Danger" "ways",
  .glo "Town",
  .cls "Town",
  .mkr "Town",
  .noat "Town" "plan",
  .noat "Town" "most",
  .noat "Town" "down",
  .noat "Town" "places",
  .noat "Town" "seating",
  .noat "Town" "refused",
  .noat "Town" "moved",
  .meth "Town" "scene",
  .meth "Town" "settle",
  .meth "Town" "check",
  .meth "Town" "begin",
  .meth "Town" "go",
  .meth "Town" "end",
  .meth "Town" "fall",
  .meth "Town" "rise",
  .meth "Town" "is_safe",
  .glo "TownJournal",
  .cls "TownJournal",
  .mkr "TownJournal",
  .noat "TownJournal" "town",
  .noat "TownJournal" "text",
  .noat "TownJournal" "loose",
  .noat "TownJournal" "many",
  .meth "TownJournal" "do",
  .meth "TownJournal" "sync",
  .meth "TownJournal" "fallen",
  .glo "Map",
  .cls "Map",
  .mkr "Map",
  .noat "Map" "channels",
  .noat "Map" "heard",
  .noat "Map" "roads",
  .meth "Map" "next_zones",
  .meth "Map" "reach",
  .meth "Map" "up_masts",
  .meth "Map" "room",
  .glo "is_whole",
  .glo "is_name",
  .glo "reseated",
  .glo "moves_of",
  .glo "lots_of",
  .glo "lots_below",
  .glo "size_and_row",
  .glo "ways_into",
  .glo "danger_at",
  .glo "danger_for",
  .glo "check_deed",
  .glo "do_in",
  .glo "town_line",
  .glo "deed_of",
  .glo "town_deeds",
  .glo "_law_number",
  .glo "_law_take",
  .glo "_law_pick",
  .glo "_law_masts",
  .glo "_law_heard",
  .glo "_law_town",
  .glo "_law_told",
  .glo "_law_wish",
  .glo "law",
  .free "len",
  .free "sorted",
  .free "tuple",
  .free "list",
  .free "dict",
  .free "set",
  .free "min",
  .free "sum",
  .free "all",
  .free "str",
  .free "int",
  .free "abs",
  .free "range",
  .free "isinstance",
  .free "bool",
  .free "super",
  .str "LETTERS" "abcdefghijklmnopqrstuvwxyz",
  .str "FIGURES" "0123456789",
  .int "MOST_CHANNELS" 1000,
  .str "FREE" "",
  .glo "SHAPES",
  .glo "BadName",
  .glo "BadCut"]
def ts : List He.Tab := [(fun K => He.ga K "SHAPES", ["begin", "go", "end", "fall", "rise"])]
abbrev prg : Program := (PySem.Challenge.rw_mastcalls_k46_whole_town_cuts).prog
abbrev R : PySem.W.OpenRow := PySem.W.OpenLaw.row PySem.Challenge.rw_mastcalls_k46_whole_town_cuts
def exB (K : PySem.W.Frag) : Bool := badB K prg "BadName" "name" && (badB K prg "BadCut" "place" && (bmB K "Scene" "rank" && (shB K "begin" 3 && (shB K "go" 3 && (shB K "end" 2 && (shB K "fall" 2 && (shB K "rise" 2)))) && (He.eqO (PySem.W.nsIn K (He.ga K "SHAPES") "begn") (some none) && He.eqO (PySem.W.nsIn K (He.ga K "SHAPES") "tick") (some none)))))
def xsB : List Str := ["BadName", "BadCut"]
def stB : List Stmt := [sBadNameInit, sBadCutInit]
abbrev hk : PySem.W.Hook := hookM 5 fa fn ts exB xsB stB
def ob (s : PySem.W.SharedT) : AlM := obsM 5 fa fn ts exB xsB (HandSHeadRun.getT s)
theorem ob_eq (s : PySem.W.SharedT) : ob s = hk.obs s.abs := obsM_eq (HandSHeadRun.getT_eq s)
def loose : List PySem.Str := (["_wall", "CallError", "BadScene", "BadName", "BadCut", "LETTERS", "FIGURES", "MOST_CHANNELS", "is_whole", "is_name", "Call", "Scene", "Seats", "Kept", "FREE", "Moves", "reseated", "moves_of", "lots_of", "Danger"] : List PySem.Str) ++ (["lots_below", "size_and_row", "ways_into", "danger_at", "danger_for", "Town", "SHAPES", "check_deed", "do_in", "town_line", "deed_of", "town_deeds", "TownJournal", "Map", "_law_number", "_law_take", "_law_pick", "_law_masts", "_law_heard", "_law_town", "_law_told", "_law_wish"] : List PySem.Str)
theorem run_f (w : World) : HandSHeadRun.RunEq R (PySem.W.view R.prog [52]) hk ob 9000 loose (w.withFollow "special-get-raises" false) := by
  intro os
  kernel_rfl
theorem run_t (w : World) : HandSHeadRun.RunEq R (PySem.W.view R.prog [52]) hk ob 9000 loose (w.withFollow "special-get-raises" true) := by
  intro os
  kernel_rfl
theorem run (w : World) : HandSHeadRun.RunEq R (PySem.W.view R.prog [52]) hk ob 9000 loose w :=
  PySem.W.byRow2 "special-get-raises" (P := fun w => HandSHeadRun.RunEq R (PySem.W.view R.prog [52]) hk ob 9000 loose w) run_f run_t w
end MC
end
section
set_option Elab.async false
set_option linter.all false
set_option maxRecDepth 100000
set_option maxHeartbeats 4000000
/-! Own rules, 2: a dict display that begins with another dict. -/
namespace MC
open PySem PySem.Spec PyProof.Rows L2
theorem nodup_ix' {α : Type} {l : List α} (hn : l.Nodup) {i j : Nat} {x : α} (a : l[i]? = some x) (b : l[j]? = some x) : i = j := by
  obtain ⟨h1, e1⟩ := List.getElem?_eq_some_iff.mp a
  obtain ⟨h2, e2⟩ := List.getElem?_eq_some_iff.mp b
  exact (List.getElem_inj hn).mp (e1.trans e2.symm)
section
variable {prog : Program} {w : World} {K : Type} [DecidableEq K] {knd : KeyKind prog w K} {A : Around} {E : Value → Shared → Prop} {s : Shared}
/-- a new key is put into a dict -/
theorem put_new {d : Addr} {kvs : List (K × Value)} {k : K} {key v : Value} {Q : Unit → Shared → Prop} (hkey : knd.is k key = true) (hm : s.heap.DictOf knd d kvs) (hnk : k ∉ kvs.map (·.1)) (hsz : kvs.length ≤ sizeLine)
    (hQ : ∀ h', h'.DictOf knd d (kvs ++ [(k, v)]) → Heap.SameBut d s.heap h' → Q () { s with heap := h' }) : wpAny (model prog w) A (dictPut d (knd.hash k) key v) Q E s := by
  obtain ⟨o, es, ep, ho, hc, hd, hk, hp, hn⟩ := hm
  have hes : es.size ≤ sizeLine := by
    have e1 := hp.length
    have e2 : es.toList.length = es.size := by simp
    omega
  unfold dictPut
  refine wpAny_bind (wpAny_dictFind_of hkey ho hd hk ?_)
  have hidx : (es.findIdx? fun e => knd.is k e.key) = none := by
    have q : (es.findIdx? fun e => knd.is k e.key) = kvs.findIdx? fun kv => decide (kv.1 = k) := by
      rw [← hp.findIdx k]
      obtain ⟨l⟩ := es
      simp
    rw [q, List.findIdx?_eq_none_iff]
    intro kv hkv
    exact decide_eq_false fun e => hnk (List.mem_map.mpr ⟨kv, hkv, e⟩)
  rw [hidx]
  refine wpAny_updateDictKeys (hz := hes) ho hd (hQ _ ⟨_, _, ep + 1, Heap.get?_update_self _ ho (Obj.isFreed_of_dict (Obj.data_mapDictKeys hd _)), hc.mapDictKeys _, Obj.data_mapDictKeys hd _, hk.push hkey _, ?_, ?_⟩ (Heap.SameBut.update ..))
  · have := hp.append hkey (knd.hash k) v
    obtain ⟨l⟩ := es
    simpa using this
  · rw [List.map_append, List.nodup_append]
    refine ⟨hn, by simp, fun a ha b hb e => ?_⟩
    simp only [List.map_cons, List.map_nil, List.mem_singleton] at hb
    exact hnk (by rw [← hb, ← e]; exact ha)
/-- a dict whose keys are carried by value is merged into another one that has none of them -/
theorem merge_new {d a : Addr} {kvs more : List (K × Value)} {Q : Unit → Shared → Prop} (hda : d ≠ a) (hS : (a == sysModules) = false) (hm : s.heap.DictOf knd d kvs) (ha : s.heap.DictOf knd a more) (hval : ∀ k v, knd.is k v = true → ∀ b, v ≠ .ref b)
    (hdis : ∀ k ∈ more.map (·.1), k ∉ kvs.map (·.1)) (hsz : kvs.length + more.length ≤ sizeLine)
    (hQ : ∀ h', h'.DictOf knd d (kvs ++ more) → h'.DictOf knd a more → Heap.SameBut d s.heap h' → Q () { s with heap := h' }) : wpAny (model prog w) A (mergeMapping d (.ref a) false) Q E s := by
  have hT : s.TypeIs (.ref a) "dict" := ha.typeIs
  obtain ⟨oa, ea, epa, hoa, hca, hda', hka, hpa, hna⟩ := id ha
  obtain ⟨od, ed, epd, hod, _, hdd, _, _, _⟩ := id hm
  unfold mergeMapping
  have hsub : isSubtype (.type "dict") (.type "dict") = pure true := by
    rw [isSubtype_type]
    kernel_rfl
  have hit := PySem.F.slot_dict_iter.lookup
  repeat (first | (with_reducible refine wpAny_dictEntries (es := ed) (ep := epd) hod hdd ?_) | (with_reducible refine wpAny_dictEntries (es := ea) (ep := epa) hoa hda' ?_) | (with_reducible refine wpAny_dictEpoch hoa hda' ?_) | wp_step)
  have noref : ∀ e ∈ ea.toList, ∀ b : Addr, e.key ≠ Value.ref b := fun e he b => by
    obtain ⟨k, hk1, _⟩ := hka e (by simpa using he)
    exact hval k _ hk1 b
  have keep : ∀ {h1 : Heap}, Heap.SameBut d s.heap h1 → h1.get? a = some oa := fun {h1} sb => (sb.2 a (Ne.symm hda)).trans hoa
  have tail : ∀ (f : Nat → PUnit → Sem (ForInStep PUnit)) (Q' : PUnit → Shared → Prop), (∀ (i : Nat) (e : DictEntry) (h1 : Heap) (P : ForInStep PUnit → Shared → Prop), ea[i]? = some e → h1.DictOf knd d (kvs ++ more.take i) → Heap.SameBut d s.heap h1 →
      (∀ h2, h2.DictOf knd d (kvs ++ more.take (i + 1)) → Heap.SameBut d s.heap h2 → P (.yield PUnit.unit) { s with heap := h2 }) → wpAny (model prog w) A (f i PUnit.unit) P E { s with heap := h1 }) →
      (∀ h', h'.DictOf knd d (kvs ++ more) → h'.DictOf knd a more → Heap.SameBut d s.heap h' → Q' () { s with heap := h' }) →
      wpAny (model prog w) A (forIn (List.range ea.size) PUnit.unit f) Q' E s := by
    intro f Q' hf hq
    have hlen : more.length = ea.size := by
      have := hpa.length
      simpa using this.symm
    refine wpAny_forIn_list _ (fun (rest : List Nat) (r : PUnit) s' => ∃ (i : Nat) (h1 : Heap), rest = (List.range ea.size).drop i ∧ i ≤ ea.size ∧ s' = { s with heap := h1 } ∧ h1.DictOf knd d (kvs ++ more.take i) ∧ Heap.SameBut d s.heap h1) _ ?_ ?_ _ _
      ⟨0, s.heap, rfl, Nat.zero_le _, rfl, by simpa using hm, ⟨rfl, fun _ _ => rfl⟩⟩
    · rintro x rest r s' ⟨i, h1, er, hi, rfl, hd1, sb1⟩
      have hlt : i < ea.size := by
        rcases Nat.lt_or_ge i ea.size with z | z
        · exact z
        · rw [List.drop_eq_nil_of_le (by rw [List.length_range]; exact z)] at er
          cases er
      rw [List.drop_eq_getElem_cons (by rw [List.length_range]; exact hlt)] at er
      injection er with e1 e2
      rw [List.getElem_range] at e1
      subst e1
      exact hf x ea[x] h1 _ (Array.getElem?_eq_getElem hlt) hd1 sb1 fun h2 hd2 sb2 => ⟨x + 1, h2, e2, hlt, rfl, hd2, sb2⟩
    · rintro r s' ⟨i, h1, er, hi, rfl, hd1, sb1⟩
      have hge : ea.size ≤ i := by
        have q := congrArg List.length er
        simp at q
        omega
      refine hq h1 ?_ ⟨oa, ea, epa, keep sb1, hca, hda', hka, hpa, hna⟩ sb1
      rw [List.take_of_length_le (by omega)] at hd1
      exact hd1
  have turn : ∀ (i : Nat) (e : DictEntry) (h1 : Heap) (P : Unit → Shared → Prop), ea[i]? = some e → h1.DictOf knd d (kvs ++ more.take i) → Heap.SameBut d s.heap h1 →
      (∀ h2, h2.DictOf knd d (kvs ++ more.take (i + 1)) → Heap.SameBut d s.heap h2 → P () { s with heap := h2 }) → wpAny (model prog w) A (dictPut d e.hash e.key e.val) P E { s with heap := h1 } := by
    intro i e h1 P he hd1 sb1 hP
    obtain ⟨k, v, hk1, hk2, hkv, hmi⟩ : ∃ k v, knd.is k e.key = true ∧ e.hash = knd.hash k ∧ e.val = v ∧ more[i]? = some (k, v) := by
      have hlist : ea.toList[i]? = some e := by simpa using he
      have gen : ∀ {es : List DictEntry} {ms : List (K × Value)}, Pairs knd es ms → ∀ {i : Nat}, es[i]? = some e → ∃ k v, knd.is k e.key = true ∧ e.val = v ∧ ms[i]? = some (k, v) := by
        intro es ms hp
        induction hp with
        | nil => intro i hi; simp at hi
        | @cons e0 kv es kvs0 q1 q2 _ ih =>
          intro i hi
          cases i with
          | zero =>
            simp at hi
            subst hi
            exact ⟨kv.1, kv.2, q1, q2, rfl⟩
          | succ i => exact ih (by simpa using hi)
      obtain ⟨k, v, q1, q2, q3⟩ := gen hpa hlist
      obtain ⟨k', q4, q5⟩ := hka e (Array.mem_of_getElem? he)
      have ek : k = k' := knd.inj _ _ _ q1 q4
      subst ek
      exact ⟨k, v, q1, q5, q2, q3⟩
    subst hkv
    rw [hk2]
    have hi := (List.getElem?_eq_some_iff.mp hmi).1
    have htake : more.take (i + 1) = more.take i ++ [(k, e.val)] := by
      rw [List.take_succ, hmi]
      rfl
    refine put_new (s := { s with heap := h1 }) hk1 hd1 ?_ (by rw [List.length_append, List.length_take]; omega) fun h2 hd2 sb2 => hP h2 ?_ ?_
    · rw [List.map_append, List.mem_append]
      rintro (z | z)
      · exact hdis k (List.mem_map.mpr ⟨_, List.mem_of_getElem? hmi, rfl⟩) z
      · obtain ⟨⟨k2, v2⟩, z1, z2⟩ := List.mem_map.mp z
        obtain ⟨j, hj1, hj2⟩ := List.mem_iff_getElem.mp z1
        rw [List.length_take] at hj1
        rw [List.getElem_take] at hj2
        have n1 : (more.map (·.1))[j]? = some k := by
          rw [List.getElem?_map, List.getElem?_eq_getElem (by omega), hj2]
          exact congrArg some z2
        have n2 : (more.map (·.1))[i]? = some k := by
          rw [List.getElem?_map, hmi]
          rfl
        have := nodup_ix' hna n1 n2
        omega
    · rw [htake, ← List.append_assoc]
      exact hd2
    · exact ⟨sb2.1.trans sb1.1, fun b hb => (sb2.2 b hb).trans (sb1.2 b hb)⟩
  have fin : ∀ {f : Sem Unit}, wpAny (model prog w) A f Q E s → wpAny (model prog w) A f Q E s := fun h => h
  have body : ∀ (h1 : Heap) (i : Nat) (e : DictEntry) (P : ForInStep PUnit → Shared → Prop), ea[i]? = some e → h1.DictOf knd d (kvs ++ more.take i) → Heap.SameBut d s.heap h1 →
      (∀ h2, h2.DictOf knd d (kvs ++ more.take (i + 1)) → Heap.SameBut d s.heap h2 → P (.yield PUnit.unit) { s with heap := h2 }) → wpAny (model prog w) A (do
        let es ← dictEntries a
        match es[i]? with
        | some e => do
          holding [e.key, e.val] (dictPut d e.hash e.key e.val)
          let z ← dictEpoch a
          if (z != epa) = true then do
            unsupported "dict.changed-during-merge"
            pure (ForInStep.yield PUnit.unit)
          else pure (ForInStep.yield PUnit.unit)
        | _ => do
          unsupported "dict.changed-during-merge"
          pure (ForInStep.yield PUnit.unit)) P E { s with heap := h1 } := by
    intro h1 i e P he hd1 sb1 hP
    refine wpAny_bind (wpAny_dictEntries (keep sb1) hda' ?_)
    rw [he]
    dsimp only
    refine wpAny_bind (wpAny_holding (turn i e h1 _ he hd1 sb1 fun h2 hd2 sb2 => ?_))
    refine wpAny_bind (wpAny_dictEpoch (keep sb2) hda' ?_)
    rw [if_neg (by simp)]
    exact wpAny_pure (hP h2 hd2 sb2)
  split
  · refine wpAny_bind (wpAny_dictEntries hoa hda' (wpAny_bind ?_))
    rw [← Array.forIn_toList]
    refine wpAny_forIn_list _ (fun (rest : List DictEntry) (r : PUnit) s' => s' = s ∧ ∀ e ∈ rest, ∀ b : Addr, e.key ≠ Value.ref b) _ ?_ ?_ _ _ ⟨rfl, noref⟩
    · rintro e rest r s' ⟨rfl, hall⟩
      have h1 := hall e List.mem_cons_self
      split
      · rename_i b hb
        exact absurd hb (h1 b)
      · exact wpAny_pure ⟨rfl, fun e' he' => hall e' (List.mem_cons_of_mem _ he')⟩
    · rintro r s' ⟨rfl, _⟩
      refine wpAny_bind (wpAny_dictEntries hoa hda' ?_)
      dsimp only
      refine wpAny_bind (wpAny_dictEpoch hoa hda' ?_)
      refine wpAny_bind (tail _ _ (fun i e h1 P he hd1 sb1 hP => ?_) fun h' q1 q2 q3 => wpAny_pure (hQ h' q1 q2 q3))
      exact body h1 i e P he hd1 sb1 hP
  · refine wpAny_bind (wpAny_dictEntries hoa hda' ?_)
    dsimp only
    refine wpAny_bind (wpAny_dictEpoch hoa hda' ?_)
    refine wpAny_bind (tail _ _ (fun i e h1 P he hd1 sb1 hP => ?_) fun h' q1 q2 q3 => wpAny_pure (hQ h' q1 q2 q3))
    exact body h1 i e P he hd1 sb1 hP
end
end MC
end
section
set_option Elab.async false
set_option linter.all false
set_option maxRecDepth 100000
set_option maxHeartbeats 4000000
/-! Own rules, 3: {**d, k: v}. -/
namespace MC
open PySem PySem.Spec PyProof.Rows L2
section
variable {prog : Program} {w : World} {A : Around} {E : Value → Shared → Prop} {s : Shared}
theorem display_star {m k v : Sem Value} {Q : Value → Shared → Prop}
    (h : wpAny (model prog w) A m (fun x s1 => wpAny (model prog w) A (mergeMapping s.heap.objs.size x false) (fun _ s2 => wpAny (model prog w) A (subDict [(k, v)]) (fun sub s3 => wpAny (model prog w) A (mergeMapping s.heap.objs.size (.ref sub) false) (fun _ s4 => Q (.ref s.heap.objs.size) s4) (fun _ _ => False) s3) E s2) (fun _ _ => False) s1) E
      { s with heap := s.heap.push { cls := .type "dict", data := .dict #[] } }) : wpAny (model prog w) A (dictDisplay [(none, m), (some k, v)]) Q E s := by
  unfold dictDisplay
  dsimp only
  rw [List.forIn_cons]
  repeat wp_step
  refine wpAny_mono h (fun x s1 h1 => ?_) fun _ _ e => e
  have up : ∀ {α : Type} {t : Sem α} {R : α → Shared → Prop} {E' : Value → Shared → Prop} {s0 : Shared}, wpAny (model prog w) A t R (fun _ _ => False) s0 → wpAny (model prog w) A t R E' s0 := fun ht => wpAny_mono ht (fun _ _ z => z) fun _ _ z => z.elim
  refine wpAny_bind (wpAny_onRaise (wpAny_tryCatch (wpAny_onRaise (wpAny_holding (up (wpAny_mono h1 (fun _ s2 h2 => ?_) fun _ _ z => z))))))
  refine wpAny_pure ?_
  dsimp only
  rw [List.forIn_cons]
  refine wpAny_bind ?_
  dsimp only
  rw [if_neg (show ¬ ((([] : List (Sem Value × Sem Value)) ++ [(k, v)]).length == 17) = true by simp)]
  refine wpAny_pure ?_
  dsimp only
  rw [List.forIn_nil]
  refine wpAny_pure ?_
  refine wpAny_bind ?_
  dsimp only
  rw [if_neg (show ¬ (([] : List (Sem Value × Sem Value)) ++ [(k, v)]).isEmpty = true by simp)]
  refine wpAny_bind (wpAny_holding (wpAny_mono h2 (fun sub s3 h3 => ?_) fun _ _ e => e))
  refine wpAny_bind (wpAny_onRaise (wpAny_holding (up (wpAny_mono h3 (fun _ s4 h4 => ?_) fun _ _ z => z))))
  exact wpAny_pure (wpAny_pure h4)
end
theorem mix_noref {P : Program} {w : World} (k : Key) (v : Value) (h : (mixKind P w).is k v = true) (b : Addr) : v ≠ .ref b := by
  rcases keyIs_shape (show keyIs k v = true from h) with ⟨i, t, _, rfl⟩ | ⟨x, t, _, rfl⟩ <;> (intro e; cases e)
section
variable {X : Cx} {e k0 v0 : Expr} {te tk tv : TE} {pos : Pos}
theorem carry1 {P : Program} {w : World} {key : Key} {kv zv : Value} (h : (mixKind P w).is key kv = true) : Carries (mixKind P w) [(kv, zv)] [(key, zv)] := by
  first
    | exact ⟨rfl, fun i hi => by simp at hi⟩
    | exact Paired.cons ⟨h, rfl⟩ .nil
    | (simp [Carries, h]; done)
    | (unfold Carries; simp [h]; done)
/-- {**e, k: v}, the key a new one -/
def tDispStar (te tk tv : TE) : TE := fun σ H Q => ∀ d, H d = none → te σ (upd H d (.dK [])) fun x H1 => ∃ a kvs, x = .ref a ∧ H1 a = some (.dK kvs) ∧ a ≠ d ∧ H1 d = some (.dK []) ∧ (kvs.map (·.1)).Nodup ∧ ∀ q, (upd H1 d (.dK kvs)) q = none →
  tk σ (upd (upd H1 d (.dK kvs)) q (.dK [])) fun y H2 => tv σ H2 fun z H3 => ∃ key, y = kV key ∧ H3 d = some (.dK kvs) ∧ H3 q = some (.dK []) ∧ key ∉ kvs.map (·.1) ∧ kvs.length + 1 ≤ sizeLine ∧
    Q (.ref d) (upd (upd H3 q (.dK [(key, z)])) d (.dK (kvs ++ [(key, z)])))
theorem kv_append {as bs : List (Key × V)} {us ws : List (Key × Value)} (r : KV as us) (q : KV bs ws) : KV (as ++ bs) (us ++ ws) := by
  unfold KV at *
  induction r with
  | nil => exact q
  | cons h t ih => exact .cons h ih
theorem pe_dispStar (he : PE X e te) (hk : PE X k0 tk) (hv : PE X v0 tv) : PE X (.Dict [none, some k0] [e, v0] pos) (tDispStar te tk tv) := by
  refine ⟨fun pins s σ H Q I h => ?_⟩
  rw [arm_eval_Dict]
  refine wpAny_bind (wpAny_standAt ?_)
  show wpAny _ _ (dictDisplay [(none, do let x ← eval e X.env; standAt pos; pure x), (some (eval k0 X.env), do let x ← eval v0 X.env; standAt pos; pure x)]) _ _ _
  have hn := I.hok.fresh (Nat.le_refl s.heap.objs.size)
  have I1 := I.laid (a := s.heap.objs.size) (o := .dK []) (h' := s.heap.push { cls := .type "dict", data := .dict #[] }) (t' := s.toks) (fun _ _ q => Heap.get?_push_of_some _ q) (Nat.le_refl _) (dk_empty s.heap I.big)
  refine display_star (wpAny_bind (thn (he.run pins _ σ _ _ I1 (h _ hn)) fun xv s2 ⟨x, H1, I2, rx, a, kvs, ex, ea, nad, ed, nd, h2⟩ => wpAny_bind (wpAny_standAt (wpAny_pure ?_))))
  subst ex
  cases rx
  obtain ⟨za, hda, va, rva, dda⟩ := dk_of I2.hok ea
  obtain ⟨_, hdd, vd, rvd, ddd⟩ := dk_of I2.hok ed
  cases rvd
  refine merge_new (Ne.symm nad) hda ddd dda mix_noref (fun _ _ hh => by simp at hh) (by rw [← rva.length]; simpa using za) fun h3 d3 a3 sb3 => ?_
  have I3 : Inv X pins σ (upd H1 s.heap.objs.size (.dK kvs)) { s2 with heap := h3, toks := s2.toks } :=
    d_write I2 (by rw [ed]; exact True.intro) sb3 (let ⟨q, _, _, hq, _⟩ := d3; ⟨q, hq⟩) (dk_new za hdd rva (by simpa using d3))
  have hn3 := I3.hok.fresh (Nat.le_refl h3.objs.size)
  have I4 := I3.laid (a := h3.objs.size) (o := .dK []) (h' := h3.push { cls := .type "dict", data := .dict #[] }) (t' := s2.toks) (fun _ _ q => Heap.get?_push_of_some _ q) (Nat.le_refl _) (dk_empty h3 I3.big)
  refine wpAny_subDict (knd := mixKind X.prog X.w) (pairs := [(eval k0 X.env, do let x ← eval v0 X.env; standAt pos; pure x)]) (by show 1 ≤ 15; decide) ?_
  refine wpAny_bind (thn (hk.run pins _ σ _ _ I4 (h2 _ hn3)) fun kv s5 ⟨y, H2, I5, ry, h5⟩ => ?_)
  refine wpAny_bind (wpAny_holding (wpAny_bind (thn (hv.run pins _ σ _ _ I5 h5) fun zv s6 ⟨z, H3, I6, rz, key, ey, ed6, eq6, hnk, hz, hq⟩ => wpAny_bind (wpAny_standAt (wpAny_pure ?_)))))
  subst ey
  refine wpAny_bind (wpAny_holding (wpAny_pure (wpAny_pure ?_)))
  obtain ⟨_, hqq, vq, rvq, ddq⟩ := dk_of I6.hok eq6
  cases rvq
  refine ⟨[(key, zv)], carry1 (kV_is ry), ddq, fun h7 d7 sb7 => ?_⟩
  have em : merged [] [(key, zv)] = [(key, zv)] := by simp [merged, stored]
  rw [em] at d7
  have rkv : KV [(key, z)] [(key, zv)] := .cons ⟨rfl, rz⟩ .nil
  have I7 : Inv X pins σ (upd H3 h3.objs.size (.dK [(key, z)])) { s6 with heap := h7, toks := s6.toks + 1 } :=
    d_write I6 (by rw [eq6]; exact True.intro) sb7 (let ⟨q, _, _, hq, _⟩ := d7; ⟨q, hq⟩) (dk_new (by show 1 ≤ sizeLine; decide) hqq rkv d7)
  have ndq : s.heap.objs.size ≠ h3.objs.size := fun c => by
    have q := hn3
    rw [← c, upd_same] at q
    cases q
  have ed7 : (upd H3 h3.objs.size (.dK [(key, z)])) s.heap.objs.size = some (.dK kvs) := by rw [upd_ne ndq]; exact ed6
  have eq7 : (upd H3 h3.objs.size (.dK [(key, z)])) h3.objs.size = some (.dK [(key, z)]) := upd_same
  obtain ⟨z8, hd8, vd8, rv8, dd8⟩ := dk_of I7.hok ed7
  obtain ⟨_, _, vq8, rvq8, ddq8⟩ := dk_of I7.hok eq7
  refine merge_new ndq hqq dd8 ddq8 mix_noref (fun k hk hk2 => ?_) (by rw [← rv8.length, ← rvq8.length]; exact hz) fun h9 d9 q9 sb9 => ?_
  · rw [← rvq8.keys] at hk
    simp only [List.map_cons, List.map_nil, List.mem_singleton] at hk
    rw [← rv8.keys, hk] at hk2
    exact hnk hk2
  · refine ⟨.ref s.heap.objs.size, _, ?_, rfl, hq⟩
    exact d_write (t' := s6.toks + 1) I7 (by rw [ed7]; exact True.intro) sb9 (let ⟨q, _, _, hq, _⟩ := d9; ⟨q, hq⟩) (dk_new (by rw [List.length_append]; exact hz) hd8 (kv_append rv8 rvq8) d9)
end
end MC
end
section
set_option Elab.async false
set_option linter.all false
set_option maxRecDepth 100000
set_option maxHeartbeats 4000000
/-! Own rules, 4: sorted of data of one type, off any source. -/
namespace MC
open PySem PySem.Spec PyProof.Rows L2
open PySem.W (EachIs alike alikeAll AllAlike Sortable dataLe Datum DatumOrd)

/-! ### what collect gathers -/
/-- x is collected into values of xs; nothing that stood is changed -/
def CollV (P : Program) (w : World) (A : Around) (s : Shared) (x : Value) (xs : List V) : Prop := ∀ (Q : List Value → Shared → Prop) (E : Value → Shared → Prop),
  (∀ us h' tk, Vals xs us → (∀ b o, s.heap.get? b = some o → h'.get? b = some o) → Q us { s with heap := h', toks := tk }) → wpAny (model P w) A (collect x) Q E s
section
variable {X : Cx} {pins : List (Addr × Obj)} {σ : L2.St} {H : Hp} {s : Shared} {a : Addr} {A : Around}
theorem coll_list {xs : List V} (I : Inv X pins σ H s) (h : SqL X.K H a xs) : CollV X.prog X.w A s (.ref a) xs := by
  intro Q E hQ
  obtain ⟨its, r, pl, hz⟩ := I.list h
  obtain ⟨o, ho, hc, n, hd⟩ := pl.isList
  have hl := r.length
  refine wpAny_collect_seq a (.inl rfl) ho hc hd (fun h' hk => ?_) (by rw [List.size_toArray]; omega)
  exact hQ _ h' s.toks (by simpa using r) hk
theorem coll_tup {xs : List V} (I : Inv X pins σ H s) (h : SqT X.K H a xs) : CollV X.prog X.w A s (.ref a) xs := by
  intro Q E hQ
  obtain ⟨its, r, ⟨o, ho, hc, n, hd⟩, hz⟩ := I.tuple h
  have hl := r.length
  refine wpAny_collect_seq a (.inr rfl) ho hc hd (fun h' hk => ?_) (by rw [List.size_toArray]; omega)
  exact hQ _ h' s.toks (by simpa using r) hk
theorem coll_dk {kvs : List (Key × V)} (hh : A.handled = none) (I : Inv X pins σ H s) (h : Rd H a (.dK kvs)) : CollV X.prog X.w A s (.ref a) (kvs.map fun kv => kV kv.1) := by
  intro Q E hQ
  obtain ⟨z, lo, vs, rk, hd⟩ := dk_rd I.hok h
  obtain ⟨ep, hat⟩ := hd.dictAt
  have hl : kvs.length = vs.length := Paired.length rk
  refine PySem.W.kdu_collect (PySem.W.kdl_dict (knd := mixKind X.prog X.w) (kvs := vs) (ep := ep) lo) hh hat (by rw [← hl]; exact z) fun h' tk acc hk hacc => ?_
  refine hQ _ _ _ ?_ hk
  have el : acc.toList.length = acc.size := by simp
  refine vals_of_at (by rw [List.length_map, el, hacc.1, hl]) fun j x w h1 h2 => ?_
  obtain ⟨k, y, hky, hi⟩ := hacc.2 j w (by rw [← Array.getElem?_toList]; exact h2)
  have e1 : (kvs.map (·.1))[j]? = some k := by
    rw [KV.keys rk, List.getElem?_map, hky] <;> rfl
  rw [show (kvs.map fun kv => kV kv.1) = (kvs.map (·.1)).map kV by rw [List.map_map] <;> rfl, List.getElem?_map, e1] at h1
  cases h1
  exact keyIs_rel hi
theorem coll_dt {kvs : List (List Key × V)} (hh : A.handled = none) (I : Inv X pins σ H s) (h : Rd H a (.dT kvs)) : ∃ bs, IsKeys H kvs bs ∧ CollV X.prog X.w A s (.ref a) (bs.map V.ref) := by
  obtain ⟨z, hs, ks, pr, o, es, ep, ho, hx, hdt, he, hn⟩ := (show ObjOk X.prog X.w H s.heap a (.dT kvs) from h.ok I.hok)
  have l1 : es.size = ks.length := size_of_entries he
  have l2 : kvs.length = ks.length := Paired.length pr
  refine ⟨ks.map fun x => x.2.1, isKeys_of pr, fun Q E hQ => ?_⟩
  refine PySem.W.kdu_collect (kdl_raw hs hx hdt) hh ho (by omega) fun h' tk acc hk it => ?_
  refine hQ _ _ _ ?_ hk
  have el : acc.toList.length = acc.size := by simp
  refine vals_of_at (by rw [List.length_map, List.length_map, el, it.1]; exact l1.symm) fun j x v h1 h2 => ?_
  obtain ⟨en, hen, hv⟩ := it.2 j v (by rw [← Array.getElem?_toList]; exact h2)
  have qe := entry_at he j
  rw [hen] at qe
  rw [List.getElem?_map, List.getElem?_map] at h1
  cases hb : ks[j]? with
  | none =>
    rw [hb] at h1
    cases h1
  | some b =>
    rw [hb] at h1 qe
    have e2 : en = entryOfKey (tupleKind (mixKind X.prog X.w)) b := Option.some.inj qe
    cases h1
    rw [hv, e2] <;> rfl
end

/-! ### sorted by its two steps -/
section
variable {prog : Program} {w : World} {A : Around} {E : Value → Shared → Prop} {s : Shared}
theorem sorted_coll {x : Value} {xs : List V} {kw : List (Str × Value)} {Q : Value → Shared → Prop} (hc : CollV prog w A.in1 s x xs) (hL : xs.length ≤ sizeLine) (ha1 : argsOk "sorted" ⟨[x], kw⟩)
    (body : ∀ (us : List Value) (h' : Heap) (tk : Nat), Vals xs us → (∀ b o, s.heap.get? b = some o → h'.get? b = some o) →
      wpAny (model prog w) A.in1 (call (.builtin "list.sort") [.ref h'.objs.size] kw) (fun _ s' => Q (.ref h'.objs.size) s') (fun _ _ => False) { s with heap := h'.push (seqObj "list" us.toArray 0), toks := tk }) :
    wpAny (model prog w) A (call (.builtin "sorted") [x] kw) Q E s := by
  refine call_function_entry_kw kind_sorted plain_sorted entry_sorted ha1 ?_
  unfold Builtin.«sorted»
  refine wpAny_bind (m := checkCount "sorted" 1 1 _) (wpAny_pure ?_)
  refine wpAny_bind (hc _ _ fun us h' tk r hk => ?_)
  have hL' : us.length ≤ sizeLine := by rw [← r.length]; exact hL
  refine wpAny_bind (wpAny_newList ?_ hL')
  refine wpAny_bind (wpAny_holding (wpAny_mono (body us h' tk r hk) (fun _ s' hq => ?_) fun _ _ (z : False) => z.elim))
  exact wpAny_pure ⟨_, rfl, hq⟩
end

mutual
theorem reads_old {h : Heap} : ∀ (d : PyData) (v : Value) (as : List Addr), alike d d = true → Reads h v d as → ∀ b ∈ as, ∃ o, h.get? b = some o
  | .none, _, _, _, r => by cases r; intro b hb; cases hb
  | .bool _, _, _, _, r => by cases r; intro b hb; cases hb
  | .int _, _, _, _, r => by cases r; intro b hb; cases hb
  | .str _, _, _, _, r => by cases r; intro b hb; cases hb
  | .list xs, _, _, al, r => by
    cases r with
    | list h1 h2 h3 h4 =>
      intro b hb
      rcases List.mem_cons.mp hb with e | hb
      · exact ⟨_, by rw [e]; exact h1⟩
      · exact readsAll_old xs _ _ (by rw [alike] at al; exact al) h4 b hb
  | .tuple xs, _, _, al, r => by
    cases r with
    | tuple h1 h2 h3 h4 => exact readsAll_old xs _ _ (by rw [alike] at al; exact al) h4
  | .dict _, _, _, al, _ => by simp [alike] at al
theorem readsAll_old {h : Heap} : ∀ (ds : List PyData) (vs : List Value) (as : List Addr), alikeAll ds ds = true → ReadsAll h vs ds as → ∀ b ∈ as, ∃ o, h.get? b = some o
  | [], _, _, _, r => by cases r; intro b hb; cases hb
  | d :: ds, _, _, al, r => by
    cases r with
    | cons h1 h2 =>
      intro b hb
      have q := PySem.W.alike_all_cons al
      rcases List.mem_append.mp hb with hb | hb
      · exact reads_old d _ _ q.1 h1 b hb
      · exact readsAll_old ds _ _ q.2 h2 b hb
end

theorem each_vals {R : V × PyData → Prop} : ∀ {ps : List (V × PyData)} {us : List Value}, Vals (ps.map (·.1)) us → EachIs (fun (u : Value) (p : V × PyData) => RelV p.1 u) us ps
  | [], _, r => by cases r; exact .nil
  | p :: ps, _, r => by
    cases r with
    | cons h t => exact .cons h (each_vals (R := R) t)
theorem vals_each : ∀ {us : List Value} {ps : List (V × PyData)}, EachIs (fun (u : Value) (p : V × PyData) => RelV p.1 u) us ps → Vals (ps.map (·.1)) us
  | _, _, .nil => .nil
  | _, _, .cons h t => .cons h (vals_each t)
theorem each_and {α β : Type} {R S : α → β → Prop} : ∀ {as : List α} {bs : List β}, EachIs R as bs → (∀ a b, b ∈ bs → R a b → S a b) → EachIs S as bs
  | _, _, .nil, _ => .nil
  | _, _, .cons h t, f => .cons (f _ _ List.mem_cons_self h) (each_and t fun a b hb => f a b (List.mem_cons_of_mem _ hb))

section
variable {X : Cx} {pins : List (Addr × Obj)} {σ : L2.St} {H : Hp} {s : Shared}
/-- sorted(x): the values xs with what they hold -/
theorem sorted_run {x : Value} {ps : List (V × PyData)} {Q : VK} (I : Inv X pins σ H s) (hc : CollV X.prog X.w X.A.in1 s x (ps.map (·.1))) (hp : ∀ p ∈ ps, Dp X.K H p.1 p.2) (hal : AllAlike (ps.map (·.2))) (hk : Sortable (ps.map (·.2)))
    (hL : ps.length ≤ sizeLine) (hu : ∀ p ∈ ps, X.A.units + 2 + p.2.depth < cLine) (hq : ∀ q, H q = none → Q (.ref q) (upd H q (.lst ((ps.mergeSort (dataLe false (fun p : V × PyData => p.2))).map (·.1))))) :
    wpAny (model X.prog X.w) X.A (call (.builtin "sorted") [x]) (EP X pins σ Q) X.xe s := by
  refine sorted_coll (kw := []) hc (by rw [List.length_map]; exact hL) (args_sorted1 _) fun us h' tk r hkeep => ?_
  have e := each_vals (R := fun _ => True) r
  have I1 := I.kept (t' := tk) hkeep
  have hnew : h'.get? h'.objs.size = none := Heap.get?_none_of_le (Nat.le_refl _)
  have er : EachIs (fun (v : Value) (p : V × PyData) => ∃ as, Reads (h'.push (seqObj "list" us.toArray 0)) v p.2 as ∧ h'.objs.size ∉ as) us ps := by
    refine each_and e fun v p hpm rv => ?_
    obtain ⟨as, rd⟩ := Dp.reads I1 p.2 p.1 v (hp p hpm) rv
    refine ⟨as, PyProof.Rows.Reads.keeps (fun b o q => Heap.get?_push_of_some _ q) rd, fun hm => ?_⟩
    obtain ⟨o, ho⟩ := reads_old p.2 v as (hal _ (List.mem_map.mpr ⟨p, hpm, rfl⟩) _ (List.mem_map.mpr ⟨p, hpm, rfl⟩)) rd _ hm
    rw [hnew] at ho
    cases ho
  refine PySem.W.list_sort_data (A := X.A.in1) (enc := fun p : V × PyData => p.2) (R := fun (u : Value) (p : V × PyData) => RelV p.1 u) (vs := us) (bs := ps) (s := { s with heap := h'.push (seqObj "list" us.toArray 0), toks := tk }) (a := h'.objs.size) (n := 0) (Heap.get?_push_size _ rfl) e er hal hk hL
    (fun p hpm => by have := hu p hpm; show X.A.units + 1 + 1 + _ < _; omega) fun out ho eo => ?_
  have vo := vals_each eo
  have hlen : (ps.mergeSort (dataLe false (fun p : V × PyData => p.2))).length = ps.length := List.length_mergeSort ..
  obtain ⟨c, hc2⟩ := sortedHeap_at (out := out.toArray) (show (h'.push (seqObj "list" us.toArray 0)).get? h'.objs.size = some (seqObj "list" us.toArray 0) from Heap.get?_push_size _ rfl)
  refine ⟨.ref h'.objs.size, _, I1.laid (a := h'.objs.size) (t' := tk) (o := .lst ((ps.mergeSort (dataLe false (fun p : V × PyData => p.2))).map (·.1))) (fun b o q => ?_) (Nat.le_refl _) ?_, rfl, hq _ (I1.hok.fresh (Nat.le_refl _))⟩
  · have hlt : b < h'.objs.size := Heap.lt_size q
    show (PyProof.Rows.sortedHeap (h'.push (seqObj "list" us.toArray 0)) h'.objs.size us out.toArray).get? b = some o
    rw [sortedHeap_old (Nat.ne_of_lt hlt) (by rw [Heap.size_push]; exact Nat.lt_succ_of_lt hlt)]
    exact Heap.get?_push_of_some _ q
  · exact ⟨by rw [List.length_map, hlen]; exact hL, out, c, vo, hc2⟩
/-- sorted(x, key=f): the values xs with their keys; f's call keeps all that stands -/
theorem sortedk_run {x : Value} {f : Addr} {ps : List (V × PyData)} {Q : VK} (I : Inv X pins σ H s) (hc : CollV X.prog X.w X.A.in1 s x (ps.map (·.1))) (hal : AllAlike (ps.map (·.2))) (hk : Sortable (ps.map (·.2))) (hL : ps.length ≤ sizeLine) (hu : ∀ p ∈ ps, X.A.units + 2 + p.2.depth < cLine)
    (turn : ∀ (v : Value) (p : V × PyData), RelV p.1 v → p ∈ ps → ∀ (h : Heap) (tk : Nat), (∀ b o, s.heap.get? b = some o → h.get? b = some o) →
      wpAny (model X.prog X.w) X.A.in1.in1 (call (.ref f) [v]) (PySem.W.KeyPure p.2 { s with heap := h, toks := tk }) (fun _ _ => False) { s with heap := h, toks := tk })
    (hq : ∀ q, H q = none → Q (.ref q) (upd H q (.lst ((ps.mergeSort (dataLe false (fun p : V × PyData => p.2))).map (·.1))))) :
    wpAny (model X.prog X.w) X.A (call (.builtin "sorted") [x] [(Str.ofString "key", .ref f)]) (EP X pins σ Q) X.xe s := by
  refine sorted_coll (kw := [(Str.ofString "key", .ref f)]) hc (by rw [List.length_map]; exact hL) (ksk_s1 _ _) fun us h' tk r hkeep => ?_
  have e := each_vals (R := fun _ => True) r
  have I1 := I.kept (t' := tk) hkeep
  have hnew : h'.get? h'.objs.size = none := Heap.get?_none_of_le (Nat.le_refl _)
  refine PySem.W.list_sort_key_data (A := X.A.in1) (k := fun p : V × PyData => p.2) (R := fun (u : Value) (p : V × PyData) => RelV p.1 u) (vs := us) (bs := ps) (b := false) (s := { s with heap := h'.push (seqObj "list" us.toArray 0), toks := tk }) (a := h'.objs.size) (n := 0)
    (Heap.get?_push_size _ rfl) e hal hk hL (fun p hpm => by have := hu p hpm; show X.A.units + 1 + 1 + _ < _; omega) (ksk_l1 _ _) (ksk_t1 _ _) (fun v p rv hpm h tk2 kp => ?_) fun out c h3 tk3 kp h4 ho eo => ?_
  · refine turn v p rv hpm h tk2 fun b o q => ?_
    have q' := hkeep b o q
    exact kp b o (Nat.ne_of_lt (Heap.lt_size q')) (Heap.get?_push_of_some _ q')
  · have vo := vals_each eo
    have hlen : (ps.mergeSort (dataLe false (fun p : V × PyData => p.2))).length = ps.length := List.length_mergeSort ..
    refine ⟨.ref h'.objs.size, _, I1.laid (a := h'.objs.size) (t' := tk3) (o := .lst ((ps.mergeSort (dataLe false (fun p : V × PyData => p.2))).map (·.1))) (fun b o q => ?_) (Nat.le_refl _) ?_, rfl, hq _ (I1.hok.fresh (Nat.le_refl _))⟩
    · exact kp b o (Nat.ne_of_lt (Heap.lt_size q)) (Heap.get?_push_of_some _ q)
    · exact ⟨by rw [List.length_map, hlen]; exact hL, out, c, vo, h4⟩
end
/-! ### by values -/
/-- what sorted may be asked of: a list, a tuple, a dict with int and text keys -/
def Src (K : PySem.W.Frag) (H : Hp) (a : Addr) (xs : List V) : Prop := SqL K H a xs ∨ SqT K H a xs ∨ ∃ kvs, Rd H a (.dK kvs) ∧ xs = kvs.map fun kv => kV kv.1
section
variable {X : Cx} {pins : List (Addr × Obj)} {σ : L2.St} {H : Hp} {s : Shared}
theorem Src.coll {A : Around} {a : Addr} {xs : List V} (hh : A.handled = none) (I : Inv X pins σ H s) (h : Src X.K H a xs) : CollV X.prog X.w A s (.ref a) xs := by
  rcases h with h | h | ⟨kvs, h, rfl⟩
  · exact coll_list I h
  · exact coll_tup I h
  · exact coll_dk hh I h
def rSortedG (K : PySem.W.Frag) : List V → Hp → VK → Prop := fun vs H Q => ∃ (a : Addr) (ps : List (V × PyData)), vs = [.ref a] ∧ Src K H a (ps.map (·.1)) ∧ (∀ p ∈ ps, Dp K H p.1 p.2) ∧ AllAlike (ps.map (·.2)) ∧ Sortable (ps.map (·.2)) ∧ ps.length ≤ 100000 ∧ (∀ p ∈ ps, p.2.depth ≤ 8) ∧
  ∀ q, H q = none → Q (.ref q) (upd H q (.lst ((ps.mergeSort (dataLe false (fun p : V × PyData => p.2))).map (·.1))))
theorem cr_sortedG (hc : X.calm = true) (hu : X.A.units + 64 < cLine) : CallR X (.builtin "sorted") (rSortedG X.K) := by
  rintro pins s σ H vs us Q I r ⟨a, ps, rfl, hs, hp, hal, hk, hl, hd, hq⟩
  obtain ⟨u, rfl, rx⟩ := r.one
  cases rx
  refine sorted_run I (hs.coll (I.ok.hd hc) I) hp hal hk (Nat.le_trans hl (by decide)) (fun p hpm => ?_) hq
  have := hd p hpm
  omega
/-- texts in their order -/
def leS (a b : Str) : Bool := !decide (b.cps.toList < a.cps.toList)
def sortS (xs : List Str) : List Str := xs.mergeSort leS
theorem sortS_perm (xs : List Str) : (sortS xs).Perm xs := List.mergeSort_perm _ _
def rSortedStr (K : PySem.W.Frag) : List V → Hp → VK → Prop := fun vs H Q => ∃ (a : Addr) (xs : List Str), vs = [.ref a] ∧ Src K H a (xs.map V.str) ∧ xs.length ≤ 100000 ∧ ∀ q, H q = none → Q (.ref q) (upd H q (.lst ((sortS xs).map V.str)))
theorem alike_strs (xs : List Str) : AllAlike ((xs.map fun x => (V.str x, PyData.str x)).map (·.2)) := by
  intro d hd d' hd'
  rw [List.map_map] at hd hd'
  obtain ⟨x, _, rfl⟩ := List.mem_map.mp hd
  obtain ⟨y, _, rfl⟩ := List.mem_map.mp hd'
  simp [alike]
theorem sortable_strs (xs : List Str) : Sortable ((xs.map fun x => (V.str x, PyData.str x)).map (·.2)) := by
  refine Or.inr fun d hd => ?_
  rw [List.map_map] at hd
  obtain ⟨x, _, rfl⟩ := List.mem_map.mp hd
  exact ⟨(fun (z : PyData.str x = .none) => by cases z), fun ys (z : PyData.str x = .tuple ys) => by cases z⟩
theorem sort_strs (xs : List Str) : ((xs.map fun x => (V.str x, PyData.str x)).mergeSort (dataLe false (fun p : V × PyData => p.2))).map (·.1) = (sortS xs).map V.str := by
  have e : ((xs.map fun x => (V.str x, PyData.str x)).mergeSort (dataLe false (fun p : V × PyData => p.2))) = (sortS xs).map fun x => (V.str x, PyData.str x) := by
    unfold sortS
    refine (PySem.W.sort_maps (f := fun x => (V.str x, PyData.str x)) (s := dataLe false (fun p : V × PyData => p.2)) fun a _ b _ => ?_).symm
    show leS a b = !PySem.W.dataLt (.str b) (.str a)
    rw [PySem.W.dataLt_str]
    all_goals rfl
  rw [e, List.map_map]
  all_goals rfl
theorem cr_sortedStr (hc : X.calm = true) (hu : X.A.units + 64 < cLine) : CallR X (.builtin "sorted") (rSortedStr X.K) := by
  rintro pins s σ H vs us Q I r ⟨a, xs, rfl, hs, hl, hq⟩
  refine cr_sortedG hc hu pins s σ H [.ref a] us Q I r ⟨a, xs.map fun x => (V.str x, PyData.str x), rfl, ?_, ?_, alike_strs xs, sortable_strs xs, by rw [List.length_map]; exact hl, ?_, fun q hq0 => ?_⟩
  · rw [List.map_map]
    exact hs
  · intro p hp
    obtain ⟨x, _, rfl⟩ := List.mem_map.mp hp
    exact Dp.str x
  · intro p hp
    obtain ⟨x, _, rfl⟩ := List.mem_map.mp hp
    show PyData.depth (.str x) ≤ 8
    simp [PyData.depth]
  · rw [sort_strs]
    exact hq q hq0
end
end MC
end
section
set_option Elab.async false
set_option linter.all false
set_option maxRecDepth 100000
set_option maxHeartbeats 4000000
/-! Own rules, 5: sorted and min by a key that is a def of the program. -/
namespace MC
open PySem PySem.Spec PyProof.Rows L2
open PySem.W (EachIs alike alikeAll AllAlike Sortable dataLe Datum DatumOrd)

/-- from (H, s) to (H', s'): what a call leaves of what stood -/
structure Sub (X : Cx) (H : Hp) (s : Shared) (H' : Hp) (s' : Shared) : Prop where
  os : s'.os = s.os
  bare : AllBare s'.gens
  un : Un (frs X.stack) [] H H' s.heap s'.heap
  hok : HOk X.prog X.w H' s'.heap
section
variable {X : Cx} {pins : List (Addr × Obj)} {σ : L2.St} {H H' H'' : Hp} {s s' s'' : Shared}
theorem Sub.refl (I : Inv X pins σ H s) : Sub X H s H s := ⟨rfl, I.bare, Un.refl, I.hok⟩
theorem Sub.inv (S : Sub X H s H' s') (I : Inv X pins σ H s) : Inv X pins σ H' s' := I.call' (ch := []) S.os S.un S.hok S.bare fun b z => absurd z (by simp)
theorem Sub.trans (S : Sub X H s H' s') (T : Sub X H' s' H'' s'') : Sub X H s H'' s'' := ⟨T.os.trans S.os, T.bare, S.un.trans T.un, T.hok⟩
theorem Sub.kept {h' : Heap} {t : Nat} (S : Sub X H s H' s') (k : ∀ b o, s'.heap.get? b = some o → h'.get? b = some o) : Sub X H s H' { s' with heap := h', toks := t } :=
  ⟨S.os, S.bare, S.un.trans (Un.kept k), S.hok.kept k⟩
/-- an object that did not stand at first, and is not told of, has turned -/
theorem Sub.turned {h' : Heap} {t : Nat} {e : Addr} (S : Sub X H s H' s') (he : s.heap.get? e = none) (hn : H' e = none) (k : ∀ b o, b ≠ e → s'.heap.get? b = some o → h'.get? b = some o) : Sub X H s H' { s' with heap := h', toks := t } := by
  have old : ∀ b o, s.heap.get? b = some o → b ≠ e := fun b o q z => by
    rw [z, he] at q
    cases q
  refine ⟨S.os, S.bare, ⟨fun b o q n h1 h2 => k b o (old b o q) (S.un.keep b o q n h1 h2), fun b o q n h1 h2 => ?_, S.un.free, fun b o q h1 => ?_, S.un.tups, S.un.frzs, S.un.tbls⟩, fun b u q => ?_⟩
  · obtain ⟨sl, z⟩ := S.un.slot b o q n h1 h2
    exact ⟨sl, k b _ (old b o q) z⟩
  · obtain ⟨o', z⟩ := S.un.there b o q h1
    exact ⟨o', k b o' (old b o q) z⟩
  · refine (S.hok b u q).stay (fun c v hc z => k c v ?_ z) (fun _ z => z) fun _ _ z => z
    rintro rfl
    rcases hc with rfl | hc
    · rw [hn] at q
      cases q
    · rw [hn] at hc
      cases hc
/-- a new object is told of -/
theorem Sub.laid {h' : Heap} {t : Nat} {a : Addr} {o : HO} (S : Sub X H s H' s') (k : ∀ b u, s'.heap.get? b = some u → h'.get? b = some u) (hp : s'.heap.objs.size ≤ a) (new : ObjOk X.prog X.w (upd H' a o) h' a o) : Sub X H s (upd H' a o) { s' with heap := h', toks := t } :=
  ⟨S.os, S.bare, S.un.trans (Un.laid k hp (S.hok.fresh hp)), S.hok.laid k hp new⟩
/-- an object that did not stand at first, and was not told of, is told of -/
theorem Sub.tell {a : Addr} {o : HO} (S : Sub X H s H' s') (ha : s.heap.get? a = none) (hn : H' a = none) (hz : H a = none) (new : ObjOk X.prog X.w (upd H' a o) s'.heap a o) : Sub X H s (upd H' a o) s' := by
  have old : ∀ b o, s.heap.get? b = some o → b ≠ a := fun b o q z => by
    rw [z, ha] at q
    cases q
  have told : ∀ b u, H b = some u → b ≠ a := fun b u q z => by
    rw [z, hz] at q
    cases q
  refine ⟨S.os, S.bare, ⟨S.un.keep, S.un.slot, fun b u q n h1 => ?_, S.un.there, fun b xs q => ?_, fun b u xs q => ?_, fun b ps q => ?_⟩, fun b u q => ?_⟩
  · rw [upd_ne (old b u q)]
    exact S.un.free b u q n h1
  · rw [upd_ne (told b _ q)]
    exact S.un.tups b xs q
  · rw [upd_ne (told b _ q)]
    exact S.un.frzs b u xs q
  · rw [upd_ne (told b _ q)]
    exact S.un.tbls b ps q
  · by_cases hb : b = a
    · subst hb
      rw [upd_same] at q
      cases q
      exact new
    · rw [upd_ne hb] at q
      exact (S.hok b u q).stay (fun _ _ _ z => z) (fun c z => by rw [upd_ne (ne_of_none z hn)]; exact z) fun c xs z => by rw [upd_ne (ne_of_none z hn)]; exact z
/-- what did not stand at first and is not told of is kept by a call -/
theorem Un.hold {X : Cx} (I : Inv X pins σ H s) {b : Addr} {o : Obj} (u : Un (frs X.stack) [] H' H'' s'.heap s''.heap) (hb : s.heap.objs.size ≤ b) (q : s'.heap.get? b = some o) (n : H' b = none) : s''.heap.get? b = some o ∧ H'' b = none := by
  have nf : b ∉ frs X.stack := fun z => by
    rcases List.mem_cons.mp (I.stkSub b z) with e | hbf
    · exact absurd (Nat.lt_of_lt_of_le I.lt (e ▸ hb)) (Nat.lt_irrefl _)
    · exact I.nofs hb hbf
  exact ⟨u.keep b o q n nf (by simp), u.free b o q n (by simp)⟩
end
/-- f is a key: of a value that bears C it makes the datum k, and changes nothing that stood -/
def KeyOk (X : Cx) (f : Addr) (H : Hp) (C : V → PyData → Prop) : Prop := ∀ (A : Around) (H1 : Hp) (s1 : Shared) (v : V) (u : Value) (k : PyData) (Q : Value → Shared → Prop), Same H H1 → Room 2 A → Env0 X.prog X.w X.K X.mg X.base A X.stack s1 H1 → RelV v u → C v k →
  (∀ z r H2 s2, s2.os = s1.os → AllBare s2.gens → Un (frs X.stack) [] H1 H2 s1.heap s2.heap → HOk X.prog X.w H2 s2.heap → Same H1 H2 → RelV z r → Dp X.K H2 z k → Q r s2) → wpAny (model X.prog X.w) A (call (.ref f) [u]) Q (fun _ _ => False) s1
section
variable {P : Program} {w : World} {K : PySem.W.Frag} {mg : Str → Option Value} {base : Heap}
theorem key_fn {X : Cx} {f : Addr} {fd : FuncData} {ps : List Str} {k : Nat} {sp : Sp} {H : Hp} {C : V → PyData → Prop} (F : FnOk X.prog X.w X.K X.mg X.base CX0 k f fd ps sp) (hk : k ≤ 2) (hb : Binds X.K fd ps [])
    (h : ∀ v d H1 (Q : VK), Same H H1 → C v d → (∀ z H2, Same H1 H2 → Dp X.K H2 z d → Q z H2) → sp [v] H1 Q E0) : KeyOk X f H C := by
  intro A H1 s1 v u d Q e hr e0 rv hc hq
  have r1 : Vals [v] [u] := .cons rv .nil
  have hs := h v d H1 (fun z H2 => Same H1 H2 ∧ Dp X.K H2 z d) e hc fun z H2 a b => ⟨a, b⟩
  have hl : ([u] ++ ([] : List Value)).length = ps.length := F.len _ _ _ _ hs
  refine wpAny_call (codeAny_mono (F.run A X.stack s1 H1 ⟨[u], []⟩ ([u] ++ []) [v] _ E0 (hr.mono hk) e0 (hb s1 [u] (e0.mod.kin.keeps fun b o q => (e0.bs b o q).1) hl) r1 hs) fun r s' hr' => ?_)
  cases r with
  | error e => exact hr'.elim
  | ok fl =>
    cases fl with
    | ret u =>
      obtain ⟨z, H2, os, bare, un, hok, rz, hs, hd⟩ := hr'
      exact hq z u H2 s' os bare un hok hs rz hd
    | next => exact hr'.elim
    | brk => exact hr'.elim
    | cont => exact hr'.elim
theorem key_met {X : Cx} {m g a : Addr} {fd : FuncData} {ps : List Str} {k : Nat} {sp : Sp} {H : Hp} {C : V → PyData → Prop} (F : FnOk X.prog X.w X.K X.mg X.base CX0 k g fd ps sp) (hk : k ≤ 2) (hb : Binds X.K fd ps []) (hm : H m = some (.met g a))
    (h : ∀ v d H1 (Q : VK), Same H H1 → C v d → (∀ z H2, Same H1 H2 → Dp X.K H2 z d → Q z H2) → sp [.ref a, v] H1 Q E0) : KeyOk X m H C := by
  intro A H1 s1 v u d Q e hr e0 rv hc hq
  have r1 : Vals [.ref a, v] [.ref a, u] := .cons rfl (.cons rv .nil)
  have hs := h v d H1 (fun z H2 => Same H1 H2 ∧ Dp X.K H2 z d) e hc fun z H2 a b => ⟨a, b⟩
  have hl : ([Value.ref a, u] ++ ([] : List Value)).length = ps.length := F.len _ _ _ _ hs
  refine wpAny_call (PySem.W.method_call (e0.hok m _ (e m _ hm)) (codeAny_mono (F.run A X.stack s1 H1 ⟨[.ref a, u], []⟩ ([.ref a, u] ++ []) [.ref a, v] _ E0 (hr.mono hk) e0 (hb s1 [.ref a, u] (e0.mod.kin.keeps fun b o q => (e0.bs b o q).1) hl) r1 hs) fun r s' hr' => ?_))
  cases r with
  | error e => exact hr'.elim
  | ok fl =>
    cases fl with
    | ret u =>
      obtain ⟨z, H2, os, bare, un, hok, rz, hs, hd⟩ := hr'
      exact hq z u H2 s' os bare un hok hs rz hd
    | next => exact hr'.elim
    | brk => exact hr'.elim
    | cont => exact hr'.elim
end
end MC
end
section
set_option Elab.async false
set_option linter.all false
set_option maxRecDepth 100000
set_option maxHeartbeats 4000000
/-! Own rules, 6: sorted(x, key=f), f a def or a bound method of the program. -/
namespace MC
open PySem PySem.Spec PyProof.Rows L2
open PySem.W (hideAll of_hideAll hideAll_none hideAll_get EachIs alike alikeAll AllAlike Sortable dataLe Datum DatumOrd)

section
variable {X : Cx} {pins : List (Addr × Obj)} {σ : L2.St} {H H' H'' : Hp} {s s' s'' : Shared}
/-- what did not stand at first, and is not told of, may turn -/
theorem Sub.stir {h' : Heap} {t : Nat} (S : Sub X H s H' s') (k : ∀ b o, ((∃ u, s.heap.get? b = some u) ∨ ∃ u, H' b = some u) → s'.heap.get? b = some o → h'.get? b = some o) : Sub X H s H' { s' with heap := h', toks := t } := by
  refine ⟨S.os, S.bare, ⟨fun b o q n h1 h2 => k b o (.inl ⟨_, q⟩) (S.un.keep b o q n h1 h2), fun b o q n h1 h2 => ?_, S.un.free, fun b o q h1 => ?_, S.un.tups, S.un.frzs, S.un.tbls⟩, fun b u q => ?_⟩
  · obtain ⟨sl, z⟩ := S.un.slot b o q n h1 h2
    exact ⟨sl, k b _ (.inl ⟨_, q⟩) z⟩
  · obtain ⟨o', z⟩ := S.un.there b o q h1
    exact ⟨o', k b o' (.inl ⟨_, q⟩) z⟩
  · refine (S.hok b u q).stay (fun c v hc z => k c v (.inr ?_) z) (fun _ z => z) fun _ _ z => z
    rcases hc with rfl | hc
    · exact ⟨_, q⟩
    · exact ⟨_, hc⟩
end
theorem same_seqT {K : PySem.W.Frag} {H H' : Hp} {a : Addr} {xs : List V} (e : Same H H') (h : SqT K H a xs) : SqT K H' a xs := by
  rcases h with h | h
  · rcases h with h | ⟨o, h⟩
    · exact Or.inl (Or.inl (e a _ h))
    · exact Or.inl (Or.inr ⟨o, e a _ h⟩)
  · exact Or.inr h
mutual
theorem Dp.same {K : PySem.W.Frag} {H H' : Hp} (e : Same H H') : ∀ (d : PyData) (v : V), Dp K H v d → Dp K H' v d
  | .none, _, h => by cases h; exact Dp.non
  | .bool b, _, h => by cases h; exact Dp.bl b
  | .int i, _, h => by cases h; exact Dp.int i
  | .str x, _, h => by cases h; exact Dp.str x
  | .list ds, _, h => by
    cases h with
    | lst h1 h2 => exact Dp.lst (e.seq h1) (DpAll.same e ds _ h2)
  | .tuple ds, _, h => by
    cases h with
    | tup h1 h2 => exact Dp.tup (same_seqT e h1) (DpAll.same e ds _ h2)
  | .dict _, _, h => by cases h
theorem DpAll.same {K : PySem.W.Frag} {H H' : Hp} (e : Same H H') : ∀ (ds : List PyData) (vs : List V), DpAll K H vs ds → DpAll K H' vs ds
  | [], _, h => by cases h; exact DpAll.nil
  | d :: ds, _, h => by
    cases h with
    | cons h1 h2 => exact DpAll.cons (Dp.same e d _ h1) (DpAll.same e ds _ h2)
end
theorem Hv.same {α : Type} [DecidableEq α] [PySem.W.Datum α] {K : PySem.W.Frag} {H H' : Hp} {v : V} {x : α} (e : Same H H') (h : Hv K H v x) : Hv K H' v x := Dp.same e _ _ h
theorem Ha.same {α : Type} [DecidableEq α] [PySem.W.Datum α] {K : PySem.W.Frag} {H H' : Hp} {vs : List V} {xs : List α} (e : Same H H') (h : Ha K H vs xs) : Ha K H' vs xs := DpAll.same e _ _ h

section
variable {X : Cx} {pins : List (Addr × Obj)} {σ : L2.St} {H : Hp} {s s0 s1 : Shared} {C : V → PyData → Prop} {f a kS : Addr} {us : List Value} {e1 : Nat} {A : Around}
/-- where the keys are gathered: the keys so far lie at kS, the list itself is empty -/
def KW (X : Cx) (H : Hp) (s0 : Shared) (a kS : Addr) (e1 : Nat) (ds : List PyData) (s : Shared) : Prop :=
  ∃ H' kA n, Sub X H s0 H' s ∧ Same H H' ∧ H' kS = none ∧ H' a = none ∧ s.heap.get? kS = some (seqObj "list" kA n) ∧ s.heap.get? a = some (seqObj "list" #[] e1) ∧ EachIs (fun v k => ∃ z, RelV z v ∧ Dp X.K H' z k) kA.toList ds
theorem old_ne {b : Addr} {h : Heap} (hb : h.get? b = none) {c : Addr} {o : Obj} (q : h.get? c = some o) : c ≠ b := fun e => by
  rw [e, hb] at q
  cases q
theorem Un.hold2 {H' H'' : Hp} {s s' s'' : Shared} (I : Inv X pins σ H s) {b : Addr} {o : Obj} (u : Un (frs X.stack) [] H' H'' s'.heap s''.heap) (hb : s.heap.get? b = none) (q : s'.heap.get? b = some o) (n : H' b = none) : s''.heap.get? b = some o ∧ H'' b = none := by
  have nf : b ∉ frs X.stack := fun z => by
    obtain ⟨_, o, ho, _⟩ := I.stack.mem z
    rw [hb] at ho
    cases ho
  exact ⟨u.keep b o q n nf (by simp), u.free b o q n (by simp)⟩
theorem each_snoc' {α β : Type} {R : α → β → Prop} {a : α} {b : β} : ∀ {as : List α} {bs : List β}, EachIs R as bs → R a b → EachIs R (as ++ [a]) (bs ++ [b])
  | _, _, .nil, h => .cons h .nil
  | _, _, .cons h t, h2 => .cons h (each_snoc' t h2)
theorem kw_turn (I : Inv X pins σ H s0) (hf : KeyOk X f H C) (hr : Room 2 A) (he : A.frames = X.A.frames) (hkS : s0.heap.get? kS = none) (ha : s0.heap.get? a = none) (hka : kS ≠ a) {ds : List PyData} {v : V} {u : Value} {k : PyData} (rv : RelV v u) (hc : C v k) (hl : ds.length < sizeLine)
    (W : KW X H s0 a kS e1 ds s) {Q : Value → Shared → Prop} (hq : ∀ u2 s2 kA n, s2.heap.get? kS = some (seqObj "list" kA n) → kA.size = ds.length → (∀ tk, KW X H s0 a kS e1 (ds ++ [k]) { s2 with heap := s2.heap.update kS (Obj.mapSeq (·.push u2)), toks := tk }) → Q u2 s2) :
    wpAny (model X.prog X.w) A (call (.ref f) [u]) Q (fun _ _ => False) s := by
  obtain ⟨H', kA, n, S, e, n1, n2, g1, g2, hk⟩ := W
  have I1 := S.inv I
  have e0 : Env0 X.prog X.w X.K X.mg X.base A X.stack s H' := ⟨he.trans I1.ok.frames, I1.ok.mod, I1.bs, Nat.le_trans I1.ok.bsz I1.sz, I1.stack, I1.stkFree, I1.hok, I1.bare⟩
  refine hf A H' s v u k _ e hr e0 rv hc fun z r H2 s2 os bare un hok e2 rz hd => ?_
  have o1 := Un.hold2 I (s := s0) (s' := s) (s'' := s2) (H' := H') (H'' := H2) un hkS g1 n1
  have o2 := Un.hold2 I (s := s0) (s' := s) (s'' := s2) (H' := H') (H'' := H2) un ha g2 n2
  have S2 : Sub X H s0 H2 s2 := S.trans ⟨os, bare, un, hok⟩
  have el : kA.size = ds.length := by
    have h1 := hk.length
    rw [Array.length_toList] at h1
    exact h1
  refine hq r s2 kA n o1.1 el fun tk => ?_
  have sb := Heap.SameBut.update s2.heap kS (Obj.mapSeq (·.push r))
  obtain ⟨c2, hc2⟩ : ∃ c2, (s2.heap.update kS (Obj.mapSeq (·.push r))).get? kS = some (seqObj "list" (kA.push r) c2) := ⟨_, get?_update_seq o1.1 (·.push r)⟩
  refine ⟨H2, kA.push r, c2, S2.stir fun b o hb q => ?_, e.trans e2, o1.2, o2.2, hc2, (sb.2 a hka.symm).trans o2.1, ?_⟩
  · refine (sb.2 b ?_).trans q
    rintro rfl
    rcases hb with ⟨w, hb⟩ | ⟨w, hb⟩
    · exact old_ne hkS hb rfl
    · rw [o1.2] at hb
      cases hb
  · have ea : (kA.push r).toList = kA.toList ++ [r] := by simp
    rw [ea]
    exact each_snoc' (hk.mono fun x d ⟨y, h1, h2⟩ => ⟨y, h1, Dp.same e2 d y h2⟩) ⟨z, rz, hd⟩

theorem sortedk_rest (I : Inv X pins σ H s0) (hf : KeyOk X f H C) (hr : Room 2 A) (he : A.frames = X.A.frames) (hkS : s0.heap.get? kS = none) (ha : s0.heap.get? a = none) (hka : kS ≠ a) {ps : List (V × PyData)} {us : List Value} {P : PySem.Fin → Shared → Prop}
    (hus : Vals (ps.map (·.1)) us) (hC : ∀ p ∈ ps, C p.1 p.2) (hal : AllAlike (ps.map (·.2))) (hsk : Sortable (ps.map (·.2))) (hL : ps.length ≤ sizeLine) (hu : ∀ d ∈ ps.map (·.2), A.units + d.depth < cLine) (W : KW X H s0 a kS e1 [] s)
    (h : ∀ H' s' out c, Sub X H s0 H' s' → Same H H' → H' a = none → s'.heap.get? a = some (seqObj "list" (List.toArray out) c) → Vals ((ps.mergeSort (dataLe false (fun p : V × PyData => p.2))).map (·.1)) out → P (.done (.ret .none)) s') :
    wpAny (model X.prog X.w) A (ksk_rest a (.ref f) false us.toArray e1 (.ref kS)) P (fun _ _ => False) s := by
  have e := each_vals (R := fun _ => True) hus
  have hul : us.length = ps.length := by rw [← hus.length, List.length_map]
  unfold ksk_rest
  refine wpAny_bind (wpAny_rule ?_)
  rw [List.forIn_toArray]
  refine wpAny_bind (ksk_fold (fun i s' => KW X H s0 a kS e1 ((ps.map (·.2)).take i) s') us 0 s (by rw [List.take_zero]; exact W) ?step ?done)
  case step =>
    rintro j x s' hx W'
    rw [Nat.zero_add] at W' ⊢
    have hj : j < us.length := (List.getElem?_eq_some_iff.mp hx).1
    have hj2 : j < ps.length := hul ▸ hj
    have hp : ps[j]? = some ps[j] := List.getElem?_eq_getElem hj2
    have rv : RelV ps[j].1 x := e.zip (x, ps[j]) (List.mem_of_getElem? (i := j) (by rw [List.getElem?_zip_eq_some]; exact ⟨hx, hp⟩))
    have ek : (ps.map (·.2)).take (j + 1) = (ps.map (·.2)).take j ++ [ps[j].2] := by rw [List.take_add_one, List.getElem?_map, hp]; simp
    have hlt : ((ps.map (·.2)).take j).length = j := by rw [List.length_take, List.length_map]; omega
    refine wpAny_bind (wpAny_attempt (wpAny_mono (kw_turn I hf hr he hkS ha hka rv (hC _ (List.getElem_mem hj2)) (by rw [hlt]; omega) W' (Q := fun u2 s2 => ∃ kA n, s2.heap.get? kS = some (seqObj "list" kA n) ∧ kA.size = j ∧ (∀ tk, KW X H s0 a kS e1 ((ps.map (·.2)).take j ++ [ps[j].2]) { s2 with heap := s2.heap.update kS (Obj.mapSeq (·.push u2)), toks := tk })) fun u2 s2 kA n g hz hW => ⟨kA, n, g, hz.trans hlt, hW⟩) (fun u2 s2 hh => ?_) fun _ _ z => z.elim))
    obtain ⟨kA, n, g, hz, hW⟩ := hh
    try dsimp only
    refine wpAny_bind (listUpdate_at g rfl ?_ (by omega) (by rw [Array.size_push]; omega))
    refine wpAny_pure ⟨rfl, ?_⟩
    rw [ek]
    exact hW _
  case done =>
    rintro s' W'
    have e3 : (ps.map (·.2)).take (0 + us.length) = ps.map (·.2) := List.take_of_length_le (by rw [List.length_map]; omega)
    rw [e3] at W'
    obtain ⟨H', kA, n, S, e4, n1, n2, g1, g2, hk⟩ := W'
    have hk' : EachIs (fun v k => ∃ as, Reads s'.heap v k as) kA.toList (ps.map (·.2)) := hk.mono fun u d ⟨z, rz, hd⟩ => Dp.reads (S.inv I) d z u hd rz
    have hsz : kA.size = us.length := by
      have h1 := hk'.length
      rw [Array.length_toList, List.length_map] at h1
      omega
    try dsimp only
    refine wpAny_bind (listItems_at g1 rfl ?_)
    refine PySem.W.keyH_end (κ := PySem.W.dataKind s'.heap (ps.map (·.2))) (h₁ := hideAll s'.heap [kS]) (fun b o _ q => of_hideAll _ q) (hideAll_none _ List.mem_cons_self) g1 g2 hka (PySem.W.SortsAt.data (s := s') hk' hal hsk hu) hsz (by omega) fun h3 tk3 c k3 n3 => ?_
    refine h H' _ _ c (S.stir (t := tk3) fun b o hb q => ?_) e4 n2 n3 (vals_each (PySem.W.keyedOut_each (fun p : V × PyData => p.2) ⟨s'.heap, kA.toList, hal, rfl, hk'⟩ e))
    have hbne : ∀ c, s0.heap.get? c = none → H' c = none → b ≠ c := fun c h1 h2 => by
      rintro rfl
      rcases hb with ⟨w, hb⟩ | ⟨w, hb⟩
      · exact old_ne h1 hb rfl
      · rw [h2] at hb
        cases hb
    refine k3 b o (hbne a ha n2) (hideAll_get _ q ?_)
    intro hm
    rw [List.mem_singleton] at hm
    exact hbne kS hkS n1 hm
end
theorem sortedKey_core {X : Cx} (hc : X.calm = true) (hu : X.A.units + 64 < cLine) (hr : Room 2 X.A.in1.in1) {pins : List (Addr × Obj)} {s : Shared} {σ : L2.St} {H : Hp} {a f : Addr} {ps : List (V × PyData)} {C : V → PyData → Prop} {Q : VK} (I : Inv X pins σ H s)
    (coll : CollV X.prog X.w X.A.in1 s (.ref a) (ps.map (·.1))) (hf : KeyOk X f H C) (hC : ∀ p ∈ ps, C p.1 p.2) (hal : AllAlike (ps.map (·.2))) (hk : Sortable (ps.map (·.2))) (hl : ps.length ≤ 100000) (hd : ∀ p ∈ ps, p.2.depth ≤ 8)
    (hq : ∀ H' q, Same H H' → H' q = none → Q (.ref q) (upd H' q (.lst ((ps.mergeSort (dataLe false (fun p : V × PyData => p.2))).map (·.1))))) :
    wpAny (model X.prog X.w) X.A (call (.builtin "sorted") [.ref a] [(Str.ofString "key", .ref f)]) (EP X pins σ Q) X.xe s := by
  refine wpAny_mono (sorted_coll (kw := [(Str.ofString "key", .ref f)]) (E := X.xe) (Q := EP X pins σ Q) coll (by rw [List.length_map]; exact Nat.le_trans hl (by decide)) (ksk_s1 _ _) fun us h' tk r hkeep => ?_) (fun _ _ z => z) fun _ _ z => z
  have hlen := r.length
  rw [List.length_map] at hlen
  have hL' : us.length ≤ sizeLine := by rw [← hlen]; exact Nat.le_trans hl (by decide)
  have ho : (h'.push (seqObj "list" us.toArray 0)).get? h'.objs.size = some (seqObj "list" us.toArray 0) := Heap.get?_push_size _ rfl
  have new : ∀ c, h'.objs.size ≤ c → s.heap.get? c = none := fun c hc => by
    cases q : s.heap.get? c with
    | none => rfl
    | some o =>
      have z := hkeep c o q
      rw [Heap.get?_none_of_le hc] at z
      cases z
  refine wpAny_call_entry_kw slot_list_sort ⟨_, ho, rfl⟩ entry_list_sort ?_ (ksk_l1 _ _)
  rw [ksk_t1]
  obtain ⟨e1, ho1⟩ : ∃ e1, ((h'.push (seqObj "list" us.toArray 0)).update h'.objs.size (Obj.mapSeq fun _ => (#[] : Array Value))).get? h'.objs.size = some (seqObj "list" #[] e1) := ⟨_, get?_update_seq ho fun _ => #[]⟩
  have hkS : (((h'.push (seqObj "list" us.toArray 0)).update h'.objs.size (Obj.mapSeq fun _ => (#[] : Array Value))).push (seqObj "tuple" us.toArray 0)).objs.size = h'.objs.size + 2 := by rw [size_push', Heap.size_update, size_push']
  unfold ksk_tree
  refine wpAny_bind (listItems_at ho rfl ?_)
  refine wpAny_bind (listUpdate_at ho rfl ?_ (by rw [List.size_toArray]; exact hL') (Nat.zero_le _))
  refine wpAny_bind (seqEpoch_at ho1 rfl ?_)
  refine wpAny_bind (wpAny_newTuple ?_ (by show us.length ≤ _; exact hL'))
  refine wpAny_bind (wpAny_newList ?_ (Nat.zero_le _))
  refine wpAny_holding ?_
  have na := new h'.objs.size (Nat.le_refl _)
  have nk := new _ (Nat.le_trans (Nat.le_add_right _ 2) (Nat.le_of_eq hkS.symm))
  have S0 : Sub X H s H { s with heap := (((h'.push (seqObj "list" us.toArray 0)).update h'.objs.size (Obj.mapSeq fun _ => (#[] : Array Value))).push (seqObj "tuple" us.toArray 0)).push (seqObj "list" #[] 0), toks := tk } := (Sub.refl I).kept fun b o q => by
    have q2 := hkeep b o q
    exact Heap.get?_push_of_some _ (Heap.get?_push_of_some _ ((Heap.get?_update_ne _ _ _ _ (old_ne na q)).trans (Heap.get?_push_of_some _ q2)))
  have S0k := I.hok
  have nH : ∀ c, h'.objs.size ≤ c → H c = none := fun c hc => (I.hok.kept hkeep).fresh hc
  refine sortedk_rest (A := X.A.in1.in1) (ps := ps) (s0 := s) (e1 := e1) I hf hr rfl nk na (by show _ ≠ h'.objs.size; exact Nat.ne_of_gt (by rw [hkS]; omega)) r hC hal hk (Nat.le_trans hl (by decide)) (fun d hdm => ?_) ⟨H, #[], 0, S0, Same.refl H, nH _ (by rw [hkS]; omega), nH _ (Nat.le_refl _), Heap.get?_push_size _ rfl, Heap.get?_push_of_some _ (Heap.get?_push_of_some _ ho1), .nil⟩ fun H' s' out c S e n g vo => ⟨.none, rfl, ?_⟩
  · obtain ⟨p, hp, rfl⟩ := List.mem_map.mp hdm
    have := hd p hp
    show X.A.units + 1 + 1 + _ < _
    omega
  · have hz := vo.length
    rw [List.length_map, List.length_mergeSort] at hz
    have T := S.tell (a := h'.objs.size) (o := .lst ((ps.mergeSort (dataLe false (fun p : V × PyData => p.2))).map (·.1))) na n (nH _ (Nat.le_refl _)) ⟨by rw [List.length_map, List.length_mergeSort]; exact Nat.le_trans hl (by decide), out, c, vo, g⟩
    exact ⟨.ref h'.objs.size, _, T.inv I, rfl, hq H' _ e n⟩
/-- sorted(x, key=f), x a list, a tuple, a dict's keys -/
def rSortedKey (X : Cx) : List V → List V → Hp → VK → Prop := fun vs zs H Q => ∃ (a f : Addr) (ps : List (V × PyData)) (C : V → PyData → Prop), vs = [.ref a] ∧ zs = [.ref f] ∧ Src X.K H a (ps.map (·.1)) ∧ KeyOk X f H C ∧ (∀ p ∈ ps, C p.1 p.2) ∧ AllAlike (ps.map (·.2)) ∧ Sortable (ps.map (·.2)) ∧ ps.length ≤ 100000 ∧ (∀ p ∈ ps, p.2.depth ≤ 8) ∧
  ∀ H' q, Same H H' → H' q = none → Q (.ref q) (upd H' q (.lst ((ps.mergeSort (dataLe false (fun p : V × PyData => p.2))).map (·.1))))
theorem cr_sortedKeyF {X : Cx} (hc : X.calm = true) (hu : X.A.units + 64 < cLine) (hr : Room 2 X.A.in1.in1) : CallRK X (.builtin "sorted") [Str.ofString "key"] (rSortedKey X) := by
  intro pins s σ H vs zs us ws Q I r rz h
  obtain ⟨a, f, ps, C, rfl, rfl, hs, hf, hC, hal, hk, hl, hd, hq⟩ := h
  obtain ⟨u, rfl, rx⟩ := r.one
  cases rx
  obtain ⟨w1, rfl, e1⟩ := rz.one
  cases e1
  exact sortedKey_core hc hu hr I (hs.coll (I.ok.hd hc) I) hf hC hal hk hl hd hq
/-- sorted(d, key=f), d a dict with tuple keys -/
def rSortedKeyT (X : Cx) : List V → List V → Hp → VK → Prop := fun vs zs H Q => ∃ (a f : Addr) (kvs : List (List Key × V)) (dat : List Key → PyData) (C : V → PyData → Prop), vs = [.ref a] ∧ zs = [.ref f] ∧ Rd H a (.dT kvs) ∧ KeyOk X f H C ∧ (∀ kv ∈ kvs, ∀ b, H b = some (.tup (kv.1.map kV)) → C (.ref b) (dat kv.1)) ∧
  AllAlike (kvs.map fun kv => dat kv.1) ∧ Sortable (kvs.map fun kv => dat kv.1) ∧ kvs.length ≤ 100000 ∧ (∀ kv ∈ kvs, (dat kv.1).depth ≤ 8) ∧
  ∀ H' q (L : List (Addr × List Key)), Same H H' → H' q = none → (L.map (·.2)).Perm (kvs.map (·.1)) → (∀ x ∈ L, H x.1 = some (.tup (x.2.map kV))) → Q (.ref q) (upd H' q (.lst (L.map fun x => V.ref x.1)))
theorem isKeys_zip {H : Hp} : ∀ {kvs : List (List Key × V)} {bs : List Addr}, IsKeys H kvs bs → ∃ L : List (Addr × List Key), L.map (·.1) = bs ∧ L.map (·.2) = kvs.map (·.1) ∧ ∀ x ∈ L, H x.1 = some (.tup (x.2.map kV)) := by
  intro kvs bs h
  unfold IsKeys at h
  induction h with
  | nil => exact ⟨[], rfl, rfl, fun _ h => nomatch h⟩
  | @cons p b ps bs h t ih =>
    obtain ⟨L, h1, h2, h3⟩ := ih
    refine ⟨(b, p.1) :: L, by rw [List.map_cons, h1], by rw [List.map_cons, h2]; rfl, fun x hx => ?_⟩
    rcases List.mem_cons.mp hx with rfl | hx
    · exact h
    · exact h3 x hx
theorem perm_map_inv' {α β : Type} {f : α → β} : ∀ {l : List α} {m : List β}, m.Perm (l.map f) → ∃ l' : List α, l'.Perm l ∧ m = l'.map f := by
  intro l
  induction l with
  | nil =>
    intro m h
    have : m = [] := List.Perm.eq_nil h
    exact ⟨[], List.Perm.refl _, by rw [this]; rfl⟩
  | cons a l ih =>
    intro m h
    rw [List.map_cons] at h
    have hm : f a ∈ m := h.mem_iff.mpr List.mem_cons_self
    obtain ⟨m1, m2, rfl⟩ := List.append_of_mem hm
    have h2 : (m1 ++ m2).Perm (l.map f) := (List.perm_middle.symm.trans h).cons_inv
    obtain ⟨l', h3, h4⟩ := ih h2
    obtain ⟨la, lb, rfl, ha, hb⟩ := List.map_eq_append_iff.mp h4.symm
    exact ⟨la ++ a :: lb, List.perm_middle.trans (h3.cons a), by rw [List.map_append, List.map_cons, ha, hb]⟩
theorem cr_sortedKeyT {X : Cx} (hc : X.calm = true) (hu : X.A.units + 64 < cLine) (hr : Room 2 X.A.in1.in1) : CallRK X (.builtin "sorted") [Str.ofString "key"] (rSortedKeyT X) := by
  intro pins s σ H vs zs us ws Q I r rz h
  obtain ⟨a, f, kvs, dat, C, rfl, rfl, hs, hf, hC, hal, hk, hl, hd, hq⟩ := h
  obtain ⟨u, rfl, rx⟩ := r.one
  cases rx
  obtain ⟨w1, rfl, e1⟩ := rz.one
  cases e1
  obtain ⟨bs, h1, h2⟩ := coll_dt (A := X.A.in1) (I.ok.hd hc) I hs
  obtain ⟨L, g1, g2, g3⟩ := isKeys_zip h1
  have m1 : (L.map fun x => (V.ref x.1, dat x.2)).map (·.1) = bs.map V.ref := by rw [← g1, List.map_map, List.map_map]; rfl
  have m2 : (L.map fun x => (V.ref x.1, dat x.2)).map (·.2) = kvs.map fun kv => dat kv.1 := by
    have : (kvs.map fun kv => dat kv.1) = (kvs.map (·.1)).map dat := by rw [List.map_map]; rfl
    rw [this, ← g2, List.map_map, List.map_map]
    rfl
  have mem : ∀ x ∈ L, ∃ kv ∈ kvs, kv.1 = x.2 := fun x hx => by
    have : x.2 ∈ kvs.map (·.1) := by rw [← g2]; exact List.mem_map.mpr ⟨x, hx, rfl⟩
    exact List.mem_map.mp this
  refine sortedKey_core (ps := L.map fun x => (V.ref x.1, dat x.2)) hc hu hr I (by rw [m1]; exact h2) hf (fun p hp => ?_) (by rw [m2]; exact hal) (by rw [m2]; exact hk) ?_ (fun p hp => ?_) fun H' q e hn => ?_
  · obtain ⟨x, hx, rfl⟩ := List.mem_map.mp hp
    obtain ⟨kv, hkv, ek⟩ := mem x hx
    have := hC kv hkv x.1 (by rw [ek]; exact g3 x hx)
    rw [ek] at this
    exact this
  · rw [List.length_map]
    have := congrArg List.length g2
    rw [List.length_map, List.length_map] at this
    omega
  · obtain ⟨x, hx, rfl⟩ := List.mem_map.mp hp
    obtain ⟨kv, hkv, ek⟩ := mem x hx
    have := hd kv hkv
    rw [ek] at this
    exact this
  · have hp : ((L.map fun x => (V.ref x.1, dat x.2)).mergeSort (dataLe false (fun p : V × PyData => p.2))).Perm (L.map fun x => (V.ref x.1, dat x.2)) := List.mergeSort_perm _ _
    obtain ⟨L', p1, p2⟩ := perm_map_inv' hp
    rw [p2, List.map_map]
    exact hq H' q L' e hn (by rw [← g2]; exact p1.map _) fun x hx => g3 x (p1.mem_iff.mp hx)
end MC
end
section
set_option Elab.async false
set_option linter.all false
set_option maxRecDepth 100000
set_option maxHeartbeats 4000000
/-! Own rules, 7: min(l, key=f), f a def of the program: one of the items. -/
namespace MC
open PySem PySem.Spec PyProof.Rows L2
open PySem.W (hideAll of_hideAll hideAll_none hideAll_get EachIs alike alikeAll AllAlike Sortable dataLe Datum DatumOrd)

section
variable {X : Cx} {pins : List (Addr × Obj)} {σ : L2.St} {H : Hp} {s s0 : Shared} {C : V → PyData → Prop} {f it S l : Addr} {bs : List Addr} {ds : List PyData} {A : Around}
/-- the state of the search: the items up to j are read -/
def MW (X : Cx) (H : Hp) (s0 : Shared) (it S l : Addr) (j : Nat) (o : Obj) (H' : Hp) (s : Shared) : Prop :=
  Sub X H s0 H' s ∧ Same H H' ∧ H' it = none ∧ H' S = none ∧ s.heap.IsListIter it l j ∧ s.heap.get? S = some o
/-- the best so far and its key -/
def Best (K : PySem.W.Frag) (H' : Hp) (bs : List Addr) (ds : List PyData) (vb kb : Value) : Prop := (∃ b ∈ bs, vb = .ref b) ∧ ∃ z, ∃ d ∈ ds, RelV z kb ∧ Dp K H' z d
theorem moved_eq {s s' : Shared} {wr : List Addr} (m : Moved wr (fun a b => b = a) s s') : s' = { s with heap := s'.heap, toks := s'.toks } := by
  obtain ⟨h, g, d, o, t⟩ := m
  cases s
  cases s'
  simp only at g d o
  subst g d o
  rfl
theorem isList_refs (I : Inv X pins σ H s0) {H' : Hp} (W : Sub X H s0 H' s) (e : Same H H') (hl : H l = some (.lst (bs.map V.ref))) : s.heap.IsList l (bs.map Value.ref).toArray := by
  obtain ⟨z, its, n, r, q⟩ := W.hok l _ (e l _ hl)
  have : its = bs.map Value.ref := by
    clear hl q z
    induction bs generalizing its with
    | nil => cases r; rfl
    | cons b bs ih =>
      cases r with
      | cons h1 h2 =>
        rw [ih _ h2, show _ = Value.ref b from h1]
        rfl
  subst this
  exact ⟨_, q, rfl, n, rfl⟩
theorem mw_next (I : Inv X pins σ H s0) (hh : A.handled = none) (hl : H l = some (.lst (bs.map V.ref))) (hli : l ≠ it) (hit : s0.heap.get? it = none) (hSi : S ≠ it) {j : Nat} {o : Obj} {H' : Hp} (W : MW X H s0 it S l j o H' s) {Q : Option Value → Shared → Prop} {E : Value → Shared → Prop}
    (h1 : ∀ b s', bs[j]? = some b → MW X H s0 it S l (j + 1) o H' s' → Q (some (.ref b)) s') (h2 : bs.length = j → ∀ s', MW X H s0 it S l j o H' s' ∨ Sub X H s0 H' s' ∧ Same H H' ∧ H' S = none ∧ s'.heap.get? S = some o → Q none s') (hj : j ≤ bs.length) :
    wpAny (model X.prog X.w) A (pyNext (.ref it)) Q E s := by
  obtain ⟨S1, e, n1, n2, w1, w2⟩ := W
  have hL := isList_refs I S1 e hl
  have st : ∀ s', Moved [it] (fun a b => b = a) s s' → Sub X H s0 H' s' := fun s' m => by
    rw [moved_eq m]
    refine S1.stir fun b o hb q => m.heap b o ?_ q
    intro z
    rw [List.mem_singleton] at z
    subst z
    rcases hb with ⟨u, hb⟩ | ⟨u, hb⟩
    · rw [hit] at hb
      cases hb
    · rw [n1] at hb
      cases hb
  have sS : ∀ s', Moved [it] (fun a b => b = a) s s' → s'.heap.get? S = some o := fun s' m => m.heap S o (by rw [List.mem_singleton]; exact hSi) w2
  have WW := (Walks.list (prog := X.prog) (w := X.w) (A := A) hh it l hli (bs.map Value.ref).toArray).toS
  have hsz : (bs.map Value.ref).toArray.size = bs.length := by simp
  rcases Nat.lt_or_ge j bs.length with hlt | hge
  · refine WW.item j s Q E (by rw [hsz]; exact hlt) ⟨w1, hL⟩ fun v s' hv st' m => ?_
    have hb : bs[j]? = some bs[j] := List.getElem?_eq_getElem hlt
    have ev : v = .ref bs[j] := by
      have q : (bs.map Value.ref).toArray[j]? = some v := hv
      rw [List.getElem?_toArray, List.getElem?_map, hb] at q
      exact (Option.some.inj q).symm
    subst ev
    exact h1 _ s' hb ⟨st s' m, e, n1, n2, st'.1, sS s' m⟩
  · have ej : bs.length = j := Nat.le_antisymm hge hj
    refine WW.done s Q E (by rw [hsz, ej]; exact ⟨w1, hL⟩) fun s' m => h2 ej s' (.inr ⟨st s' m, e, n2, sS s' m⟩)
theorem mw_call (I : Inv X pins σ H s0) (hf : KeyOk X f H C) (hr : Room 2 A) (he : A.frames = X.A.frames) (hit : s0.heap.get? it = none) (hS : s0.heap.get? S = none) {j : Nat} {o : Obj} {H' : Hp} (W : MW X H s0 it S l j o H' s) {b : Addr} {d : PyData} (hc : C (.ref b) d) {Q : Value → Shared → Prop}
    (h : ∀ k s' H2 z, MW X H s0 it S l j o H2 s' → Same H' H2 → RelV z k → Dp X.K H2 z d → Q k s') : wpAny (model X.prog X.w) A (call (.ref f) [.ref b]) Q (fun _ _ => False) s := by
  obtain ⟨S1, e, n1, n2, ⟨oi, w1, w3, w4⟩, w2⟩ := W
  have I1 := S1.inv I
  have e0 : Env0 X.prog X.w X.K X.mg X.base A X.stack s H' := ⟨he.trans I1.ok.frames, I1.ok.mod, I1.bs, Nat.le_trans I1.ok.bsz I1.sz, I1.stack, I1.stkFree, I1.hok, I1.bare⟩
  refine hf A H' s (.ref b) (.ref b) d _ e hr e0 rfl hc fun z r H2 s2 os bare un hok e2 rz hd => ?_
  have o1 := Un.hold2 I (s := s0) (s' := s) (s'' := s2) (H' := H') (H'' := H2) un hit w1 n1
  have o2 := Un.hold2 I (s := s0) (s' := s) (s'' := s2) (H' := H') (H'' := H2) un hS w2 n2
  exact h r s2 H2 z ⟨S1.trans ⟨os, bare, un, hok⟩, e.trans e2, o1.2, o2.2, ⟨oi, o1.1, w3, w4⟩, o2.1⟩ e2 rz hd
theorem mw_set (I : Inv X pins σ H s0) (hS : s0.heap.get? S = none) (hSi : S ≠ it) {j : Nat} {o o' : Obj} {H' : Hp} {g : Obj → Obj} {tk : Nat} (W : MW X H s0 it S l j o H' s) (ho : (s.heap.update S g).get? S = some o') : MW X H s0 it S l j o' H' { s with heap := s.heap.update S g, toks := tk } := by
  obtain ⟨S1, e, n1, n2, ⟨oi, w1, w3, w4⟩, w2⟩ := W
  have sb := Heap.SameBut.update s.heap S g
  refine ⟨S1.stir fun b o hb q => (sb.2 b ?_).trans q, e, n1, n2, ⟨oi, (sb.2 it (Ne.symm hSi)).trans w1, w3, w4⟩, ho⟩
  rintro rfl
  rcases hb with ⟨u, hb⟩ | ⟨u, hb⟩
  · rw [hS] at hb
    cases hb
  · rw [n2] at hb
    cases hb

/-- the data of the keys -/
structure KData (A : Around) (ds : List PyData) : Prop where
  alike : AllAlike ds
  some' : ∀ d ∈ ds, d ≠ .none
  room : ∀ d ∈ ds, A.units + d.depth < cLine
theorem min_loop (I : Inv X pins σ H s0) (hh : A.handled = none) (hf : KeyOk X f H C) (hr : Room 2 A.in1) (he : A.frames = X.A.frames) (hl : H l = some (.lst (bs.map V.ref))) (hli : l ≠ it) (hit : s0.heap.get? it = none) (hS : s0.heap.get? S = none) (hSi : S ≠ it)
    (hC : ∀ b ∈ bs, ∃ d ∈ ds, C (.ref b) d) (KD : KData A.in1 ds) (kw : List (Str × Value)) {R : Result → Shared → Prop} (hR : ∀ b ∈ bs, ∀ H' s', Sub X H s0 H' s' → Same H H' → R (.ok (.ret (.ref b))) s') :
    ∀ (k j : Nat) (s : Shared) (vb kb : Value) (c : Nat) (H' : Hp), bs.length - j = k → j ≤ bs.length → MW X H s0 it S l j { cls := .type "list", dict := none, data := .seq #[vb, kb] c, slots := #[] } H' s → Best X.K H' bs ds vb kb →
      codeAny (model X.prog X.w) A (.builtin "min.loop" ⟨[.ref it, (.ref f), .ref S], kw⟩) R s := by
  intro k
  induction k with
  | zero =>
    intro j s vb kb c H' hk hj W hB
    refine codeAny_builtin F.entry_min_loop ?_
    rw [Around.under_plainId F.plain_min_loop _]
    show wpAny _ A.in1 (seqItems? (.ref S) >>= _) _ _ s
    refine wpAny_bind (wpAny_seqItems W.2.2.2.2.2 rfl ?_)
    show wpAny _ A.in1 (tryCatch (pyNext (.ref it)) _ >>= _) _ _ s
    refine wpAny_bind (wpAny_tryCatch (mw_next (A := A.in1) I hh hl hli hit hSi W (fun b s' hb => ?_) (fun _ s' W' => ?_) hj))
    · have := (List.getElem?_eq_some_iff.mp hb).1
      omega
    · have W2 : Sub X H s0 H' s' ∧ Same H H' ∧ H' S = none ∧ s'.heap.get? S = some { cls := .type "list", dict := none, data := .seq #[vb, kb] c, slots := #[] } := by
        rcases W' with W' | W'
        · exact ⟨W'.1, W'.2.1, W'.2.2.2.1, W'.2.2.2.2.2⟩
        · exact W'
      show wpAny _ A.in1 (updateSeq S (fun _ => #[]) >>= _) _ _ _
      refine wpAny_bind ?_
      refine wpAny_updateSeq W2.2.2.2 rfl (wpAny_bind (wpAny_letGo (wpAny_pure ?_)))
      obtain ⟨b, hb, rfl⟩ := hB.1
      refine hR b hb H' _ (W2.1.stir fun c o hb q => ((Heap.SameBut.update s'.heap S _).2 c ?_).trans q) W2.2.1
      rintro rfl
      rcases hb with ⟨u, hb⟩ | ⟨u, hb⟩
      · rw [hS] at hb
        cases hb
      · rw [W2.2.2.1] at hb
        cases hb
  | succ k ih =>
    intro j s vb kb c H' hk hj W hB
    have hname : (toString "min" ++ toString ".loop" : String) = "min.loop" := by decide
    refine codeAny_builtin F.entry_min_loop ?_
    rw [Around.under_plainId F.plain_min_loop _]
    show wpAny _ A.in1 (seqItems? (.ref S) >>= _) _ _ s
    refine wpAny_bind (wpAny_seqItems W.2.2.2.2.2 rfl ?_)
    show wpAny _ A.in1 (tryCatch (pyNext (.ref it)) _ >>= _) _ _ s
    refine wpAny_bind (wpAny_tryCatch (mw_next (A := A.in1) I hh hl hli hit hSi W (fun b s' hb W' => ?_) (fun ej s' W' => ?_) hj))
    · have hbm := List.mem_of_getElem? hb
      obtain ⟨d, hd, hCd⟩ := hC b hbm
      show wpAny _ A.in1 (tryCatch (holding [.ref b] (call (.ref f) [.ref b])) _ >>= _) _ _ _
      refine wpAny_bind (wpAny_tryCatch (wpAny_holding (wpAny_mono (mw_call (A := A.in1) I hf hr he hit hS W' hCd (Q := fun kx s2 => ∃ H2 z, MW X H s0 it S l (j + 1) { cls := .type "list", dict := none, data := .seq #[vb, kb] c, slots := #[] } H2 s2 ∧ Same H' H2 ∧ RelV z kx ∧ Dp X.K H2 z d) fun k s2 H2 z a b c d => ⟨H2, z, a, b, c, d⟩) (fun kx s2 hq => ?_) fun _ _ z => z.elim)))
      obtain ⟨H2, z, W2, e2, rz, hz⟩ := hq
      obtain ⟨⟨b0, hb0, rfl⟩, z0, d0, hd0, rz0, hz0⟩ := hB
      obtain ⟨as1, r1⟩ := Dp.reads (W2.1.inv I) d z kx hz rz
      obtain ⟨as2, r2⟩ := Dp.reads (W2.1.inv I) d0 z0 kb (Dp.same e2 _ _ hz0) rz0
      show wpAny _ A.in1 (tryCatch (holding [.ref b, kx] (richCompare .Lt kx kb >>= _)) _ >>= _) _ _ _
      refine wpAny_bind (wpAny_tryCatch (wpAny_holding (wpAny_bind (PySem.W.rcLt_alike d d0 A.in1 s2 kx kb as1 as2 r1 r2 (KD.alike d hd d0 hd0) (KD.some' d hd) (by have := KD.room d hd; have := Nat.min_le_left d.depth d0.depth; omega) X.prog X.w _ _ ?_))))
      refine wpAny_bind (wpAny_holding (wpAny_truthy_bool ?_))
      refine wpAny_bind (wpAny_letGo (wpAny_pure ?_))
      cases hlt : PySem.W.dataLt d d0 with
      | true =>
        simp only [if_true]
        refine wpAny_bind ?_
        refine wpAny_updateSeq W2.2.2.2.2.2 rfl (wpAny_bind (wpAny_letGo ?_))
        rw [hname]
        refine wpAny_pure ⟨plainId_quiet F.plain_min_loop _, ih (j + 1) _ (.ref b) kx _ H2 (by omega) (List.getElem?_eq_some_iff.mp hb).1 (mw_set (tk := s2.toks) I hS hSi W2 (Heap.get?_update_self _ W2.2.2.2.2.2 rfl)) ⟨⟨b, hbm, rfl⟩, z, d, hd, rz, hz⟩⟩
      | false =>
        simp only [Bool.false_eq_true, if_false]
        refine wpAny_bind (wpAny_letGo ?_)
        rw [hname]
        exact wpAny_pure ⟨plainId_quiet F.plain_min_loop _, ih (j + 1) _ (.ref b0) kb c H2 (by omega) (List.getElem?_eq_some_iff.mp hb).1 W2 ⟨⟨b0, hb0, rfl⟩, z0, d0, hd0, rz0, Dp.same e2 _ _ hz0⟩⟩
    · omega

theorem min_first (I : Inv X pins σ H s0) (hh : A.handled = none) (hf : KeyOk X f H C) (hr : Room 2 A.in1) (he : A.frames = X.A.frames) (hl : H l = some (.lst (bs.map V.ref))) (hli : l ≠ it) (hit : s0.heap.get? it = none) (hS : s0.heap.get? S = none) (hSi : S ≠ it)
    (hC : ∀ b ∈ bs, ∃ d ∈ ds, C (.ref b) d) (KD : KData A.in1 ds) (kw : List (Str × Value)) {R : Result → Shared → Prop} (hR : ∀ b ∈ bs, ∀ H' s', Sub X H s0 H' s' → Same H H' → R (.ok (.ret (.ref b))) s') (hne : bs ≠ []) {H' : Hp} {c : Nat}
    (W : MW X H s0 it S l 0 { cls := .type "list", dict := none, data := .seq #[] c, slots := #[] } H' s) : codeAny (model X.prog X.w) A (.builtin "min.loop" ⟨[.ref it, (.ref f), .ref S], kw⟩) R s := by
  have hname : (toString "min" ++ toString ".loop" : String) = "min.loop" := by decide
  refine codeAny_builtin F.entry_min_loop ?_
  rw [Around.under_plainId F.plain_min_loop _]
  show wpAny _ A.in1 (seqItems? (.ref S) >>= _) _ _ s
  refine wpAny_bind (wpAny_seqItems W.2.2.2.2.2 rfl ?_)
  show wpAny _ A.in1 (tryCatch (pyNext (.ref it)) _ >>= _) _ _ s
  refine wpAny_bind (wpAny_tryCatch (mw_next (A := A.in1) I hh hl hli hit hSi W (fun b s' hb W' => ?_) (fun ej s' W' => ?_) (Nat.zero_le _)))
  · have hbm := List.mem_of_getElem? hb
    obtain ⟨d, hd, hCd⟩ := hC b hbm
    show wpAny _ A.in1 (tryCatch (holding [.ref b] (call (.ref f) [.ref b])) _ >>= _) _ _ _
    refine wpAny_bind (wpAny_tryCatch (wpAny_holding (wpAny_mono (mw_call (A := A.in1) I hf hr he hit hS W' hCd (Q := fun kx s2 => ∃ H2 z, MW X H s0 it S l (0 + 1) { cls := .type "list", dict := none, data := .seq #[] c, slots := #[] } H2 s2 ∧ Same H' H2 ∧ RelV z kx ∧ Dp X.K H2 z d) fun k s2 H2 z a b c d => ⟨H2, z, a, b, c, d⟩) (fun kx s2 hq => ?_) fun _ _ z => z.elim)))
    obtain ⟨H2, z, W2, e2, rz, hz⟩ := hq
    show wpAny _ A.in1 (updateSeq S (fun _ => #[.ref b, kx]) >>= _) _ _ _
    refine wpAny_bind ?_
    refine wpAny_updateSeq W2.2.2.2.2.2 rfl ?_
    rw [hname]
    refine wpAny_pure ⟨plainId_quiet F.plain_min_loop _, min_loop I hh hf hr he hl hli hit hS hSi hC KD kw hR _ (0 + 1) _ (.ref b) kx _ H2 rfl (List.getElem?_eq_some_iff.mp hb).1 (mw_set (tk := s2.toks) I hS hSi W2 (Heap.get?_update_self _ W2.2.2.2.2.2 rfl)) ⟨⟨b, hbm, rfl⟩, z, d, hd, rz, hz⟩⟩
  · exact absurd (List.eq_nil_of_length_eq_zero ej) hne
end
/-- min(l, key=f), l a list of objects: one of them -/
def rMinKey (X : Cx) : List V → List V → Hp → VK → Prop := fun vs zs H Q => ∃ (l f : Addr) (bs : List Addr) (ds : List PyData) (C : V → PyData → Prop), vs = [.ref l] ∧ zs = [.ref f] ∧ H l = some (.lst (bs.map V.ref)) ∧ bs ≠ [] ∧ KeyOk X f H C ∧ (∀ b ∈ bs, ∃ d ∈ ds, C (.ref b) d) ∧ AllAlike ds ∧ (∀ d ∈ ds, d ≠ .none) ∧ (∀ d ∈ ds, d.depth ≤ 8) ∧
  ∀ b ∈ bs, ∀ H', Same H H' → Q (.ref b) H'
theorem cr_minKeyF {X : Cx} (hc : X.calm = true) (hu : X.A.units + 64 < cLine) (hr : Room 2 X.A.in1) : CallRK X (.builtin "min") [Str.ofString "key"] (rMinKey X) := by
  intro pins s σ H vs zs us ws Q I r rz h
  obtain ⟨l, f, bs, ds, C, rfl, rfl, hl, hne, hf, hC, hal, hsn, hd, hq⟩ := h
  obtain ⟨u, rfl, rx⟩ := r.one
  cases rx
  obtain ⟨w1, rfl, e1⟩ := rz.one
  cases e1
  have hh : X.A.handled = none := I.ok.hd hc
  have hL := isList_refs I (Sub.refl I) (Same.refl H) hl
  have hname : (toString "min" ++ toString ".loop" : String) = "min.loop" := by decide
  refine PyProof.Rows.kmk_tree F.kind_min F.plain_min F.entry_min (PyProof.Rows.kmk_min_key _ _) ?_
  show wpAny _ X.A.in1 (Builtin.Builtins.bindParams "min" ["key", "default"] 0 ⟨[], [(Str.ofString "key", .ref f)]⟩ >>= _) _ _ s
  refine wpAny_bind (wpAny_of_eq (show Builtin.Builtins.bindParams "min" ["key", "default"] 0 ⟨[], [(Str.ofString "key", .ref f)]⟩ = pure [some (.ref f), none] from rfl) ?_)
  refine wpAny_bind (wpAny_pure ?_)
  refine wpAny_bind (PySem.W.iter_listW (A := X.A.in1) hh hL fun s₂ e W st hfp hw hk => ?_)
  refine wpAny_bind (wpAny_newObj_type ?_)
  rw [hname]
  have hlt : l < s.heap.objs.size := by
    obtain ⟨_, q, _⟩ := hL
    exact Heap.lt_size q
  have hz : s₂.heap.objs.size = s.heap.objs.size + 1 := by
    rw [e]
    exact Heap.size_push ..
  have hk2 : ∀ b o, s.heap.get? b = some o → (s₂.heap.push { cls := .type "list", data := .seq #[] 0 }).get? b = some o := fun b o q => Heap.get?_push_of_some _ (hk b o q)
  have S2 : Sub X H s H { s₂ with heap := s₂.heap.push { cls := .type "list", data := .seq #[] 0 }, toks := s₂.toks } := by
    have := (Sub.refl I).kept (h' := s₂.heap.push { cls := .type "list", data := .seq #[] 0 }) (t := s₂.toks) hk2
    rw [e] at this ⊢
    exact this
  refine wpAny_pure ⟨plainId_quiet F.plain_min_loop _, min_first (A := X.A) (c := 0) (H' := H) I hh hf hr rfl hl (Nat.ne_of_lt hlt) (Heap.get?_none_of_le (Nat.le_refl _)) (Heap.get?_none_of_le (by rw [hz]; exact Nat.le_succ _)) (Nat.ne_of_gt (by rw [hz]; exact Nat.lt_succ_self _)) hC ⟨hal, hsn, fun d hdm => ?_⟩ _ (fun b hb H' s' S e => ?_) hne ⟨S2, Same.refl H, I.hok.fresh (Nat.le_refl _), I.hok.fresh (by rw [hz]; exact Nat.le_succ _), ?_, Heap.get?_push_size _ rfl⟩⟩
  · have := hd d hdm
    show X.A.units + 1 + _ < _
    omega
  · exact ⟨.ref b, H', S.inv I, rfl, hq b hb H' e⟩
  · obtain ⟨o, a1, a2, a3⟩ := st.1
    exact ⟨o, Heap.get?_push_of_some _ a1, a2, a3⟩
end MC
end
section
set_option Elab.async false
set_option linter.all false
set_option maxRecDepth 100000
set_option maxHeartbeats 4000000
/-! Own rules, sets 1: set(x) for a list or a tuple x, whatever its items are, by what one item's add does. -/
namespace MC
open PySem PySem.Spec PyProof.Rows L2

section
variable {P : Program} {w : World} {A : Around} {I : Addr} {fp wr : List Addr} {G : Array GenState → Array GenState → Prop} {n : Nat} {Pv : Nat → Value → Prop} {St : Nat → Shared → Prop} {R : Result → Shared → Prop}
/-- what the set's state must keep: SR i h says that h holds the set of the first i items at S; it leans on the set's own object and on what stood in h0 -/
structure SetRun (P : Program) (w : World) (A : Around) (S : Addr) (h0 : Heap) (n : Nat) (Pv : Nat → Value → Prop) (SR : Nat → Heap → Prop) : Prop where
  keep : ∀ i h h', SR i h → (∀ o, h.get? S = some o → h'.get? S = some o) → (∀ b o, h0.get? b = some o → h'.get? b = some o) → SR i h'
  add : ∀ i v (s : Shared) (Q : Bool → Shared → Prop) (E : Value → Shared → Prop), i < n → Pv i v → SR i s.heap → (∀ b o, h0.get? b = some o → s.heap.get? b = some o) →
    (∀ b h' tk, s.toks ≤ tk → Heap.SameBut S s.heap h' → SR (i + 1) h' → Q b { s with heap := h', toks := tk }) → wpAny (model P w) A (setAdd S v) Q E s
theorem set_loop (W : WalksS P w A.in1 I fp wr G n Pv St) (S : Addr) (hSf : S ∉ fp) (h0 : Heap) (hS0 : h0.get? S = none) (hw0 : ∀ b ∈ wr, h0.get? b = none) {SR : Nat → Heap → Prop} (K : SetRun P w A.in1 S h0 n Pv SR) :
    ∀ (k i : Nat) (s : Shared), n - i = k → i ≤ n → St i s → (∀ b o, h0.get? b = some o → s.heap.get? b = some o) → SR i s.heap →
      (∀ s', Moved (S :: wr) G s s' → SR n s'.heap → (∀ b o, h0.get? b = some o → s'.heap.get? b = some o) → R (.ok (.ret .none)) s') →
      codeAny (model P w) A (.builtin "set.update.loop" ⟨[.ref S, .ref I], []⟩) R s := by
  have hSw : S ∉ wr := fun h => hSf (W.sub _ h)
  have hsub : ∀ b ∈ wr, b ∈ S :: wr := fun b hb => List.mem_cons_of_mem _ hb
  have keepM : ∀ {s s' : Shared}, Moved wr G s s' → (∀ b o, h0.get? b = some o → s.heap.get? b = some o) → ∀ b o, h0.get? b = some o → s'.heap.get? b = some o := fun m kp b o e =>
    m.heap b o (fun hb => by rw [hw0 b hb] at e; cases e) (kp b o e)
  intro k
  induction k with
  | zero =>
    intro i s hk hi hst kp hS hR
    obtain rfl : i = n := by omega
    refine codeAny_builtin F.entry_set_update_loop ?_
    rw [Around.under_plainId F.plain_set_update_loop _]
    refine wpAny_bind (W.done s _ _ hst fun s' m => ?_)
    exact wpAny_pure (hR s' (m.mono hsub) (K.keep _ _ _ hS (fun o e => m.heap S o hSw e) (keepM m kp)) (keepM m kp))
  | succ k ih =>
    intro i s hk hi hst kp hS hR
    have hlt : i < n := by omega
    refine codeAny_builtin F.entry_set_update_loop ?_
    rw [Around.under_plainId F.plain_set_update_loop _]
    refine wpAny_bind (W.item i s _ _ hlt hst fun v s' hP hst' m => ?_)
    have kp' := keepM m kp
    show wpAny _ A.in1 (holding [v] (setAdd S v) >>= _) _ _ s'
    refine wpAny_bind (wpAny_holding (K.add i v s' _ _ hlt hP (K.keep _ _ _ hS (fun o e => m.heap S o hSw e) kp') kp' fun b h' tk htk sb hS2 => ?_))
    have kp2 : ∀ b o, h0.get? b = some o → h'.get? b = some o := fun b o e => (sb.2 b (fun z => by rw [z, hS0] at e; cases e)).trans (kp' b o e)
    refine wpAny_pure ⟨plainId_quiet F.plain_set_update_loop _, ih (i + 1) _ (by omega) hlt (W.frame _ s' _ _ hst' htk fun b hb o e => ?_) kp2 hS2 fun s'' m2 hS3 kp3 => ?_⟩
    · exact (sb.2 b (fun h : b = S => hSf (by rw [← h]; exact hb))).trans e
    · refine hR s'' (Moved.trans W.gtrans ((m.mono hsub).then_heap htk fun b o hb e => ?_) m2) hS3 kp3
      exact (sb.2 b (fun h : b = S => hb (by rw [h]; exact List.mem_cons_self))).trans e
end

/-- a new set as the world makes it -/
def newSetObj (w : World) : Obj := { cls := .type "set", dict := none, data := .set #[] 0 (.fresh 0 0 (!w.params.followText "set-order")) }
section
variable {P : Program} {w : World} {A : Around} {E : Value → Shared → Prop} {s : Shared}
theorem call_setX {l : Addr} {items : Array Value} {SR : Nat → Heap → Prop} {Q : Value → Shared → Prop} (hh : A.handled = none) (hl : s.heap.IsList l items ∨ s.heap.IsTuple l items)
    (h0 : ∀ h, h.get? s.heap.objs.size = some (newSetObj w) → SR 0 h)
    (K : SetRun P w A.in1.in1.in1 s.heap.objs.size s.heap items.size (fun i v => items[i]? = some v) SR)
    (h : ∀ (h' : Heap) (tk : Nat), SR items.size h' → (∀ b o, s.heap.get? b = some o → h'.get? b = some o) → Q (.ref s.heap.objs.size) { s with heap := h', toks := tk }) :
    wpAny (model P w) A (call (.type "set") [.ref l]) Q E s := by
  obtain ⟨c, tl, hmro⟩ := F.called_set.mro
  have hmade := F.called_set.made
  have hsub := F.called_set.sub
  refine wpAny_call (codeAny_of_tree ?_)
  show wpAny _ _ (callAny (.type "set") _) _ _ _
  refine wpAny_pure ⟨Code.quiet_builtin _ (by decide +kernel), codeAny_builtin F.entry_type_call ?_⟩
  rw [Around.under_plain (weight_type_call_type "set" [.ref l] []) rfl]
  have h1 := F.called_set.notType
  have h2 := F.called_set.canCreate
  have hct := F.typeCall_set_1 (.ref l)
  repeat (any_goals (first | assumption | wp_step))
  refine codeAny_mono (code_set_led1 (.ref l) (E := E) (Q₁ := fun obj s₁ => obj = .ref s.heap.objs.size ∧ s₁ = { s with heap := s.heap.push (newSetObj w) }) ⟨rfl, rfl⟩) fun r s₁ hr => ?_
  cases r with
  | error e => exact hr
  | ok fl =>
    cases fl with
    | ret obj =>
      obtain ⟨rfl, rfl⟩ := hr
      have hS : (s.heap.push (newSetObj w)).get? s.heap.objs.size = some (newSetObj w) := Heap.get?_push_size _ rfl
      have hT : Shared.TypeIs { s with heap := s.heap.push (newSetObj w) } (.ref s.heap.objs.size) "set" := ⟨_, hS, rfl⟩
      have hli := F.called_set.init.lookup
      have hbi := F.called_set.init.bind (.ref s.heap.objs.size)
      repeat (any_goals (first | assumption | wp_step))
      refine codeAny_mono (codeAny_call_builtin (R := wants (fun r s₂ => r = .none ∧ ∃ h' tk, s₂ = { s with heap := h', toks := tk } ∧ SR items.size h' ∧ (∀ b o, s.heap.get? b = some o → h'.get? b = some o)) E) F.called_set.init.plain F.entry_set_init (check_set_init_1 hT ?_)) fun r₂ s₂ hr₂ => ?_
      · have hne0 : s.heap.get? s.heap.objs.size = none := Heap.get?_none_of_le (Nat.le_refl _)
        have hlS : l < s.heap.objs.size := by
          rcases hl with ⟨o, ho, _⟩ | ⟨o, ho, _⟩ <;> exact Heap.lt_size ho
        have hh3 : A.in1.in1.in1.handled = none := hh
        have hneI : l ≠ (s.heap.push (newSetObj w)).objs.size := by
          rw [Heap.size_push]; exact Nat.ne_of_lt (Nat.lt_succ_of_lt hlS)
        have hSf : s.heap.objs.size ∉ [(s.heap.push (newSetObj w)).objs.size, l] := by
          rw [Heap.size_push]; simp only [List.mem_cons, List.mem_singleton, List.not_mem_nil, or_false, not_or]
          exact ⟨Nat.ne_of_lt (Nat.lt_succ_self _), Nat.ne_of_gt hlS⟩
        have hw0 : ∀ b ∈ [(s.heap.push (newSetObj w)).objs.size], s.heap.get? b = none := fun b hb => by
          rw [List.mem_singleton] at hb
          rw [hb, Heap.size_push]
          exact Heap.get?_none_of_le (Nat.le_succ _)
        have fin : ∀ (o : Obj) (s' : Shared), Moved (s.heap.objs.size :: [(s.heap.push (newSetObj w)).objs.size]) (fun a b => b = a) { s with heap := (s.heap.push (newSetObj w)).push o } s' → SR items.size s'.heap → (∀ b o, s.heap.get? b = some o → s'.heap.get? b = some o) →
            (Value.none = .none ∧ ∃ h' tk, s' = { s with heap := h', toks := tk } ∧ SR items.size h' ∧ (∀ b o, s.heap.get? b = some o → h'.get? b = some o)) := fun o s' m hS2 kp => by
          obtain ⟨h', g', d', tk', os'⟩ := s'
          have eg : g' = s.gens := m.gens
          have ed : d' = s.drawn := m.drawn
          have eo : os' = s.os := m.os
          subst eg; subst ed; subst eo
          exact ⟨rfl, h', tk', rfl, hS2, kp⟩
        rcases hl with hl | hl
        · obtain ⟨ol, hol, hcl, nl, hdl⟩ := hl
          obtain ⟨ocls, odict, odata, oslots⟩ := ol
          simp only at hcl hdl
          subst hcl; subst hdl
          have hol' : (s.heap.push (newSetObj w)).get? l = some { cls := .type "list", dict := odict, data := .seq items nl, slots := oslots } := Heap.get?_push_of_some _ hol
          have hsls := PySem.F.sub_list_set
          have hslf := PySem.F.sub_list_frozenset
          have hne : (Value.type "list" == Value.type "dict") = false := by decide
          have hl1 : (s.heap.push (newSetObj w)).IsList l items := ⟨_, hol', rfl, nl, rfl⟩
          unfold Builtin.«set.__init__» noKeywords Builtin.Frozenset.updateFrom
          generalize hPI : pyIter = PI
          wp_walk
          subst hPI
          refine wpAny_pyIter_list hl1 ?_
          refine wpAny_bind (wpAny_runValue ?_)
          refine set_loop ((Walks.list hh3 _ l hneI items).toS) s.heap.objs.size hSf s.heap hne0 hw0 K (items.size - 0) 0 _ (by omega) (Nat.zero_le _)
            ⟨⟨_, Heap.get?_push_size _ rfl, rfl, rfl⟩, hl1.push _⟩ (fun b o e => Heap.get?_push_of_some _ (Heap.get?_push_of_some _ e)) (h0 _ (Heap.get?_push_of_some _ hS)) fun s' m hS2 kp => ?_
          show wpAny _ _ _ _ _ _
          refine wpAny_pure ?_
          show wpAny _ _ (ret Value.none) _ _ _
          exact wpAny_pure (fin _ s' m hS2 kp)
        · obtain ⟨ol, hol, hcl, nl, hdl⟩ := hl
          obtain ⟨ocls, odict, odata, oslots⟩ := ol
          simp only at hcl hdl
          subst hcl; subst hdl
          have hol' : (s.heap.push (newSetObj w)).get? l = some { cls := .type "tuple", dict := odict, data := .seq items nl, slots := oslots } := Heap.get?_push_of_some _ hol
          have hsls := PySem.F.sub_tuple_set
          have hslf := PySem.F.sub_tuple_frozenset
          have hne : (Value.type "tuple" == Value.type "dict") = false := by decide
          have hl1 : (s.heap.push (newSetObj w)).IsTuple l items := ⟨_, hol', rfl, nl, rfl⟩
          unfold Builtin.«set.__init__» noKeywords Builtin.Frozenset.updateFrom
          generalize hPI : pyIter = PI
          wp_walk
          subst hPI
          refine wpAny_pyIter_tuple hl1 ?_
          refine wpAny_bind (wpAny_runValue ?_)
          refine set_loop ((Walks.tuple hh3 _ l hneI items).toS) s.heap.objs.size hSf s.heap hne0 hw0 K (items.size - 0) 0 _ (by omega) (Nat.zero_le _)
            ⟨⟨_, Heap.get?_push_size _ rfl, rfl, rfl⟩, hl1.push _⟩ (fun b o e => Heap.get?_push_of_some _ (Heap.get?_push_of_some _ e)) (h0 _ (Heap.get?_push_of_some _ hS)) fun s' m hS2 kp => ?_
          show wpAny _ _ _ _ _ _
          refine wpAny_pure ?_
          show wpAny _ _ (ret Value.none) _ _ _
          exact wpAny_pure (fin _ s' m hS2 kp)
      · cases r₂ with
        | error e => exact hr₂
        | ok fl₂ =>
          cases fl₂ with
          | ret r =>
            obtain ⟨rfl, h', tk, rfl, hS', hk'⟩ := hr₂
            repeat (any_goals (first | assumption | wp_step))
            exact h _ _ hS' hk'
          | _ => exact hr₂.elim
    | _ => exact hr.elim
end
end MC
end
section
set_option Elab.async false
set_option linter.all false
set_option maxRecDepth 100000
set_option maxHeartbeats 4000000
/-! Own rules, sets 2: sets of texts: set(x), len(set(x)), sorted(set(x)). -/
namespace MC
open PySem PySem.Spec PyProof.Rows L2

def entS (e : Int × Value) : Str := match e.2 with | .str x _ => x | _ => Str.empty
/-- at a lies a set of the texts L, and it can be walked -/
def SetS (P : Program) (w : World) (h : Heap) (a : Addr) (L : List Str) : Prop :=
  L.Nodup ∧ ∃ o es ep t, h.get? a = some o ∧ o.ExactSet ∧ o.data = .set es ep t ∧ ElemsOf (PySem.strKind P w) es.toList ∧ (es.toList.map entS).Perm L ∧ es.size < scanBound ∧ t.fits es.size = true ∧ Ris t.place.toList ∧ (w.params.followText "set-order" = true ∨ t.led = true)

section
variable {P : Program} {w : World} {A : Around} {E : Value → Shared → Prop} {s : Shared} {a : Addr} {L : List Str}
theorem SetS.at {h h' : Heap} (R : SetS P w h a L) (k : ∀ o, h.get? a = some o → h'.get? a = some o) : SetS P w h' a L := by
  obtain ⟨n, o, es, ep, t, ho, r⟩ := R
  exact ⟨n, o, es, ep, t, k o ho, r⟩
theorem setS_new {h : Heap} (ho : h.get? a = some (newSetObj w)) : SetS P w h a [] :=
  ⟨List.nodup_nil, _, #[], 0, _, ho, ⟨rfl, rfl, rfl⟩, rfl, (fun e he => by simp at he), List.Perm.refl _, (by decide), rfl, List.Pairwise.nil, by
    show _ ∨ (!w.params.followText "set-order") = true
    cases w.params.followText "set-order"
    · exact .inr rfl
    · exact .inl rfl⟩
theorem entS_is {e : Int × Value} (h : ∃ k, (PySem.strKind P w).is k e.2 = true ∧ e.1 = (PySem.strKind P w).hash k) (k : Str) : (PySem.strKind P w).is k e.2 = true ↔ entS e = k := by
  obtain ⟨k0, h1, _⟩ := h
  obtain ⟨t, ht⟩ := Value.isStrOf_shape h1
  unfold entS
  rw [ht]
  constructor
  · intro q
    exact (PySem.strKind P w).inj _ _ _ (strKind_is P w k0 t) q
  · rintro rfl
    exact strKind_is P w _ t
theorem addS_tail {g : Bool → Sem Unit} (hg : ∀ (b : Bool) (s₁ : Shared) (Q' : Unit → Shared → Prop), Q' () s₁ → wpAny (model P w) A (g b) Q' E s₁)
    {o : Obj} {es : Array (Int × Value)} {ep : Nat} {t : SetTable} (ho : s.heap.get? a = some o) (hex : o.ExactSet) (hd : o.data = .set es ep t) {es1 : Array (Int × Value)} {t2 : SetTable} (nd : L.Nodup) (g1 : ElemsOf (PySem.strKind P w) es1.toList) (pm1 : (es1.toList.map entS).Perm L)
    (hb1 : es1.size < scanBound) (hf2 : t2.fits es1.size = true) (hr : Ris t2.place.toList) (hl : w.params.followText "set-order" = true ∨ t2.led = true) {wasDummy : Bool} {R : Option Bool → Shared → Prop}
    (hR : ∀ h', Heap.SameBut a s.heap h' → SetS P w h' a L → R (some true) { s with heap := h' }) :
    wpAny (model P w) A (do
        storeSet a es1 t2
        if (!wasDummy && t2.tooFull) = true then do
            g (relayAll t2 es1 (SetTable.grown es1.size)).2.2
            storeSet a (relayAll t2 es1 (SetTable.grown es1.size)).1 (relayAll t2 es1 (SetTable.grown es1.size)).2.1
            pure (some true)
          else pure (some true)) R E s := by
  refine wpAny_bind (wpAny_storeSet_of ho hd ?_ (fits_of_scanBound hb1))
  have ho1 := store_at (es' := es1) (t' := t2) ho hd
  have sb1 := Heap.SameBut.update s.heap a (Obj.putSet es1 t2)
  split
  · have pm := relayAll_perm t2 es1 (SetTable.grown es1.size)
    have hf3 := relayAll_fits t2 es1 (SetTable.grown es1.size)
    have hr3 := relayAll_ris t2 es1 (SetTable.grown es1.size)
    have hl3 := relayAll_led t2 es1 (SetTable.grown es1.size)
    have hsz : (relayAll t2 es1 (SetTable.grown es1.size)).1.size = es1.size := by rw [← Array.length_toList, pm.length_eq, Array.length_toList]
    refine wpAny_bind (hg _ _ _ ?_)
    refine wpAny_bind (wpAny_storeSet_of ho1 rfl ?_ (fits_of_scanBound (by rw [hsz]; exact hb1)))
    have ho2 := store_at (es' := (relayAll t2 es1 (SetTable.grown es1.size)).1) (t' := (relayAll t2 es1 (SetTable.grown es1.size)).2.1) ho1 rfl
    refine wpAny_pure (hR _ (sb1.trans (Heap.SameBut.update _ a _)) ⟨nd, _, _, _, _, ho2, hex, rfl, g1.perm pm, (pm.map entS).trans pm1, by rw [hsz]; exact hb1, hf3, hr3, hl.imp id fun z => by rw [hl3]; exact z⟩)
  · exact wpAny_pure (hR _ sb1 ⟨nd, _, _, _, _, ho1, hex, rfl, g1, pm1, hb1, hf2, hr, hl⟩)
/-- one text is added -/
theorem addS {k : Str} {tk : Tok} {Q : Bool → Shared → Prop} (R : SetS P w s.heap a L) (room : L.length + 1 < scanBound)
    (hQ : ∀ b h' L', Heap.SameBut a s.heap h' → SetS P w h' a L' → L'.Perm (if k ∈ L then L else k :: L) → Q b { s with heap := h' }) :
    wpAny (model P w) A (setAddHashed a (.str k tk) ((PySem.strKind P w).hash k)) Q E s := by
  obtain ⟨nd, o, es, ep, t, ho, hex, hd, hel, hm, hb, hf, hr, hl⟩ := R
  have hkey : (PySem.strKind P w).is k (.str k tk) = true := strKind_is P w k tk
  have hsc : (Value.str k tk).scannable = true := rfl
  have hsz : es.size = L.length := by
    have := hm.length_eq
    rw [List.length_map, Array.length_toList] at this
    exact this
  unfold setAddHashed setAddHashedIn
  refine wpAny_holding (wpAny_bind (wpAny_setState_of ho hd hf ?_))
  dsimp only
  rw [byScan_of hsc hb hel]
  simp only [↓reduceIte]
  unfold setAddByScan
  refine wpAny_bind ?_
  refine wpAny_bind (wpAny_rule ?_)
  refine wpAny_bind (wpAny_setScan_of hkey ho hd hf hel ?_)
  have hmem : k ∈ L ↔ ∃ e ∈ es.toList, (PySem.strKind P w).is k e.2 = true := by
    rw [← hm.mem_iff, List.mem_map]
    exact ⟨fun ⟨e, he, q⟩ => ⟨e, he, (entS_is (hel e he).1 k).2 q⟩, fun ⟨e, he, q⟩ => ⟨e, he, (entS_is (hel e he).1 k).1 q⟩⟩
  cases hfi : List.findIdx? (fun e => (PySem.strKind P w).is k e.2) es.toList with
  | some j =>
    dsimp only
    obtain ⟨hj, pj, _⟩ := List.findIdx?_eq_some_iff_getElem.mp hfi
    have hk : k ∈ L := hmem.2 ⟨es.toList[j], List.getElem_mem hj, pj⟩
    exact wpAny_pure (wpAny_pure (hQ _ s.heap L (Heap.SameBut.refl a s.heap) ⟨nd, o, es, ep, t, ho, hex, hd, hel, hm, hb, hf, hr, hl⟩ (by rw [if_pos hk])))
  | none =>
    dsimp only
    have hk : k ∉ L := fun z => by
      obtain ⟨e, he, q⟩ := hmem.1 z
      have c := List.findIdx?_eq_none_iff.mp hfi e he
      rw [q] at c
      cases c
    have hgw : ∀ (b : Bool) {s₁ : Shared} {Q' : Unit → Shared → Prop}, Q' () s₁ → wpAny (model P w) A (match b with | true => rule "set.scan.the-table-gave-way" | false => pure ()) Q' E s₁ :=
      fun b s₁ Q' q => by cases b <;> first | exact wpAny_pure q | exact wpAny_rule q
    have pm := layNew_perm t es ((PySem.strKind P w).hash k) (.str k tk)
    have hf1 := layNew_fits t es ((PySem.strKind P w).hash k) (.str k tk)
    have hr1 := layNew_ris t es ((PySem.strKind P w).hash k) (.str k tk) hr
    have hl1 := layNew_led t es ((PySem.strKind P w).hash k) (.str k tk)
    generalize layNew t es ((PySem.strKind P w).hash k) (.str k tk) = Z at pm hf1 hr1 hl1 ⊢
    obtain ⟨es1, t1, wasDummy, gave⟩ := Z
    dsimp only at pm hf1 hr1 hl1 ⊢
    rw [Array.toList_push] at pm
    have g1 : ElemsOf (PySem.strKind P w) es1.toList := (hel.push hkey hsc).perm pm
    have nd1 : (k :: L).Nodup := List.nodup_cons.mpr ⟨hk, nd⟩
    have pk : (es1.toList.map entS).Perm (k :: L) := by
      refine (pm.map entS).trans ?_
      rw [List.map_append]
      exact (List.perm_append_singleton _ _).trans (List.Perm.cons k hm)
    have hb1 : es1.size < scanBound := by
      have := pm.length_eq
      rw [List.length_append, Array.length_toList, Array.length_toList, List.length_singleton] at this
      omega
    have hled : w.params.followText "set-order" = true ∨ t1.led = true := hl.imp id fun z => by rw [hl1]; exact z
    have fin : ∀ h', Heap.SameBut a s.heap h' → SetS P w h' a (k :: L) → Q true { s with heap := h' } := fun h' sb r => hQ _ h' _ sb r (by rw [if_neg hk])
    refine wpAny_bind (hgw _ ?_)
    split
    · refine wpAny_bind ?_
      rw [hashByValue_scannable 8 hsc]
      refine wpAny_pure ?_
      refine addS_tail ?_ ho hex hd nd1 g1 pk hb1 ?_ ?_ ?_ ?_
      · intro b s₁ Q' q; cases b <;> first | exact wpAny_pure q | exact wpAny_rule q
      · first | (split <;> first | exact hf1 | exact SetTable.fits_plain_off hf1) | exact hf1
      · first | (split <;> exact hr1) | exact hr1
      · first | (split <;> exact hled) | exact hled
      · intro h' sb r; dsimp only; exact wpAny_pure (fin h' sb r)
    · refine wpAny_bind (wpAny_pure ?_)
      simp only [↓reduceIte]
      refine addS_tail ?_ ho hex hd nd1 g1 pk hb1 hf1 hr1 hled ?_
      · intro b s₁ Q' q; cases b <;> first | exact wpAny_pure q | exact wpAny_rule q
      · intro h' sb r; dsimp only; exact wpAny_pure (fin h' sb r)
end

/-! ### sorted of what is gathered in some order -/
open PySem.W (EachIs alike alikeAll AllAlike Sortable dataLe Datum DatumOrd)
/-- what is gathered: values with their data, in some order; all that stood stands -/
def Gathered (X : Cx) (H : Hp) (s : Shared) (Pp : List (V × PyData) → Prop) (us : List Value) (s1 : Shared) : Prop :=
  (∀ b o, s.heap.get? b = some o → s1.heap.get? b = some o) ∧ s1.gens = s.gens ∧ s1.os = s.os ∧ ∃ ps : List (V × PyData), Vals (ps.map (·.1)) us ∧ (∀ p ∈ ps, Dp X.K H p.1 p.2) ∧ AllAlike (ps.map (·.2)) ∧ Sortable (ps.map (·.2)) ∧ ps.length ≤ sizeLine ∧ (∀ p ∈ ps, X.A.units + 2 + p.2.depth < cLine) ∧ Pp ps
section
variable {X : Cx} {pins : List (Addr × Obj)} {σ : L2.St} {H : Hp} {s : Shared}
theorem inv_onto (I : Inv X pins σ H s) {s1 : Shared} (k : ∀ b o, s.heap.get? b = some o → s1.heap.get? b = some o) (g : s1.gens = s.gens) (o : s1.os = s.os) : Inv X pins σ H s1 :=
  I.call' (ch := []) o (Un.kept k) (I.hok.kept k) (by rw [g]; exact I.bare) fun b z => absurd z (by simp)
theorem sorted_runX {x : Value} {Pp : List (V × PyData) → Prop} {Q : VK} (I : Inv X pins σ H s) (hc : wpAny (model X.prog X.w) X.A.in1 (collect x) (Gathered X H s Pp) X.xe s)
    (hq : ∀ ps, Pp ps → ∀ q, H q = none → Q (.ref q) (upd H q (.lst ((ps.mergeSort (dataLe false (fun p : V × PyData => p.2))).map (·.1))))) :
    wpAny (model X.prog X.w) X.A (call (.builtin "sorted") [x]) (EP X pins σ Q) X.xe s := by
  refine call_function_entry_kw kind_sorted plain_sorted entry_sorted (args_sorted1 _) ?_
  unfold Builtin.«sorted»
  refine wpAny_bind (m := checkCount "sorted" 1 1 _) (wpAny_pure ?_)
  refine wpAny_bind (wpAny_mono hc (fun us s1 hg => ?_) fun _ _ z => z)
  obtain ⟨kp, g, os, ps, r, hp, hal, hk, hL, hu, hPp⟩ := hg
  have I0 := inv_onto I kp g os
  have hL' : us.length ≤ sizeLine := by rw [← r.length, List.length_map]; exact hL
  refine wpAny_bind (wpAny_newList ?_ hL')
  refine wpAny_bind (wpAny_holding ?_)
  have e := each_vals (R := fun _ => True) r
  have hnew : s1.heap.get? s1.heap.objs.size = none := Heap.get?_none_of_le (Nat.le_refl _)
  have er : EachIs (fun (v : Value) (p : V × PyData) => ∃ as, Reads (s1.heap.push (seqObj "list" us.toArray 0)) v p.2 as ∧ s1.heap.objs.size ∉ as) us ps := by
    refine each_and e fun v p hpm rv => ?_
    obtain ⟨as, rd⟩ := Dp.reads I0 p.2 p.1 v (hp p hpm) rv
    refine ⟨as, PyProof.Rows.Reads.keeps (fun b o q => Heap.get?_push_of_some _ q) rd, fun hm => ?_⟩
    obtain ⟨o, ho⟩ := reads_old p.2 v as (hal _ (List.mem_map.mpr ⟨p, hpm, rfl⟩) _ (List.mem_map.mpr ⟨p, hpm, rfl⟩)) rd _ hm
    rw [hnew] at ho
    cases ho
  refine PySem.W.list_sort_data (A := X.A.in1) (enc := fun p : V × PyData => p.2) (R := fun (u : Value) (p : V × PyData) => RelV p.1 u) (vs := us) (bs := ps) (s := { s1 with heap := s1.heap.push (seqObj "list" us.toArray 0) }) (a := s1.heap.objs.size) (n := 0) (Heap.get?_push_size _ rfl) e er hal hk hL
    (fun p hpm => by have := hu p hpm; show X.A.units + 1 + 1 + _ < _; omega) fun out ho eo => ?_
  have vo := vals_each eo
  have hlen : (ps.mergeSort (dataLe false (fun p : V × PyData => p.2))).length = ps.length := List.length_mergeSort ..
  obtain ⟨c, hc2⟩ := sortedHeap_at (out := out.toArray) (show (s1.heap.push (seqObj "list" us.toArray 0)).get? s1.heap.objs.size = some (seqObj "list" us.toArray 0) from Heap.get?_push_size _ rfl)
  refine wpAny_pure ⟨_, rfl, .ref s1.heap.objs.size, _, I0.laid (a := s1.heap.objs.size) (t' := s1.toks) (o := .lst ((ps.mergeSort (dataLe false (fun p : V × PyData => p.2))).map (·.1))) (fun b o q => ?_) (Nat.le_refl _) ?_, rfl, hq _ hPp _ (I0.hok.fresh (Nat.le_refl _))⟩
  · have hlt : b < s1.heap.objs.size := Heap.lt_size q
    show (PyProof.Rows.sortedHeap (s1.heap.push (seqObj "list" us.toArray 0)) s1.heap.objs.size us out.toArray).get? b = some o
    rw [sortedHeap_old (Nat.ne_of_lt hlt) (by rw [Heap.size_push]; exact Nat.lt_succ_of_lt hlt)]
    exact Heap.get?_push_of_some _ q
  · exact ⟨by rw [List.length_map, hlen]; exact hL, out, c, vo, hc2⟩
end

/-! ### set(x), len, sorted -/
def SetSO (P : Program) (w : World) (a : Addr) (L : List Str) : HO := .ext fun h => SetS P w h a L
section
variable {X : Cx} {pins : List (Addr × Obj)} {σ : L2.St} {H : Hp} {s : Shared}
theorem setSO_new {P : Program} {w : World} {H : Hp} {h : Heap} {a : Addr} {L : List Str} (R : SetS P w h a L) : ObjOk P w H h a (SetSO P w a L) := by
  have ⟨_, o, _, _, _, ho, _⟩ := R
  exact ⟨R, ⟨o, ho⟩, fun h1 h2 p k => SetS.at p k⟩
def rSetS (K : PySem.W.Frag) (P : Program) (w : World) : List V → Hp → VK → Prop := fun vs H Q => ∃ (a : Addr) (xs : List Str), vs = [.ref a] ∧ (SqL K H a (xs.map V.str) ∨ SqT K H a (xs.map V.str)) ∧ xs.length ≤ 1000 ∧
  ∀ p L, H p = none → L.Nodup → (∀ x, x ∈ L ↔ x ∈ xs) → Q (.ref p) (upd H p (SetSO P w p L))
theorem strs_val : ∀ {us : List Value} {xs : List Str}, Vals (xs.map V.str) us → ∀ (i : Nat) (v : Value), us[i]? = some v → ∃ x t, xs[i]? = some x ∧ v = .str x t
  | us, xs, r, i, v, h => by
    have hl := r.length
    rw [List.length_map] at hl
    have hi : i < xs.length := hl ▸ (List.getElem?_eq_some_iff.mp h).1
    obtain ⟨u, hu, ru⟩ := r.get (i := i) (x := .str xs[i]) (by rw [List.getElem?_map, List.getElem?_eq_getElem hi] <;> rfl)
    rw [h] at hu
    cases hu
    obtain ⟨t, rfl⟩ := ru
    exact ⟨_, t, List.getElem?_eq_getElem hi, rfl⟩
theorem setS_run {P : Program} {w : World} {A : Around} {S : Addr} {h0 : Heap} {us : List Value} {xs : List Str} (r : Vals (xs.map V.str) us) (hl : xs.length ≤ 1000) :
    SetRun P w A S h0 us.toArray.size (fun i v => us.toArray[i]? = some v) (fun i h => ∃ L, SetS P w h S L ∧ (∀ x, x ∈ L ↔ x ∈ xs.take i) ∧ L.length ≤ i) where
  keep := fun i h h' ⟨L, hS, hm⟩ k _ => ⟨L, hS.at k, hm⟩
  add := by
    rintro i v s Q E hi hv ⟨L, hS, hm, hz⟩ _ hQ
    obtain ⟨x, t, hx, rfl⟩ := strs_val r i v (by simpa using hv)
    have hi2 : i < xs.length := (List.getElem?_eq_some_iff.mp hx).1
    unfold setAdd
    refine wpAny_holding ?_
    refine wpAny_bind ((PySem.strKind P w).pyHash (k := x) (strKind_is _ _ _ _) ?_)
    refine addS (s := { s with toks := s.toks + 1 }) hS (by unfold scanBound; omega) fun b h' L' sb hS' pm => ?_
    refine hQ b h' _ (Nat.le_succ _) sb ⟨L', hS', fun y => ?_, ?_⟩
    · rw [List.take_add_one, hx, pm.mem_iff]
      show _ ↔ y ∈ xs.take i ++ [x]
      rw [List.mem_append, List.mem_singleton, ← hm y]
      split
      · rename_i hk
        exact ⟨.inl, fun z => z.elim id fun e => e ▸ hk⟩
      · rw [List.mem_cons]
        exact Or.comm
    · rw [pm.length_eq]
      split
      · omega
      · rw [List.length_cons]
        omega
theorem cr_setS (hc : X.calm = true) : CallR X (.type "set") (rSetS X.K X.prog X.w) := by
  rintro pins s σ H vs us Q I r ⟨a, xs, rfl, hs, hl, hq⟩
  obtain ⟨u, rfl, rx⟩ := r.one
  cases rx
  have main : ∀ its : List Value, Vals (xs.map V.str) its → (s.heap.IsList a its.toArray ∨ s.heap.IsTuple a its.toArray) → wpAny (model X.prog X.w) X.A (call (.type "set") [.ref a]) (EP X pins σ Q) X.xe s := fun its rv hi => by
    refine call_setX (SR := fun i h => ∃ L, SetS X.prog X.w h s.heap.objs.size L ∧ (∀ x, x ∈ L ↔ x ∈ xs.take i) ∧ L.length ≤ i) (I.ok.hd hc) hi (fun h ho => ⟨[], setS_new ho, fun x => by simp, Nat.le_refl _⟩) (setS_run rv hl) fun h' tk ⟨L, hS, hm, _⟩ kp => ?_
    have hsz : its.toArray.size = xs.length := by
      have := rv.length
      rw [List.length_map] at this
      simp [← this]
    rw [hsz, List.take_length] at hm
    exact ⟨.ref s.heap.objs.size, _, I.laid (t' := tk) kp (Nat.le_refl _) (setSO_new hS), rfl, hq _ L (I.hok.fresh (Nat.le_refl _)) hS.1 hm⟩
  rcases hs with hs | hs
  · obtain ⟨its, rv, pl, hz⟩ := I.list hs
    exact main its rv (.inl pl.isList)
  · obtain ⟨its, rv, pl, hz⟩ := I.tuple hs
    exact main its rv (.inr pl)
/-- len of a set of texts -/
def rLenSetS (P : Program) (w : World) : List V → Hp → VK → Prop := fun vs H Q => ∃ (a : Addr) (L : List Str), vs = [.ref a] ∧ H a = some (SetSO P w a L) ∧ Q (.int (L.length : Int)) H
theorem cr_lenSetS : CallR X (.builtin "len") (rLenSetS X.prog X.w) := by
  rintro pins s σ H vs us Q I r ⟨a, L, rfl, ha, hq⟩
  obtain ⟨u, rfl, rx⟩ := r.one
  cases rx
  obtain ⟨nd, o, es, ep, t, ho, hex, hd, hel, hm, hb, hf, hr, hl⟩ := (I.hok a _ ha).1
  have hsz : es.size = L.length := by
    have := hm.length_eq
    rw [List.length_map, Array.length_toList] at this
    exact this
  refine call_len_set ho hex hd hf (by unfold scanBound at hb; omega) ⟨.int (L.length : Int), H, I.tok _, ⟨_, by rw [hsz]⟩, hq⟩
/-- sorted of a set of texts -/
def rSortedSetS (P : Program) (w : World) : List V → Hp → VK → Prop := fun vs H Q => ∃ (a : Addr) (L : List Str), vs = [.ref a] ∧ H a = some (SetSO P w a L) ∧ ∀ q L', H q = none → List.Perm L' L → Q (.ref q) (upd H q (.lst (L'.map V.str)))
theorem cr_sortedSetS (hc : X.calm = true) (hu : X.A.units + 64 < cLine) : CallR X (.builtin "sorted") (rSortedSetS X.prog X.w) := by
  rintro pins s σ H vs us Q I r ⟨a, L, rfl, ha, hq⟩
  obtain ⟨u, rfl, rx⟩ := r.one
  cases rx
  obtain ⟨nd, o, es, ep, t, ho, hex, hd, hel, hm, hb, hf, hr, hl⟩ := (I.hok a _ ha).1
  refine sorted_runX (Pp := fun ps => ∃ L' : List Str, List.Perm L' L ∧ ps = L'.map fun x => (V.str x, PyData.str x)) I (collect_set (A := X.A.in1) (I.ok.hd hc) ⟨o, ho, hex.1, hd⟩ hf hb hr hl fun s1 out kp hz g1 o1 pm => ?_) ?_
  · have hst : ∀ v ∈ out, ∃ x t, v = Value.str x t := fun v hv => by
      obtain ⟨e, he, q⟩ := List.mem_map.mp (pm.mem_iff.mp hv)
      obtain ⟨⟨k, h1, _⟩, _⟩ := hel e he
      obtain ⟨t, ht⟩ := Value.isStrOf_shape h1
      exact ⟨k, t, by rw [← q, ht]⟩
    let f : Value → Str := fun v => match v with | .str x _ => x | _ => Str.empty
    have hv : ∀ l : List Value, (∀ v ∈ l, ∃ x t, v = Value.str x t) → Vals (((l.map f).map fun x => (V.str x, PyData.str x)).map (·.1)) l := fun l => by
      induction l with
      | nil => exact fun _ => .nil
      | cons v l ih =>
        intro h
        obtain ⟨x, t, rfl⟩ := h v List.mem_cons_self
        exact .cons ⟨t, rfl⟩ (ih fun u hu => h u (List.mem_cons_of_mem _ hu))
    have hp : (out.map f).Perm L := by
      refine ((pm.map f).trans ?_).trans hm
      rw [List.map_map]
      exact List.Perm.refl _
    refine ⟨kp, g1, o1, _, hv out hst, fun p hp => ?_, alike_strs _, sortable_strs _, ?_, fun p hp => ?_, _, hp, rfl⟩
    · obtain ⟨x, _, rfl⟩ := List.mem_map.mp hp
      exact Dp.str x
    · rw [List.length_map, hp.length_eq]
      have := hm.length_eq
      rw [List.length_map, Array.length_toList] at this
      rw [← this]
      exact fits_of_scanBound hb
    · obtain ⟨x, _, rfl⟩ := List.mem_map.mp hp
      show _ + PyData.depth (.str x) < _
      simp [PyData.depth]
      omega
  · rintro ps ⟨L', pl, rfl⟩ q hn
    rw [sort_strs]
    exact hq q (sortS L') hn ((sortS_perm L').trans pl)
end
end MC
end
section
set_option Elab.async false
set_option linter.all false
set_option maxRecDepth 100000
set_option maxHeartbeats 4000000
/-! Own rules, sets 3: a set of different tuples of texts: set(x), sorted(set(x)). -/
namespace MC
open PySem PySem.Spec PyProof.Rows L2

/-- the tuple at b has the texts k -/
abbrev RT (P : Program) (w : World) (h : Heap) (k : List Str) (b : Addr) : Prop := IsTupleKey (PySem.strKind P w) h k b
abbrev rh (P : Program) (w : World) (k : List Str) : Int := tupleKeyHash (PySem.strKind P w) k
section
variable {P : Program} {w : World} {A : Around} {E : Value → Shared → Prop} {s : Shared}
theorem items_strs {k : List Str} {vs : List Value} (h : ItemsAre (PySem.strKind P w) k vs) : ∀ v ∈ vs, ∃ x t, v = Value.str x t := by
  induction h with
  | nil => intro v hv; cases hv
  | @cons k0 v' ks vs h1 _ ih =>
    intro v hv
    rcases List.mem_cons.mp hv with e | hv
    · obtain ⟨t, e2⟩ := Value.isStrOf_shape h1
      exact ⟨k0, t, e.trans e2⟩
    · exact ih v hv
theorem noClass_str (n : Nat) (x : Str) (t : Tok) : ofAClassStatement n (.str x t) = pure false := by
  cases n <;> rfl
theorem noClass_tup {k : List Str} {b : Addr} {Q : Bool → Shared → Prop} (hk : RT P w s.heap k b) (h : Q false s) : wpAny (model P w) A (ofAClassStatement 8 (.ref b)) Q E s := by
  have hT := hk.typeIs
  obtain ⟨o, items, n, ho, _, hd, hi⟩ := hk
  unfold ofAClassStatement
  refine wpAny_bind (wpAny_typeOf hT ?_)
  dsimp only
  have e : (("tuple" : String) == "tuple") = true := by decide
  simp only [e, if_true, Bool.not_true, Bool.false_eq_true, if_false]
  show wpAny _ _ (seqItems? (.ref b) >>= _) _ _ s
  refine wpAny_bind (wpAny_seqItems ho hd ?_)
  dsimp only
  refine wpAny_bind ?_
  show wpAny _ _ (forIn items _ _) _ _ s
  rw [← Array.forIn_toList]
  refine wpAny_forIn_list _ (fun rest r s' => r.1 = none ∧ s' = s ∧ ∀ v ∈ rest, ∃ x t, v = Value.str x t) _ ?_ ?_ _ _ ⟨rfl, rfl, items_strs hi⟩
  · rintro v rest r s' ⟨hr, rfl, hall⟩
    obtain ⟨x, t, rfl⟩ := hall v List.mem_cons_self
    rw [noClass_str]
    refine wpAny_bind (wpAny_pure ?_)
    simp only [Bool.false_eq_true, if_false]
    exact wpAny_pure ⟨rfl, rfl, fun u hu' => hall u (List.mem_cons_of_mem _ hu')⟩
  · rintro ⟨r1, r2⟩ s' ⟨hr, rfl, _⟩
    simp only at hr
    subst hr
    exact wpAny_pure h
theorem byVal_tup {k : List Str} {b : Addr} {Q : Bool → Shared → Prop} (hk : RT P w s.heap k b) (h : ∀ c, Q c s) : wpAny (model P w) A (hashByValue 8 (.ref b)) Q E s := by
  have hT := hk.typeIs
  obtain ⟨o, items, n, ho, _, hd, hi⟩ := hk
  unfold hashByValue
  refine wpAny_bind (wpAny_specialOf hT PySem.F.slot_tuple_hash.lookup ?_)
  show wpAny _ _ (seqItems? (.ref b) >>= _) _ _ s
  refine wpAny_bind (wpAny_seqItems ho hd ?_)
  refine wpAny_bind ?_
  show wpAny _ _ (forIn items _ _) _ _ s
  rw [← Array.forIn_toList]
  cases hit : items.toList with
  | nil =>
    rw [List.forIn_nil]
    exact wpAny_pure (wpAny_pure (h _))
  | cons v rest =>
    have hall := items_strs hi
    rw [hit] at hall
    obtain ⟨x, t, rfl⟩ := hall v List.mem_cons_self
    rw [List.forIn_cons]
    refine wpAny_bind ?_
    refine wpAny_bind (wpAny_pure ?_)
    simp only [Bool.not_false, if_true]
    refine wpAny_pure ?_
    dsimp only
    exact wpAny_pure (wpAny_pure (h _))

theorem unseen {k : List Str} {b : Addr} {Q : Bool → Shared → Prop} (hk : RT P w s.heap k b) {ys : List Value} (hy : ∀ y ∈ ys, ∃ k' c, y = Value.ref c ∧ RT P w s.heap k' c) (h : Q false s) :
    wpAny (model P w) A (searchCouldBeSeen (.ref b) ys) Q E s := by
  unfold searchCouldBeSeen
  refine wpAny_bind ?_
  refine wpAny_forIn_list _ (fun rest r s' => r.1 = none ∧ s' = s ∧ ∀ y ∈ rest, ∃ k' c, y = Value.ref c ∧ RT P w s.heap k' c) _ ?_ ?_ _ _ ⟨rfl, rfl, hy⟩
  · rintro v rest r s' ⟨hr, rfl, hall⟩
    obtain ⟨k', c, rfl, hc⟩ := hall v List.mem_cons_self
    have more : ∀ y ∈ rest, ∃ k' c, y = Value.ref c ∧ RT P w s'.heap k' c := fun u hu' => hall u (List.mem_cons_of_mem _ hu')
    dsimp only
    by_cases hv : (b == c || (carriedByValue (.ref b) && carriedByValue (.ref c))) = true
    · exact wp_if_pos hv (wpAny_pure ⟨rfl, rfl, more⟩)
    · refine wp_if_neg hv ?_
      refine wpAny_bind (wpAny_eqIsQuiet_tuple hk ?_)
      simp only [Bool.not_true, Bool.false_eq_true, if_false]
      refine wpAny_bind (wpAny_eqIsQuiet_tuple hc ?_)
      simp only [Bool.not_true, Bool.false_eq_true, if_false]
      refine wpAny_bind (noClass_tup hk ?_)
      simp only [Bool.false_eq_true, if_false]
      refine wpAny_bind (noClass_tup hc ?_)
      simp only [Bool.false_eq_true, if_false]
      exact wpAny_pure ⟨rfl, rfl, more⟩
  · rintro ⟨r1, r2⟩ s' ⟨hr, rfl, _⟩
    simp only at hr
    subst hr
    exact wpAny_pure h

/-- the rows of the table's entries -/
def rowsR (P : Program) (w : World) (L : List (Addr × List Str)) : List (Int × Value) := L.map fun p => (rh P w p.2, Value.ref p.1)
/-- at a lies a set of the tuples L, all different -/
structure SetR2 (P : Program) (w : World) (h : Heap) (a : Addr) (L : List (Addr × List Str)) (es : Array (Int × Value)) (ep : Nat) (t : SetTable) : Prop where
  ob : ∃ o, h.get? a = some o ∧ o.ExactSet ∧ o.data = .set es ep t
  rows : es.toList = rowsR P w L
  tab : TabOk t (L.map fun p => rh P w p.2)
  tup : ∀ p ∈ L, RT P w h p.2 p.1
  led : w.params.followText "set-order" = true ∨ t.led = true
  room : L.length * 5 < t.mask * 3
  few : L.length < 64
variable {a : Addr} {L : List (Addr × List Str)} {es : Array (Int × Value)} {ep : Nat} {t : SetTable}
theorem SetR2.size (R : SetR2 P w s.heap a L es ep t) : es.size = L.length := by
  have h := congrArg List.length R.rows
  unfold rowsR at h
  rw [Array.length_toList, List.length_map] at h
  exact h
theorem SetR2.fits (R : SetR2 P w s.heap a L es ep t) : t.fits es.size = true := by
  have h1 := R.tab.sz
  rw [List.length_map] at h1
  have h2 := R.size
  have h3 := R.room
  unfold SetTable.fits SetTable.fill
  rw [R.tab.dm, Bool.and_eq_true, beq_iff_eq, decide_eq_true_eq]
  show t.place.size = es.size ∧ t.place.size + 0 ≤ t.mask
  omega
theorem SetR2.entry (R : SetR2 P w s.heap a L es ep t) {i : Nat} {p : Addr × List Str} (h : L[i]? = some p) : es[i]? = some (rh P w p.2, Value.ref p.1) := by
  rw [← Array.getElem?_toList, R.rows]
  unfold rowsR
  rw [List.getElem?_map, h] <;> rfl
theorem SetR2.gw (R : SetR2 P w s.heap a L es ep t) : ¬ t.gaveWay = true := by
  unfold SetTable.gaveWay
  rw [mask_odd R.tab.mok]
  decide
theorem nth_dummy (m : Nat) : ∀ (n : Nat) (p : SetTable.Probe), p.dummy = none → (nth m p n).dummy = none := by
  intro n
  induction n with
  | zero => intro p h; exact h
  | succ n ih =>
    intro p h
    refine ih (adv m p) ?_
    unfold adv
    split <;> exact h
/-- the search for a tuple that is not there, from the c-th step of its way on: the first empty slot -/
theorem miss_from (R : SetR2 P w s.heap a L es ep t) {x : Addr} {k : List Str} (hx : RT P w s.heap k x) (hn : k ∉ L.map (·.2)) (hu : A.units < cLine) {K : Nat} (hKf : K < 10 * SetTable.turns t.mask)
    (hK : way t.mask (rh P w k) K ∉ t.place.toList) (hKb : ∀ c, c < K → way t.mask (rh P w k) c ∈ t.place.toList) {Q : SetFound → Shared → Prop} (hQ : Q (.free (way t.mask (rh P w k) K) false) s) :
    ∀ (f c : Nat) (stand : Option SetTable.Probe), stand.getD (t.probeStart (rh P w k)) = nth t.mask (runAt t.mask (SetTable.bits (rh P w k) % (t.mask + 1)) (SetTable.bits (rh P w k))) c → c ≤ K → K - c < f →
      wpAny (model P w) A (setSearchFrom a (.ref x) (rh P w k) true f stand) Q E s
  | 0, c, stand, _, _, hf => absurd hf (Nat.not_lt_zero _)
  | f + 1, c, stand, hst, hc, hf => by
    obtain ⟨o, ho, hex, hd⟩ := R.ob
    rw [setSearchFrom_succ]
    refine wpAny_bind (wpAny_setState_of ho hd R.fits ?_)
    dsimp only
    refine wp_if_neg R.gw ?_
    generalize hp0 : runAt t.mask (SetTable.bits (rh P w k) % (t.mask + 1)) (SetTable.bits (rh P w k)) = p0 at hst
    have hnd : (nth t.mask p0 c).dummy = none := nth_dummy _ c p0 (by rw [← hp0]; rfl)
    have sh : ∀ q, nth t.mask (nth t.mask p0 c) q = nth t.mask p0 (c + q) := fun q => (nth_add t.mask c _ q).symm
    have e1 : ∀ q, (nth t.mask (nth t.mask p0 c) q).j = way t.mask (rh P w k) (c + q) := fun q => by
      show _ = (nth t.mask (runAt t.mask (SetTable.bits (rh P w k) % (t.mask + 1)) (SetTable.bits (rh P w k))) (c + q)).j
      rw [hp0, sh]
    have hKc : c + (K - c) = K := by omega
    rcases go_spec t R.tab.ris R.tab.dm (fun i => (es[i]?.map (·.1)).getD 0) (rh P w k) (10 * SetTable.turns t.mask) (K - c) _ hnd (by omega) (fun q hq => by rw [e1]; exact hKb (c + q) (by omega)) (by rw [e1, hKc]; exact hK) with ⟨q, i, hq, hi, _, _, hpr⟩ | ⟨_, hpr⟩
    · -- one of the same hash: it is another
      have hpr' : t.probe (fun i => (es[i]?.map (·.1)).getD 0) (rh P w k) (stand.getD (t.probeStart (rh P w k))) = some (.candidate (way t.mask (rh P w k) (c + q)) i (nth t.mask p0 (c + (q + 1)))) := by
        rw [hst, ← e1, ← sh]
        exact hpr
      rw [hpr']
      dsimp only
      rw [e1] at hi
      have hil : i < L.length := by
        have h1 : i < t.place.toList.length := (List.getElem?_eq_some_iff.mp hi).1
        have h2 := R.tab.sz
        rw [List.length_map] at h2
        rw [Array.length_toList] at h1
        omega
      have hmem : L[i] ∈ L := List.getElem_mem hil
      have hpt := R.tup _ hmem
      have hen := R.entry (List.getElem?_eq_getElem hil)
      have hkk : ¬ (L[i]).2 = k := fun e => hn (List.mem_map.mpr ⟨_, hmem, e⟩)
      have rest : wpAny (model P w) A (searchRest a (.ref x) (rh P w k) true f es t (way t.mask (rh P w k) (c + q)) i (nth t.mask p0 (c + (q + 1)))) Q E s := by
        unfold searchRest
        rw [hen]
        dsimp only
        refine wpAny_bind (wpAny_holding (wpAny_eqBool_tuple hu hpt hx ?_))
        refine wpAny_bind (wpAny_setState_of ho hd R.fits ?_)
        dsimp only
        refine wp_if_neg (by simp [hkk]) ?_
        rw [sameMem]
        dsimp only
        simp only [if_true, slot_live R.tab.ris hi, hen]
        refine wpAny_bind (wpAny_isSame_ref_self (wpAny_bind (wpAny_pure ?_)))
        simp only [if_true]
        refine wp_if_neg (by simp [hkk]) ?_
        exact miss_from R hx hn hu hKf hK hKb hQ f (c + (q + 1)) _ (by rw [hp0]; rfl) (by omega) (by omega)
      by_cases hl : t.led = true
      · exact wp_if_neg (by simp [hl]) rest
      · refine wp_if_pos (by simp [hl]) ?_
        refine wpAny_bind (unseen hx (fun y hy => ?_) (wp_if_neg (by decide) rest))
        obtain ⟨e, he, ee⟩ := List.mem_map.mp hy
        have he1 : e ∈ es ∧ e.1 = rh P w k := by simpa using he
        have he2 : e ∈ es.toList := by simpa using he1.1
        rw [R.rows] at he2
        obtain ⟨p2, hp2, e2⟩ := List.mem_map.mp he2
        exact ⟨p2.2, p2.1, by rw [← ee, ← e2], R.tup p2 hp2⟩
    · have hpr' : t.probe (fun i => (es[i]?.map (·.1)).getD 0) (rh P w k) (stand.getD (t.probeStart (rh P w k))) = some (.empty (way t.mask (rh P w k) K) none) := by
        have e2 : way t.mask (rh P w k) K = (nth t.mask (nth t.mask p0 c) (K - c)).j := by rw [e1, hKc]
        rw [hst, e2]
        exact hpr
      rw [hpr']
      exact wpAny_pure hQ
end
end MC
end
section
set_option Elab.async false
set_option linter.all false
set_option maxRecDepth 100000
set_option maxHeartbeats 4000000
/-! Own rules, sets 4: a set of different tuples of texts: adding, set(x), sorted(set(x)). -/
namespace MC
open PySem PySem.Spec PyProof.Rows L2
open PySem.W (EachIs alike alikeAll AllAlike Sortable dataLe Datum DatumOrd)
section
variable {P : Program} {w : World} {A : Around} {E : Value → Shared → Prop} {s : Shared} {a : Addr} {L : List (Addr × List Str)} {es : Array (Int × Value)} {ep : Nat} {t : SetTable}
theorem miss_at (R : SetR2 P w s.heap a L es ep t) {x : Addr} {k : List Str} (hx : RT P w s.heap k x) (hn : k ∉ L.map (·.2)) (hu : A.units < cLine) {Q : SetFound → Shared → Prop}
    (hout : ∀ K, way t.mask (rh P w k) K ∉ t.place.toList → (∀ c, c < K → way t.mask (rh P w k) c ∈ t.place.toList) → Q (.free (way t.mask (rh P w k) K) false) s) :
    wpAny (model P w) A (setSearch a (.ref x) (rh P w k) true) Q E s := by
  have hroom := R.room
  obtain ⟨K, hKf, hK, hKb⟩ := R.tab.first (by rw [List.length_map]; omega) (rh P w k)
  have hbig : K < 100000 := by
    have : 10 * SetTable.turns t.mask ≤ 1420 := by
      unfold SetTable.turns
      rcases R.tab.mok with e | e | e <;> omega
    omega
  unfold setSearch
  exact miss_from R hx hn hu hKf hK hKb (hout K hK hKb) 100000 0 none rfl (Nat.zero_le _) (by omega)
theorem rt_same {h h' : Heap} {k : List Str} {b : Addr} {o : Obj} (hb : RT P w h k b) (ho : h.get? a = some o) (hd : o.data = .set es ep t) (hs : Heap.SameBut a h h') : RT P w h' k b := by
  obtain ⟨o', items, n, ho', hc, hd', hi⟩ := hb
  have hne : b ≠ a := by
    rintro rfl
    obtain rfl : o' = o := Option.some.inj (ho'.symm.trans ho)
    rw [hd] at hd'
    exact nomatch hd'
  exact ⟨o', items, n, (hs.2 b hne).trans ho', hc, hd', hi⟩
theorem rt_keep {h h' : Heap} {k : List Str} {b : Addr} (x : RT P w h k b) (hk : ∀ c o, h.get? c = some o → h'.get? c = some o) : RT P w h' k b := by
  obtain ⟨o, items, n, ho, r⟩ := x
  exact ⟨o, items, n, hk _ _ ho, r⟩
theorem picked {L : List (Addr × List Str)} {es : Array (Int × Value)} (order : Array Nat) (hr : es.toList = rowsR P w L) (hp : order.toList.Perm (List.range L.length)) :
    ∃ L2, (order.filterMap (es[·]?)).toList = rowsR P w L2 ∧ L2.Perm L ∧ (L2.map fun p => rh P w p.2) = order.toList.map fun i => (es.map (·.1)).getD i 0 := by
  have ent : ∀ i (h : i < L.length), es[i]? = some (rh P w (L[i]).2, Value.ref (L[i]).1) := fun i h => by
    rw [← Array.getElem?_toList, hr]
    unfold rowsR
    rw [List.getElem?_map, List.getElem?_eq_getElem h] <;> rfl
  have key : ∀ l : List Nat, (∀ i ∈ l, i < L.length) → ∃ L2 : List (Addr × List Str), l.filterMap (fun i => es[i]?) = rowsR P w L2 ∧ L2 = l.filterMap (fun i => L[i]?) ∧ (L2.map fun p => rh P w p.2) = l.map fun i => (es.map (·.1)).getD i 0 := by
    intro l
    induction l with
    | nil => intro _; exact ⟨[], rfl, rfl, rfl⟩
    | cons i l ih =>
      intro hl
      have hi := hl i List.mem_cons_self
      obtain ⟨L2, e1, e2, e3⟩ := ih fun j hj => hl j (List.mem_cons_of_mem _ hj)
      refine ⟨L[i] :: L2, ?_, ?_, ?_⟩
      · rw [List.filterMap_cons_some (ent i hi), e1] <;> rfl
      · rw [List.filterMap_cons_some (List.getElem?_eq_getElem hi), e2]
      · rw [List.map_cons, List.map_cons, e3]
        have e5 : (es.map (·.1))[i]? = some (rh P w (L[i]).2) := by rw [Array.getElem?_map, ent i hi] <;> rfl
        have e4 : (es.map (·.1)).getD i 0 = rh P w (L[i]).2 := by simp [Array.getD_eq_getD_getElem?, e5]
        rw [e4]
  obtain ⟨L2, e1, e2, e3⟩ := key order.toList fun i hi => List.mem_range.mp (hp.mem_iff.mp hi)
  refine ⟨L2, by first | (rw [Array.toList_filterMap]; exact e1) | simpa using e1, ?_, e3⟩
  have all : ∀ n, n ≤ L.length → (List.range n).filterMap (fun i => L[i]?) = L.take n := by
    intro n
    induction n with
    | zero => intro _; rfl
    | succ n ih =>
      intro hn
      rw [List.range_succ, List.filterMap_append, ih (Nat.le_of_lt hn), List.take_succ, List.getElem?_eq_getElem hn, List.filterMap_cons_some (List.getElem?_eq_getElem hn)] <;> rfl
  have h1 : L2.Perm ((List.range L.length).filterMap fun i => L[i]?) := by
    rw [e2]
    exact hp.filterMap _
  rw [all L.length (Nat.le_refl _), List.take_length] at h1
  exact h1
/-- the table is laid anew, larger -/
theorem relayR {o : Obj} (ho : s.heap.get? a = some o) (hex : o.ExactSet) (hd : o.data = .set es ep t) (hrows : es.toList = rowsR P w L) (hsz : t.place.size = es.size) (hdm : t.dummies = #[]) (hfl : es.size ≤ t.mask)
    (tup : ∀ p ∈ L, RT P w s.heap p.2 p.1) (ld : w.params.followText "set-order" = true ∨ t.led = true) (few : L.length < 64) {wanted M : Nat}
    (hw : SetTable.sizeAbove wanted - 1 = M) (hM : MaskOk M) (hw2 : SetTable.sizeAbove wanted ≤ 128) (hn : L.length * 5 < M * 3) {Q : Unit → Shared → Prop}
    (hQ : ∀ h' L' es' ep' t', Heap.SameBut a s.heap h' → SetR2 P w h' a L' es' ep' t' → L'.Perm L → Q () { s with heap := h' }) : wpAny (model P w) A (setRelay a wanted) Q E s := by
  have hsl : es.size = L.length := by
    have h := congrArg List.length hrows
    unfold rowsR at h
    rw [Array.length_toList, List.length_map] at h
    exact h
  have hfits : t.fits es.size = true := by
    unfold SetTable.fits SetTable.fill
    rw [hdm, Bool.and_eq_true, beq_iff_eq, decide_eq_true_eq]
    show t.place.size = es.size ∧ t.place.size + 0 ≤ t.mask
    omega
  obtain ⟨t', order, e, hp, T, em, el, ep', ed⟩ := relaid_ok t (hs := es.map (·.1)) (wanted := wanted) hw hM (by rw [Array.size_map, hsl]; omega)
  rw [Array.size_map, hsl] at hp
  obtain ⟨L2, r1, r2, r3⟩ := picked order hrows hp
  rw [← r3] at T
  have hs2 : (order.filterMap (es[·]?)).size = es.size := by
    have h := congrArg List.length r1
    unfold rowsR at h
    rw [Array.length_toList, List.length_map, r2.length_eq] at h
    rw [h, hsl]
  rw [setRelay_eq]
  refine wpAny_bind (wpAny_setState_of ho hd hfits ?_)
  dsimp only
  refine wp_if_neg (by rw [sizeLine_eq]; omega) ?_
  rw [e]
  dsimp only
  refine wpAny_bind ?_
  refine wp_if_neg (by rw [hs2]; simp) ?_
  refine wpAny_pure ?_
  dsimp only
  refine wpAny_storeSet_of ho hd ?_ (by rw [hs2, hsl, sizeLine_eq]; omega)
  have sb : Heap.SameBut a s.heap (s.heap.update a (Obj.putSet (order.filterMap (es[·]?)) t')) := Heap.SameBut.update ..
  exact hQ _ L2 (order.filterMap (es[·]?)) (ep + 1) t' sb ⟨⟨_, store_at ho hd, ⟨hex.1, hex.2.1, hex.2.2⟩, rfl⟩, r1, T, fun p hpm => rt_same (tup p (r2.mem_iff.mp hpm)) ho hd sb, by rw [el]; exact ld, by rw [r2.length_eq, em]; exact hn, by rw [r2.length_eq]; exact few⟩ r2
/-- one more tuple -/
theorem addR (R : SetR2 P w s.heap a L es ep t) {x : Addr} {k : List Str} (hx : RT P w s.heap k x) (hn : k ∉ L.map (·.2)) (hu : A.units < cLine) (hfew : L.length + 1 < 64) {Q : Bool → Shared → Prop}
    (hQ : ∀ b h' L' es' ep' t', Heap.SameBut a s.heap h' → SetR2 P w h' a L' es' ep' t' → L'.Perm ((x, k) :: L) → Q b { s with heap := h' }) :
    wpAny (model P w) A (setAddHashed a (.ref x) (rh P w k)) Q E s := by
  obtain ⟨o, ho, hex, hd⟩ := R.ob
  have hsl := R.size
  have hroom := R.room
  unfold setAddHashed
  refine wpAny_holding ?_
  rw [show (100000 : Nat) = 99999 + 1 from rfl, setAddHashedIn_succ]
  refine wpAny_bind (wpAny_setState_of ho hd R.fits ?_)
  dsimp only
  refine wp_if_neg (by simp [byScan, Value.scannable]) ?_
  refine wpAny_bind (miss_at R hx hn hu fun K hK hb => ?_)
  dsimp only
  refine wpAny_bind (wpAny_setState_of ho hd R.fits ?_)
  dsimp only
  obtain ⟨q1, q2, q3, q4, q5, q6, q7, q8, q9⟩ := R.tab.put hK hb
  generalize hpt : t.put (way t.mask (rh P w k) K) = pt at q1 q3 q4 q5 q6 q7 q8 q9 ⊢
  obtain ⟨t1, p⟩ := pt
  dsimp only at q1 q3 q4 q5 q6 q7 q8 q9 ⊢
  subst q1
  have hin : (SetTable.insertAt es (SetTable.below t.place (way t.mask (rh P w k) K)) (rh P w k, Value.ref x)).toList = rowsR P w (L.take (SetTable.below t.place (way t.mask (rh P w k) K)) ++ (x, k) :: L.drop (SetTable.below t.place (way t.mask (rh P w k) K))) := by
    rw [SetTable.toList_insertAt, R.rows]
    unfold rowsR
    rw [List.map_append, List.map_cons, List.map_take, List.map_drop]
  generalize hpp : SetTable.below t.place (way t.mask (rh P w k) K) = p at q2 q3 hin ⊢
  have pm := put_perm L p (x, k)
  have hlen : (L.take p ++ (x, k) :: L.drop p).length = L.length + 1 := pm.length_eq
  have hhs : (L.take p ++ (x, k) :: L.drop p).map (fun p => rh P w p.2) = (L.map fun p => rh P w p.2).take p ++ rh P w k :: (L.map fun p => rh P w p.2).drop p := by
    rw [List.map_append, List.map_cons, List.map_take, List.map_drop]
  rw [← hhs] at q3
  have hes : (SetTable.insertAt es p (rh P w k, Value.ref x)).size = L.length + 1 := by
    have h := congrArg List.length hin
    unfold rowsR at h
    rw [Array.length_toList, List.length_map, hlen] at h
    exact h
  generalize SetTable.insertAt es p (rh P w k, Value.ref x) = es1 at hin hes ⊢
  generalize L.take p ++ (x, k) :: L.drop p = L1 at pm hlen q3 hin
  -- whatever byValue says, the table's slots are the same
  have main : ∀ t2 : SetTable, TabOk t2 (L1.map fun p => rh P w p.2) → t2.mask = t.mask → (w.params.followText "set-order" = true ∨ t2.led = true) → t2.fill = L.length + 1 →
      wpAny (model P w) A (do
        storeSet a es1 t2
        if (!false && t2.tooFull) = true then setRelay a (SetTable.grown (es.size + 1))
        return true) Q E s := fun t2 T2 em ld1 efill => by
    refine wpAny_bind (wpAny_storeSet_of ho hd ?_ (by rw [hes, sizeLine_eq]; omega))
    have sb : Heap.SameBut a s.heap (s.heap.update a (Obj.putSet es1 t2)) := Heap.SameBut.update ..
    have ho1 := store_at (es' := es1) (t' := t2) ho hd
    generalize s.heap.update a (Obj.putSet es1 t2) = h1 at sb ho1 ⊢
    have tup1 : ∀ p ∈ L1, RT P w h1 p.2 p.1 := fun p hp => by
      rcases List.mem_cons.mp (pm.mem_iff.mp hp) with e | hp
      · rw [e]; exact rt_same hx ho hd sb
      · exact rt_same (R.tup p hp) ho hd sb
    by_cases hf : t2.tooFull = true
    · refine wp_if_pos (by simp [hf]) ?_
      have hfull : (L.length + 1) * 5 ≥ t2.mask * 3 := by
        have h := hf
        unfold SetTable.tooFull at h
        rw [decide_eq_true_eq, efill] at h
        exact h
      rw [hsl]
      have hsz1 : t2.place.size = es1.size := by
        have h := T2.sz
        rw [List.length_map, hlen] at h
        rw [h, hes]
      have cases2 : (t.mask = 7 ∧ L.length = 4) ∨ (t.mask = 31 ∧ L.length = 18) := by
        rcases R.tab.mok with e | e | e
        · left; rw [em, e] at hfull; rw [e] at hroom; exact ⟨e, by omega⟩
        · right; rw [em, e] at hfull; rw [e] at hroom; exact ⟨e, by omega⟩
        · exfalso; rw [em, e] at hfull; omega
      have go : ∀ M, SetTable.sizeAbove (SetTable.grown (L.length + 1)) - 1 = M → MaskOk M → SetTable.sizeAbove (SetTable.grown (L.length + 1)) ≤ 128 → (L.length + 1) * 5 < M * 3 →
          wpAny (model P w) A (setRelay a (SetTable.grown (L.length + 1)) >>= fun _ => pure true) Q E { s with heap := h1 } := fun M h1' h2' h3' h4' => by
        refine wpAny_bind (relayR (s := { s with heap := h1 }) ho1 ⟨hex.1, hex.2.1, hex.2.2⟩ rfl hin hsz1 T2.dm (by rw [hes, em]; rcases cases2 with ⟨e, e2⟩ | ⟨e, e2⟩ <;> omega) tup1 ld1 (by rw [hlen]; exact hfew) h1' h2' h3' (by rw [hlen]; exact h4') ?_)
        intro h2 L2 es2 ep2 t2 sb2 R2 pm2
        exact wpAny_pure (hQ true h2 L2 es2 ep2 t2 (sb.trans sb2) R2 (pm2.trans pm))
      rcases cases2 with ⟨_, e2⟩ | ⟨_, e2⟩
      · exact go 31 (by rw [e2, size_20]) (.inr (.inl rfl)) (by rw [e2, size_20]; decide) (by omega)
      · exact go 127 (by rw [e2, size_76]) (.inr (.inr rfl)) (by rw [e2, size_76]; decide) (by omega)
    · refine wp_if_neg (by simp [hf]) ?_
      refine wpAny_pure (hQ true h1 L1 es1 (ep + 1) t2 sb ⟨⟨_, ho1, ⟨hex.1, hex.2.1, hex.2.2⟩, rfl⟩, hin, T2, tup1, ld1, ?_, by rw [hlen]; exact hfew⟩ pm)
      have h := hf
      unfold SetTable.tooFull at h
      rw [decide_eq_true_eq, efill] at h
      rw [hlen]
      omega
  have ld1 : w.params.followText "set-order" = true ∨ t1.led = true := by rw [q5]; exact R.led
  have T1' : ∀ b : Bool, TabOk (if b = true then t1 else { t1 with plain := false }) (L1.map fun p => rh P w p.2) ∧ (if b = true then t1 else { t1 with plain := false }).mask = t.mask ∧ (w.params.followText "set-order" = true ∨ (if b = true then t1 else { t1 with plain := false }).led = true) ∧ (if b = true then t1 else { t1 with plain := false }).fill = L.length + 1 := fun b => by
    rw [List.length_map] at q9
    cases b with
    | true => exact ⟨q3, q4, ld1, q9⟩
    | false => exact ⟨⟨q3.ris, q3.dm, q3.sz, q3.mok, q3.bd, q3.reach⟩, q4, ld1, q9⟩
  have fin : ∀ b : Bool, wpAny (model P w) A (do
        storeSet a es1 (if b = true then t1 else { t1 with plain := false })
        if (!false && (if b = true then t1 else { t1 with plain := false }).tooFull) = true then setRelay a (SetTable.grown (es.size + 1))
        return true) Q E s := fun b => main _ (T1' b).1 (T1' b).2.1 (T1' b).2.2.1 (T1' b).2.2.2
  by_cases hpl : t1.plain = true
  · first
      | (refine wpAny_bind ?_; refine wp_if_pos hpl ?_; exact byVal_tup hx fun c => fin c)
      | exact wp_if_pos hpl (wpAny_bind (byVal_tup hx fun c => fin c))
  · first
      | (refine wpAny_bind ?_; refine wp_if_neg hpl ?_; exact wpAny_pure (fin true))
      | exact wp_if_neg hpl (wpAny_bind (wpAny_pure (fin true)))

theorem setR2_new {h : Heap} (ho : h.get? a = some (newSetObj w)) : SetR2 P w h a [] #[] 0 (.fresh 0 0 (!w.params.followText "set-order")) where
  ob := ⟨_, ho, ⟨rfl, rfl, rfl⟩, rfl⟩
  rows := rfl
  tab := (setTR_fresh (P := P) (w := w) ho).tab
  tup := fun p hp => by cases hp
  led := by
    show _ ∨ (!w.params.followText "set-order") = true
    cases w.params.followText "set-order"
    · exact .inr rfl
    · exact .inl rfl
  room := by
    show 0 * 5 < 7 * 3
    decide
  few := by decide
theorem SetR2.keep {h h' : Heap} (R : SetR2 P w h a L es ep t) (ha : ∀ o, h.get? a = some o → h'.get? a = some o) (ht : ∀ p ∈ L, RT P w h' p.2 p.1) : SetR2 P w h' a L es ep t :=
  let ⟨o, ho, hx, hd⟩ := R.ob
  ⟨⟨o, ha o ho, hx, hd⟩, R.rows, R.tab, ht, R.led, R.room, R.few⟩
theorem setR_run {S : Addr} {h0 : Heap} {us : List Value} {ks : List (Addr × List Str)} (hus : us = ks.map fun p => Value.ref p.1) (hk : ∀ p ∈ ks, RT P w h0 p.2 p.1) (hn : (ks.map (·.2)).Nodup) (hl : ks.length < 64) (hu : A.units < cLine) :
    SetRun P w A S h0 us.toArray.size (fun i v => us.toArray[i]? = some v) (fun i h => ∃ L es ep t, SetR2 P w h S L es ep t ∧ L.Perm (ks.take i)) where
  keep := fun i h h' ⟨L, es, ep, t, hS, pm⟩ k kp => ⟨L, es, ep, t, hS.keep k fun p hp => rt_keep (hk p (List.mem_of_mem_take (pm.mem_iff.mp hp))) kp, pm⟩
  add := by
    rintro i v s Q E hi hv ⟨L, es, ep, t, hS, pm⟩ kp hQ
    subst hus
    have hi2 : i < ks.length := by simpa using hi
    have hp : ks[i]? = some ks[i] := List.getElem?_eq_getElem hi2
    have ev : v = .ref (ks[i]).1 := by
      have q : (ks.map fun p => Value.ref p.1)[i]? = some v := by simpa using hv
      rw [List.getElem?_map, hp] at q
      exact (Option.some.inj q).symm
    subst ev
    have hx := rt_keep (hk _ (List.getElem_mem hi2)) kp
    have hnm : (ks[i]).2 ∉ L.map (·.2) := fun hm => by
      obtain ⟨p, hpm, e⟩ := List.mem_map.mp hm
      have hpt := pm.mem_iff.mp hpm
      obtain ⟨j, hj, ej⟩ := List.getElem_of_mem hpt
      have hj2 : j < i := by
        rw [List.length_take] at hj
        omega
      have ej2 : (ks[j]'(by omega)) = p := by rw [← ej, List.getElem_take]
      have h1 : (ks.map (·.2))[j]'(by rw [List.length_map]; omega) = (ks.map (·.2))[i]'(by rw [List.length_map]; omega) := by
        rw [List.getElem_map, List.getElem_map, ej2, e]
      have := (List.getElem_inj hn).mp h1
      omega
    have hlen : L.length ≤ i := by
      rw [pm.length_eq, List.length_take]
      omega
    unfold setAdd
    refine wpAny_holding ?_
    refine wpAny_bind (wpAny_pyHash_tuple hu hx ?_)
    refine addR (s := { s with toks := s.toks + ((ks[i]).2.length + 1) }) hS hx hnm hu (by omega) fun b h' L' es' ep' t' sb hS' pm' => ?_
    refine hQ b h' _ (Nat.le_add_right _ _) sb ⟨L', es', ep', t', hS', ?_⟩
    rw [List.take_add_one, hp]
    exact pm'.trans ((pm.cons _).trans (List.perm_append_singleton _ _).symm)
end
/-- at a lies a set of different tuples (of what the tuples are, the heap tells) -/
def SetR0 (P : Program) (w : World) (h : Heap) (a : Addr) (L : List (Addr × List Str)) : Prop :=
  ∃ es ep t, (∃ o, h.get? a = some o ∧ o.ExactSet ∧ o.data = .set es ep t) ∧ es.toList = rowsR P w L ∧ TabOk t (L.map fun p => rh P w p.2) ∧ (w.params.followText "set-order" = true ∨ t.led = true) ∧ L.length * 5 < t.mask * 3 ∧ L.length < 64
def SetRO (P : Program) (w : World) (a : Addr) (L : List (Addr × List Str)) : HO := .ext fun h => SetR0 P w h a L
theorem setRO_new {P : Program} {w : World} {H : Hp} {h : Heap} {a : Addr} {L : List (Addr × List Str)} (R : SetR0 P w h a L) : ObjOk P w H h a (SetRO P w a L) := by
  have ⟨_, _, _, ⟨o, ho, _⟩, _⟩ := R
  exact ⟨R, ⟨o, ho⟩, fun h1 h2 ⟨es, ep, t, ⟨o, q, r⟩, r2⟩ k => ⟨es, ep, t, ⟨o, k o q, r⟩, r2⟩⟩
section
variable {X : Cx} {pins : List (Addr × Obj)} {σ : L2.St} {H : Hp} {s : Shared}
theorem refs_of_strs : ∀ {ks : List (Addr × List Str)} {us : List Value}, Vals (ks.map fun p => V.ref p.1) us → us = ks.map fun p => Value.ref p.1
  | [], _, .nil => rfl
  | p :: ks, _, .cons r t => by
    rw [refs_of_strs t, show _ = Value.ref p.1 from r]
    rfl
theorem perm_map_inv {α β : Type} {f : α → β} : ∀ {l : List α} {m : List β}, m.Perm (l.map f) → ∃ l' : List α, l'.Perm l ∧ m = l'.map f := by
  intro l
  induction l with
  | nil =>
    intro m h
    have : m = [] := List.Perm.eq_nil h
    exact ⟨[], List.Perm.refl _, by rw [this]; rfl⟩
  | cons a l ih =>
    intro m h
    rw [List.map_cons] at h
    have hm : f a ∈ m := h.mem_iff.mpr List.mem_cons_self
    obtain ⟨m1, m2, rfl⟩ := List.append_of_mem hm
    have h2 : (m1 ++ m2).Perm (l.map f) := (List.perm_middle.symm.trans h).cons_inv
    obtain ⟨l', h3, h4⟩ := ih h2
    obtain ⟨la, lb, rfl, ha, hb⟩ := List.map_eq_append_iff.mp h4.symm
    exact ⟨la ++ a :: lb, List.perm_middle.trans (h3.cons a), by rw [List.map_append, List.map_cons, ha, hb]⟩
theorem strItems_of : ∀ {k : List Str} {us : List Value}, Vals (k.map V.str) us → ItemsAre (PySem.strKind X.prog X.w) k us
  | [], _, .nil => .nil
  | x :: k, _, .cons r t => by
    obtain ⟨tk, rfl⟩ := r
    exact .cons (strKind_is _ _ _ _) (strItems_of t)
theorem rt_of (I : Inv X pins σ H s) {b : Addr} {k : List Str} (h : SqT X.K H b (k.map V.str)) : RT X.prog X.w s.heap k b := by
  obtain ⟨its, rv, ⟨o, ho, hc, n, hd⟩, hz⟩ := I.tuple h
  exact ⟨o, its.toArray, n, ho, hc, hd, by simpa using strItems_of rv⟩
def rSetR (K : PySem.W.Frag) (P : Program) (w : World) : List V → Hp → VK → Prop := fun vs H Q => ∃ (l : Addr) (ks : List (Addr × List Str)), vs = [.ref l] ∧ SqL K H l (ks.map fun p => V.ref p.1) ∧ (∀ p ∈ ks, SqT K H p.1 (p.2.map V.str)) ∧ (ks.map (·.2)).Nodup ∧ ks.length < 64 ∧
  ∀ p L, H p = none → List.Perm L ks → Q (.ref p) (upd H p (SetRO P w p L))
theorem cr_setR (hc : X.calm = true) (hu : X.A.units + 64 < cLine) : CallR X (.type "set") (rSetR X.K X.prog X.w) := by
  rintro pins s σ H vs us Q I r ⟨a, ks, rfl, hs, ht, hn, hl, hq⟩
  obtain ⟨u, rfl, rx⟩ := r.one
  cases rx
  obtain ⟨its, rv, pl, hz⟩ := I.list hs
  have hus : its = ks.map fun p => Value.ref p.1 := refs_of_strs rv
  have hk : ∀ p ∈ ks, RT X.prog X.w s.heap p.2 p.1 := fun p hp => rt_of I (ht p hp)
  refine call_setX (SR := fun i h => ∃ L es ep t, SetR2 X.prog X.w h s.heap.objs.size L es ep t ∧ L.Perm (ks.take i)) (I.ok.hd hc) (.inl pl.isList) (fun h ho => ⟨[], #[], 0, _, setR2_new ho, List.Perm.refl _⟩) (setR_run hus hk hn hl (by show X.A.units + 1 + 1 + 1 < _; omega)) fun h' tk ⟨L, es, ep, t, hS, pm⟩ kp => ?_
  have hsz : its.toArray.size = ks.length := by simp [hus]
  rw [hsz, List.take_length] at pm
  exact ⟨.ref s.heap.objs.size, _, I.laid (t' := tk) kp (Nat.le_refl _) (setRO_new ⟨es, ep, t, hS.ob, hS.rows, hS.tab, hS.led, hS.room, hS.few⟩), rfl, hq _ L (I.hok.fresh (Nat.le_refl _)) pm⟩
def rSortedSetR (K : PySem.W.Frag) (P : Program) (w : World) : List V → Hp → VK → Prop := fun vs H Q => ∃ (a : Addr) (L : List (Addr × List Str)), vs = [.ref a] ∧ H a = some (SetRO P w a L) ∧ (∀ p ∈ L, SqT K H p.1 (p.2.map V.str)) ∧ (∀ p ∈ L, p.2 ≠ []) ∧ ∀ q L', H q = none → List.Perm L' L → Q (.ref q) (upd H q (.lst (L'.map fun p => V.ref p.1)))
theorem dpStrs {K : PySem.W.Frag} {H : Hp} : ∀ k : List Str, DpAll K H (k.map V.str) (k.map PyData.str)
  | [] => DpAll.nil
  | x :: k => DpAll.cons (Dp.str x) (dpStrs k)
theorem alikeAll_strs : ∀ a b : List Str, alikeAll (a.map PyData.str) (b.map PyData.str) = true
  | [], _ => by simp [alikeAll]
  | _ :: _, [] => by simp [alikeAll]
  | x :: a, y :: b => by
    have := alikeAll_strs a b
    simp [alikeAll, alike, this]
theorem depthAll_strs : ∀ a : List Str, PyData.depthAll (a.map PyData.str) = 0
  | [] => by simp [PyData.depthAll]
  | x :: a => by
    have := depthAll_strs a
    simp [PyData.depthAll, PyData.depth, this]
theorem depth_tupS (k : List Str) : PyData.depth (.tuple (k.map PyData.str)) ≤ 1 := by
  simp [PyData.depth, depthAll_strs]
theorem alike_tups (L : List (List Str)) : AllAlike (L.map fun k => PyData.tuple (k.map PyData.str)) := by
  intro d hd d' hd'
  obtain ⟨x, _, rfl⟩ := List.mem_map.mp hd
  obtain ⟨y, _, rfl⟩ := List.mem_map.mp hd'
  simp [alike, alikeAll_strs]
theorem sortable_tups (L : List (List Str)) (h : ∀ k ∈ L, k ≠ []) : Sortable (L.map fun k => PyData.tuple (k.map PyData.str)) := by
  refine Or.inl fun d hd => ?_
  obtain ⟨k, hk, rfl⟩ := List.mem_map.mp hd
  cases k with
  | nil => exact absurd rfl (h _ hk)
  | cons x k => exact ⟨_, _, rfl⟩
theorem merge_perm_map {ps : List (V × PyData)} {α : Type} {f : α → V × PyData} {l : List α} (e : ps = l.map f) : ∃ l' : List α, List.Perm l' l ∧ (ps.mergeSort (dataLe false (fun p : V × PyData => p.2))).map (·.1) = l'.map fun x => (f x).1 := by
  have hp : (ps.mergeSort (dataLe false (fun p : V × PyData => p.2))).Perm (l.map f) := by
    rw [← e]
    exact List.mergeSort_perm _ _
  obtain ⟨l', h1, h2⟩ := perm_map_inv hp
  exact ⟨l', h1, by rw [h2, List.map_map]; rfl⟩
theorem cr_sortedSetR (hc : X.calm = true) (hu : X.A.units + 64 < cLine) : CallR X (.builtin "sorted") (rSortedSetR X.K X.prog X.w) := by
  rintro pins s σ H vs us Q I r ⟨a, L, rfl, ha, ht, hne, hq⟩
  obtain ⟨u, rfl, rx⟩ := r.one
  cases rx
  obtain ⟨es, ep, t, ⟨o, ho, hex, hd⟩, hrows, htab, hl, hroom, hfew⟩ := (I.hok a _ ha).1
  have R : SetR2 X.prog X.w s.heap a L es ep t := ⟨⟨o, ho, hex, hd⟩, hrows, htab, fun p hp => rt_of I (ht p hp), hl, hroom, hfew⟩
  have hsz := R.size
  refine sorted_runX (Pp := fun ps => ∃ L' : List (Addr × List Str), List.Perm L' L ∧ ps = L'.map fun p => (V.ref p.1, PyData.tuple (p.2.map PyData.str))) I (collect_set (A := X.A.in1) (I.ok.hd hc) ⟨o, ho, hex.1, hd⟩ R.fits (by unfold scanBound; omega) htab.ris hl fun s1 out kp hz g1 o1 pm => ?_) ?_
  · have pm2 : out.Perm (L.map fun p => Value.ref p.1) := by
      rw [hrows] at pm
      unfold rowsR at pm
      rw [List.map_map] at pm
      exact pm
    obtain ⟨L', h1, h2⟩ := perm_map_inv pm2
    refine ⟨kp, g1, o1, L'.map fun p => (V.ref p.1, PyData.tuple (p.2.map PyData.str)), ?_, fun p hp => ?_, ?_, ?_, ?_, fun p hp => ?_, L', h1, rfl⟩
    · rw [h2, List.map_map]
      clear h1 h2
      induction L' with
      | nil => exact .nil
      | cons p l ih => exact .cons rfl ih
    · obtain ⟨q, hq2, rfl⟩ := List.mem_map.mp hp
      exact Dp.tup (ht q (h1.mem_iff.mp hq2)) (dpStrs q.2)
    · rw [List.map_map]
      have := alike_tups (L'.map (·.2))
      rw [List.map_map] at this
      exact this
    · rw [List.map_map]
      have := sortable_tups (L'.map (·.2)) fun k hk => by
        obtain ⟨q, hq2, rfl⟩ := List.mem_map.mp hk
        exact hne q (h1.mem_iff.mp hq2)
      rw [List.map_map] at this
      exact this
    · rw [List.length_map, h1.length_eq, sizeLine_eq]
      omega
    · obtain ⟨q, hq2, rfl⟩ := List.mem_map.mp hp
      have := depth_tupS q.2
      show _ + PyData.depth (.tuple (q.2.map PyData.str)) < _
      omega
  · rintro ps ⟨L', pl, e⟩ q hn
    obtain ⟨l', h1, h2⟩ := merge_perm_map e
    rw [h2]
    exact hq q l' hn (h1.trans pl)
end
end MC
end
section
set_option Elab.async false
set_option linter.all false
set_option maxRecDepth 100000
set_option maxHeartbeats 4000000
/-! What the top has written, by names; printed by gen_txt.py. -/
namespace MC
open PySem PySem.Spec PyProof.Rows L2
/-- a def keeps its promise, and its parameters are bound by place -/
def Has (P : Program) (w : World) (K : PySem.W.Frag) (mg : Str → Option Value) (base : Heap) (CX : CXT) (k : Nat) (f : Addr) (ps : List Str) (sp : Sp) : Prop :=
  ∃ fd : FuncData, FnOk P w K mg base CX k f fd ps sp ∧ Binds K fd ps [] ∧ PySem.W.keepIn K (.ref f) = true
abbrev FnP (K : PySem.W.Frag) (x qual : Str) (st : Stmt) (f : Addr) (fd : FuncData) : Prop := FunD K x qual (defArgs st) (defBody st) (defScope st) [] [] f fd
structure Txt (P : Program) (w : World) (K : PySem.W.Frag) (mg : Str → Option Value) : Prop where
  g_Call : mg "Call" = some (.ref (He.ga K "Call"))
  c_Call : Cls K (He.ga K "Call")
  k_Call : Mk K (He.ga K "Call") (He.fAd K ("Call", some "__init__"))
  a_Call_worth : NoAttr K (He.ga K "Call") "worth"
  a_Call_heard : NoAttr K (He.ga K "Call") "heard"
  g_Scene : mg "Scene" = some (.ref (He.ga K "Scene"))
  c_Scene : Cls K (He.ga K "Scene")
  k_Scene : Mk K (He.ga K "Scene") (He.fAd K ("Scene", some "__init__"))
  a_Scene_channels : NoAttr K (He.ga K "Scene") "channels"
  a_Scene_calls : NoAttr K (He.ga K "Scene") "calls"
  m_Scene_order : Meth K (He.ga K "Scene") "order" (He.fAd K ("Scene", some "order"))
  m_Scene_rank : Meth K (He.ga K "Scene") "rank" (He.fAd K ("Scene", some "rank"))
  g_Seats : mg "Seats" = some (.ref (He.ga K "Seats"))
  c_Seats : Cls K (He.ga K "Seats")
  k_Seats : Mk K (He.ga K "Seats") (He.fAd K ("Seats", some "__init__"))
  a_Seats_scene : NoAttr K (He.ga K "Seats") "scene"
  a_Seats_seating : NoAttr K (He.ga K "Seats") "seating"
  a_Seats_seated : NoAttr K (He.ga K "Seats") "seated"
  m_Seats_sit : Meth K (He.ga K "Seats") "sit" (He.fAd K ("Seats", some "sit"))
  m_Seats_has_room : Meth K (He.ga K "Seats") "has_room" (He.fAd K ("Seats", some "has_room"))
  m_Seats_ways_from : Meth K (He.ga K "Seats") "ways_from" (He.fAd K ("Seats", some "ways_from"))
  m_Seats_add : Meth K (He.ga K "Seats") "add" (He.fAd K ("Seats", some "add"))
  g_Kept : mg "Kept" = some (.ref (He.ga K "Kept"))
  c_Kept : Cls K (He.ga K "Kept")
  k_Kept : Mk K (He.ga K "Kept") (He.fAd K ("Kept", some "__init__"))
  a_Kept_lot : NoAttr K (He.ga K "Kept") "lot"
  a_Kept_seating : NoAttr K (He.ga K "Kept") "seating"
  a_Kept_papers : NoAttr K (He.ga K "Kept") "papers"
  g_Moves : mg "Moves" = some (.ref (He.ga K "Moves"))
  c_Moves : Cls K (He.ga K "Moves")
  k_Moves : Mk K (He.ga K "Moves") (He.fAd K ("Moves", some "__init__"))
  a_Moves_scene : NoAttr K (He.ga K "Moves") "scene"
  a_Moves_before : NoAttr K (He.ga K "Moves") "before"
  a_Moves_seats : NoAttr K (He.ga K "Moves") "seats"
  m_Moves_cost : Meth K (He.ga K "Moves") "cost" (He.fAd K ("Moves", some "cost"))
  m_Moves_arcs : Meth K (He.ga K "Moves") "arcs" (He.fAd K ("Moves", some "arcs"))
  m_Moves_prices : Meth K (He.ga K "Moves") "prices" (He.fAd K ("Moves", some "prices"))
  m_Moves_ring : Meth K (He.ga K "Moves") "ring" (He.fAd K ("Moves", some "ring"))
  m_Moves_better : Meth K (He.ga K "Moves") "better" (He.fAd K ("Moves", some "better"))
  g_Danger : mg "Danger" = some (.ref (He.ga K "Danger"))
  c_Danger : Cls K (He.ga K "Danger")
  k_Danger : Mk K (He.ga K "Danger") (He.fAd K ("Danger", some "__init__"))
  a_Danger_falls : NoAttr K (He.ga K "Danger") "falls"
  a_Danger_masts : NoAttr K (He.ga K "Danger") "masts"
  a_Danger_ways : NoAttr K (He.ga K "Danger") "ways"
  g_Town : mg "Town" = some (.ref (He.ga K "Town"))
  c_Town : Cls K (He.ga K "Town")
  k_Town : Mk K (He.ga K "Town") (He.fAd K ("Town", some "__init__"))
  a_Town_plan : NoAttr K (He.ga K "Town") "plan"
  a_Town_most : NoAttr K (He.ga K "Town") "most"
  a_Town_down : NoAttr K (He.ga K "Town") "down"
  a_Town_places : NoAttr K (He.ga K "Town") "places"
  a_Town_seating : NoAttr K (He.ga K "Town") "seating"
  a_Town_refused : NoAttr K (He.ga K "Town") "refused"
  a_Town_moved : NoAttr K (He.ga K "Town") "moved"
  m_Town_scene : Meth K (He.ga K "Town") "scene" (He.fAd K ("Town", some "scene"))
  m_Town_settle : Meth K (He.ga K "Town") "settle" (He.fAd K ("Town", some "settle"))
  m_Town_check : Meth K (He.ga K "Town") "check" (He.fAd K ("Town", some "check"))
  m_Town_begin : Meth K (He.ga K "Town") "begin" (He.fAd K ("Town", some "begin"))
  m_Town_go : Meth K (He.ga K "Town") "go" (He.fAd K ("Town", some "go"))
  m_Town_end : Meth K (He.ga K "Town") "end" (He.fAd K ("Town", some "end"))
  m_Town_fall : Meth K (He.ga K "Town") "fall" (He.fAd K ("Town", some "fall"))
  m_Town_rise : Meth K (He.ga K "Town") "rise" (He.fAd K ("Town", some "rise"))
  m_Town_is_safe : Meth K (He.ga K "Town") "is_safe" (He.fAd K ("Town", some "is_safe"))
  g_TownJournal : mg "TownJournal" = some (.ref (He.ga K "TownJournal"))
  c_TownJournal : Cls K (He.ga K "TownJournal")
  k_TownJournal : Mk K (He.ga K "TownJournal") (He.fAd K ("TownJournal", some "__init__"))
  a_TownJournal_town : NoAttr K (He.ga K "TownJournal") "town"
  a_TownJournal_text : NoAttr K (He.ga K "TownJournal") "text"
  a_TownJournal_loose : NoAttr K (He.ga K "TownJournal") "loose"
  a_TownJournal_many : NoAttr K (He.ga K "TownJournal") "many"
  m_TownJournal_do : Meth K (He.ga K "TownJournal") "do" (He.fAd K ("TownJournal", some "do"))
  m_TownJournal_sync : Meth K (He.ga K "TownJournal") "sync" (He.fAd K ("TownJournal", some "sync"))
  m_TownJournal_fallen : Meth K (He.ga K "TownJournal") "fallen" (He.fAd K ("TownJournal", some "fallen"))
  g_Map : mg "Map" = some (.ref (He.ga K "Map"))
  c_Map : Cls K (He.ga K "Map")
  k_Map : Mk K (He.ga K "Map") (He.fAd K ("Map", some "__init__"))
  a_Map_channels : NoAttr K (He.ga K "Map") "channels"
  a_Map_heard : NoAttr K (He.ga K "Map") "heard"
  a_Map_roads : NoAttr K (He.ga K "Map") "roads"
  m_Map_next_zones : Meth K (He.ga K "Map") "next_zones" (He.fAd K ("Map", some "next_zones"))
  m_Map_reach : Meth K (He.ga K "Map") "reach" (He.fAd K ("Map", some "reach"))
  m_Map_up_masts : Meth K (He.ga K "Map") "up_masts" (He.fAd K ("Map", some "up_masts"))
  m_Map_room : Meth K (He.ga K "Map") "room" (He.fAd K ("Map", some "room"))
  g_is_whole : mg "is_whole" = some (.ref (He.fAd K ("is_whole", none)))
  g_is_name : mg "is_name" = some (.ref (He.fAd K ("is_name", none)))
  g_reseated : mg "reseated" = some (.ref (He.fAd K ("reseated", none)))
  g_moves_of : mg "moves_of" = some (.ref (He.fAd K ("moves_of", none)))
  g_lots_of : mg "lots_of" = some (.ref (He.fAd K ("lots_of", none)))
  g_lots_below : mg "lots_below" = some (.ref (He.fAd K ("lots_below", none)))
  g_size_and_row : mg "size_and_row" = some (.ref (He.fAd K ("size_and_row", none)))
  g_ways_into : mg "ways_into" = some (.ref (He.fAd K ("ways_into", none)))
  g_danger_at : mg "danger_at" = some (.ref (He.fAd K ("danger_at", none)))
  g_danger_for : mg "danger_for" = some (.ref (He.fAd K ("danger_for", none)))
  g_check_deed : mg "check_deed" = some (.ref (He.fAd K ("check_deed", none)))
  g_do_in : mg "do_in" = some (.ref (He.fAd K ("do_in", none)))
  g_town_line : mg "town_line" = some (.ref (He.fAd K ("town_line", none)))
  g_deed_of : mg "deed_of" = some (.ref (He.fAd K ("deed_of", none)))
  g_town_deeds : mg "town_deeds" = some (.ref (He.fAd K ("town_deeds", none)))
  g__law_number : mg "_law_number" = some (.ref (He.fAd K ("_law_number", none)))
  g__law_take : mg "_law_take" = some (.ref (He.fAd K ("_law_take", none)))
  g__law_pick : mg "_law_pick" = some (.ref (He.fAd K ("_law_pick", none)))
  g__law_masts : mg "_law_masts" = some (.ref (He.fAd K ("_law_masts", none)))
  g__law_heard : mg "_law_heard" = some (.ref (He.fAd K ("_law_heard", none)))
  g__law_town : mg "_law_town" = some (.ref (He.fAd K ("_law_town", none)))
  g__law_told : mg "_law_told" = some (.ref (He.fAd K ("_law_told", none)))
  g__law_wish : mg "_law_wish" = some (.ref (He.fAd K ("_law_wish", none)))
  g_law : mg "law" = some (.ref (He.fAd K ("law", none)))
  z_len : mg "len" = none
  z_sorted : mg "sorted" = none
  z_tuple : mg "tuple" = none
  z_list : mg "list" = none
  z_dict : mg "dict" = none
  z_set : mg "set" = none
  z_min : mg "min" = none
  z_sum : mg "sum" = none
  z_all : mg "all" = none
  z_str : mg "str" = none
  z_int : mg "int" = none
  z_abs : mg "abs" = none
  z_range : mg "range" = none
  z_isinstance : mg "isinstance" = none
  z_bool : mg "bool" = none
  z_super : mg "super" = none
  d_IsWhole : ∃ fd, FnP K "is_whole" "is_whole" sIsWhole (He.fAd K ("is_whole", none)) fd
  d_IsName : ∃ fd, FnP K "is_name" "is_name" sIsName (He.fAd K ("is_name", none)) fd
  d_CallInit : ∃ fd, FnP K "__init__" "Call.__init__" sCallInit (He.fAd K ("Call", some "__init__")) fd
  d_SceneInit : ∃ fd, FnP K "__init__" "Scene.__init__" sSceneInit (He.fAd K ("Scene", some "__init__")) fd
  d_SceneOrder : ∃ fd, FnP K "order" "Scene.order" sSceneOrder (He.fAd K ("Scene", some "order")) fd
  d_SceneRank : ∃ fd, FnP K "rank" "Scene.rank" sSceneRank (He.fAd K ("Scene", some "rank")) fd
  d_SeatsInit : ∃ fd, FnP K "__init__" "Seats.__init__" sSeatsInit (He.fAd K ("Seats", some "__init__")) fd
  d_SeatsSit : ∃ fd, FnP K "sit" "Seats.sit" sSeatsSit (He.fAd K ("Seats", some "sit")) fd
  d_SeatsHasRoom : ∃ fd, FnP K "has_room" "Seats.has_room" sSeatsHasRoom (He.fAd K ("Seats", some "has_room")) fd
  d_SeatsWaysFrom : ∃ fd, FnP K "ways_from" "Seats.ways_from" sSeatsWaysFrom (He.fAd K ("Seats", some "ways_from")) fd
  d_SeatsAdd : ∃ fd, FnP K "add" "Seats.add" sSeatsAdd (He.fAd K ("Seats", some "add")) fd
  d_KeptInit : ∃ fd, FnP K "__init__" "Kept.__init__" sKeptInit (He.fAd K ("Kept", some "__init__")) fd
  d_MovesInit : ∃ fd, FnP K "__init__" "Moves.__init__" sMovesInit (He.fAd K ("Moves", some "__init__")) fd
  d_MovesCost : ∃ fd, FnP K "cost" "Moves.cost" sMovesCost (He.fAd K ("Moves", some "cost")) fd
  d_MovesArcs : ∃ fd, FnP K "arcs" "Moves.arcs" sMovesArcs (He.fAd K ("Moves", some "arcs")) fd
  d_MovesPrices : ∃ fd, FnP K "prices" "Moves.prices" sMovesPrices (He.fAd K ("Moves", some "prices")) fd
  d_MovesRing : ∃ fd, FnP K "ring" "Moves.ring" sMovesRing (He.fAd K ("Moves", some "ring")) fd
  d_MovesBetter : ∃ fd, FnP K "better" "Moves.better" sMovesBetter (He.fAd K ("Moves", some "better")) fd
  d_Reseated : ∃ fd, FnP K "reseated" "reseated" sReseated (He.fAd K ("reseated", none)) fd
  d_MovesOf : ∃ fd, FnP K "moves_of" "moves_of" sMovesOf (He.fAd K ("moves_of", none)) fd
  d_LotsOf : ∃ fd, FnP K "lots_of" "lots_of" sLotsOf (He.fAd K ("lots_of", none)) fd
  d_DangerInit : ∃ fd, FnP K "__init__" "Danger.__init__" sDangerInit (He.fAd K ("Danger", some "__init__")) fd
  d_LotsBelow : ∃ fd, FnP K "lots_below" "lots_below" sLotsBelow (He.fAd K ("lots_below", none)) fd
  d_SizeAndRow : ∃ fd, FnP K "size_and_row" "size_and_row" sSizeAndRow (He.fAd K ("size_and_row", none)) fd
  d_WaysInto : ∃ fd, FnP K "ways_into" "ways_into" sWaysInto (He.fAd K ("ways_into", none)) fd
  d_DangerAt : ∃ fd, FnP K "danger_at" "danger_at" sDangerAt (He.fAd K ("danger_at", none)) fd
  d_DangerFor : ∃ fd, FnP K "danger_for" "danger_for" sDangerFor (He.fAd K ("danger_for", none)) fd
  d_TownInit : ∃ fd, FnP K "__init__" "Town.__init__" sTownInit (He.fAd K ("Town", some "__init__")) fd
  d_TownScene : ∃ fd, FnP K "scene" "Town.scene" sTownScene (He.fAd K ("Town", some "scene")) fd
  d_TownSettle : ∃ fd, FnP K "settle" "Town.settle" sTownSettle (He.fAd K ("Town", some "settle")) fd
  d_TownCheck : ∃ fd, FnP K "check" "Town.check" sTownCheck (He.fAd K ("Town", some "check")) fd
  d_TownBegin : ∃ fd, FnP K "begin" "Town.begin" sTownBegin (He.fAd K ("Town", some "begin")) fd
  d_TownGo : ∃ fd, FnP K "go" "Town.go" sTownGo (He.fAd K ("Town", some "go")) fd
  d_TownEnd : ∃ fd, FnP K "end" "Town.end" sTownEnd (He.fAd K ("Town", some "end")) fd
  d_TownFall : ∃ fd, FnP K "fall" "Town.fall" sTownFall (He.fAd K ("Town", some "fall")) fd
  d_TownRise : ∃ fd, FnP K "rise" "Town.rise" sTownRise (He.fAd K ("Town", some "rise")) fd
  d_TownIsSafe : ∃ fd, FnP K "is_safe" "Town.is_safe" sTownIsSafe (He.fAd K ("Town", some "is_safe")) fd
  d_CheckDeed : ∃ fd, FnP K "check_deed" "check_deed" sCheckDeed (He.fAd K ("check_deed", none)) fd
  d_DoIn : ∃ fd, FnP K "do_in" "do_in" sDoIn (He.fAd K ("do_in", none)) fd
  d_TownLine : ∃ fd, FnP K "town_line" "town_line" sTownLine (He.fAd K ("town_line", none)) fd
  d_DeedOf : ∃ fd, FnP K "deed_of" "deed_of" sDeedOf (He.fAd K ("deed_of", none)) fd
  d_TownDeeds : ∃ fd, FnP K "town_deeds" "town_deeds" sTownDeeds (He.fAd K ("town_deeds", none)) fd
  d_TownJournalInit : ∃ fd, FnP K "__init__" "TownJournal.__init__" sTownJournalInit (He.fAd K ("TownJournal", some "__init__")) fd
  d_TownJournalDo : ∃ fd, FnP K "do" "TownJournal.do" sTownJournalDo (He.fAd K ("TownJournal", some "do")) fd
  d_TownJournalSync : ∃ fd, FnP K "sync" "TownJournal.sync" sTownJournalSync (He.fAd K ("TownJournal", some "sync")) fd
  d_TownJournalFallen : ∃ fd, FnP K "fallen" "TownJournal.fallen" sTownJournalFallen (He.fAd K ("TownJournal", some "fallen")) fd
  d_MapInit : ∃ fd, FnP K "__init__" "Map.__init__" sMapInit (He.fAd K ("Map", some "__init__")) fd
  d_MapNextZones : ∃ fd, FnP K "next_zones" "Map.next_zones" sMapNextZones (He.fAd K ("Map", some "next_zones")) fd
  d_MapReach : ∃ fd, FnP K "reach" "Map.reach" sMapReach (He.fAd K ("Map", some "reach")) fd
  d_MapUpMasts : ∃ fd, FnP K "up_masts" "Map.up_masts" sMapUpMasts (He.fAd K ("Map", some "up_masts")) fd
  d_MapRoom : ∃ fd, FnP K "room" "Map.room" sMapRoom (He.fAd K ("Map", some "room")) fd
  d_Lnumber : ∃ fd, FnP K "_law_number" "_law_number" sLnumber (He.fAd K ("_law_number", none)) fd
  d_Ltake : ∃ fd, FnP K "_law_take" "_law_take" sLtake (He.fAd K ("_law_take", none)) fd
  d_Lpick : ∃ fd, FnP K "_law_pick" "_law_pick" sLpick (He.fAd K ("_law_pick", none)) fd
  d_Lmasts : ∃ fd, FnP K "_law_masts" "_law_masts" sLmasts (He.fAd K ("_law_masts", none)) fd
  d_Lheard : ∃ fd, FnP K "_law_heard" "_law_heard" sLheard (He.fAd K ("_law_heard", none)) fd
  d_Ltown : ∃ fd, FnP K "_law_town" "_law_town" sLtown (He.fAd K ("_law_town", none)) fd
  d_Ltold : ∃ fd, FnP K "_law_told" "_law_told" sLtold (He.fAd K ("_law_told", none)) fd
  d_Lwish : ∃ fd, FnP K "_law_wish" "_law_wish" sLwish (He.fAd K ("_law_wish", none)) fd
  d_Law : ∃ fd, FnP K "law" "law" sLaw (He.fAd K ("law", none)) fd
  letters : ∃ t, mg "LETTERS" = some (.str "abcdefghijklmnopqrstuvwxyz" t)
  figures : ∃ t, mg "FIGURES" = some (.str "0123456789" t)
  most : ∃ t, mg "MOST_CHANNELS" = some (.int 1000 t)
  free : ∃ t, mg "FREE" = some (.str "" t)
  g_SHAPES : mg "SHAPES" = some (.ref (He.ga K "SHAPES"))
  badName : ∃ fI cc cda, BadT P K mg "BadName" "name" (He.ga K "BadName") fI cc cda
  badCut : ∃ fI cc cda, BadT P K mg "BadCut" "place" (He.ga K "BadCut") fI cc cda
  bm_rank : BMeth K (He.ga K "Scene") "rank" (He.fAd K ("Scene", some "rank"))
  shapes : ∃ es n, KDict K w (He.ga K "SHAPES") es n
  sh_begin : ∃ t, PySem.W.nsIn K (He.ga K "SHAPES") "begin" = some (some (.int 3 t))
  sh_go : ∃ t, PySem.W.nsIn K (He.ga K "SHAPES") "go" = some (some (.int 3 t))
  sh_end : ∃ t, PySem.W.nsIn K (He.ga K "SHAPES") "end" = some (some (.int 2 t))
  sh_fall : ∃ t, PySem.W.nsIn K (He.ga K "SHAPES") "fall" = some (some (.int 2 t))
  sh_rise : ∃ t, PySem.W.nsIn K (He.ga K "SHAPES") "rise" = some (some (.int 2 t))
  sh_begn : PySem.W.nsIn K (He.ga K "SHAPES") "begn" = some none
  sh_tick : PySem.W.nsIn K (He.ga K "SHAPES") "tick" = some none
theorem bt_len : bootBuiltins "len" = some (.builtin "len") := by decide +kernel
theorem bt_sorted : bootBuiltins "sorted" = some (.builtin "sorted") := by decide +kernel
theorem bt_tuple : bootBuiltins "tuple" = some (.type "tuple") := by decide +kernel
theorem bt_list : bootBuiltins "list" = some (.type "list") := by decide +kernel
theorem bt_dict : bootBuiltins "dict" = some (.type "dict") := by decide +kernel
theorem bt_set : bootBuiltins "set" = some (.type "set") := by decide +kernel
theorem bt_min : bootBuiltins "min" = some (.builtin "min") := by decide +kernel
theorem bt_sum : bootBuiltins "sum" = some (.builtin "sum") := by decide +kernel
theorem bt_all : bootBuiltins "all" = some (.builtin "all") := by decide +kernel
theorem bt_str : bootBuiltins "str" = some (.type "str") := by decide +kernel
theorem bt_int : bootBuiltins "int" = some (.type "int") := by decide +kernel
theorem bt_abs : bootBuiltins "abs" = some (.builtin "abs") := by decide +kernel
theorem bt_isinstance : bootBuiltins "isinstance" = some (.builtin "isinstance") := by decide +kernel
theorem bt_bool : bootBuiltins "bool" = some (.type "bool") := by decide +kernel
end MC
end
section
set_option Elab.async false
set_option linter.all false
set_option maxRecDepth 100000
set_option maxHeartbeats 4000000
/-! Small words for the answers. -/
namespace MC
open PySem PySem.Spec PyProof.Rows L2
theorem itT {p q : Prop} (h : p) : if true = true then p else q := by rw [if_pos rfl]; exact h
theorem itF {p q : Prop} (h : q) : if false = true then p else q := by rw [if_neg Bool.false_ne_true]; exact h
theorem itB {b : Bool} {p q : Prop} (h : b = true → p) (h' : b = false → q) : if b = true then p else q := by
  cases b with
  | true => rw [if_pos rfl]; exact h rfl
  | false => rw [if_neg Bool.false_ne_true]; exact h' rfl
theorem yesT {σ : L2.St} {H : Hp} {p : Bool → Hp → Prop} (h : p true H) : tYes σ H p := h
theorem seqIx0 (n : Nat) : seqIndex? 0 (n + 1) = some 0 := by unfold seqIndex?; simp
theorem seqIxL (n : Nat) : seqIndex? (-1) (n + 1) = some n := by
  unfold seqIndex?
  simp
  omega
theorem sz2 : 2 ≤ sizeLine := by rw [sizeLine_eq]; decide
theorem sz1 : 1 ≤ sizeLine := by rw [sizeLine_eq]; decide
theorem sz0 : 0 ≤ sizeLine := Nat.zero_le _
theorem sz3 : 3 ≤ sizeLine := by rw [sizeLine_eq]; decide
theorem sz4 : 4 ≤ sizeLine := by rw [sizeLine_eq]; decide
theorem szN {n : Nat} (h : n ≤ 100000) : n ≤ sizeLine := by rw [sizeLine_eq]; omega
theorem szL {n : Nat} (h : n ≤ 100000) : n < sizeLine := by rw [sizeLine_eq]; omega
/-- a def of a known promise, at a higher level of its caller -/
theorem _root_.L2.Same.upd {H H' : Hp} {p : Addr} {o : HO} (e : Same H H') (h : H' p = none) : Same H (upd H' p o) := fun b u q => by
  have z := e b u q
  rw [upd_ne (ne_of_none z h)]
  exact z
/-- what H does not tell of may turn -/
theorem _root_.L2.Same.turn {H H' : Hp} {p : Addr} {o : HO} (e : Same H H') (h : H p = none) : Same H (L2.upd H' p o) := fun b u q => by
  rw [upd_ne (ne_of_none q h)]
  exact e b u q
theorem _root_.L2.Same.seqT {K : PySem.W.Frag} {H H' : Hp} {a : Addr} {xs : List V} (e : Same H H') (h : SqT K H a xs) : SqT K H' a xs := same_seqT e h
theorem sqT {K : PySem.W.Frag} {H : Hp} {a : Addr} {xs : List V} (h : H a = some (.tup xs)) : SqT K H a xs := .inl (.inl h)
theorem sqL {K : PySem.W.Frag} {H : Hp} {a : Addr} {xs : List V} (h : H a = some (.lst xs)) : SqL K H a xs := .inl (.inl h)
theorem inV_strs (x : Str) (xs : List Str) : inV (.str x) (xs.map V.str) = decide (x ∈ xs) := by
  unfold inV
  induction xs with
  | nil => rfl
  | cons y ys ih =>
    rw [List.map_cons, List.any_cons, ih]
    show ((y == x) || _) = _
    by_cases h : y = x
    · subst h
      simp
    · have h2 : ¬ x = y := fun e => h e.symm
      simp [h, h2]
/-- a comprehension's block, checked -/
def blkB (N : List Str) (sc scope : Scope) (own : List (Str × Nat)) : Bool :=
  decide (scope.kind = .function) && (scope.names.all (fun y => decide (scope.names.lookup y.1 = some y.2)) && (own.all (fun p => decide (N[p.2]? = some p.1)) &&
    (scope.names.all (fun y => !decide (y.2 = .free) || (decide (sc.names.lookup y.1 = some .cell) || decide (sc.names.lookup y.1 = some .free))) &&
      scope.names.all (fun y => !(decide (y.2 = .local) || decide (y.2 = .cell)) || (decide (y.1 ∈ own.map (·.1)) || decide (y.1 ∉ N))))))
theorem blk_ok {N : List Str} {sc scope : Scope} {own : List (Str × Nat)} (h : blkB N sc scope own = true) : BlkOk N sc scope own := by
  unfold blkB at h
  simp only [Bool.and_eq_true, List.all_eq_true, decide_eq_true_eq, Bool.or_eq_true, Bool.not_eq_true', decide_eq_false_iff_not] at h
  obtain ⟨h1, h2, h3, h4, h5⟩ := h
  refine ⟨h1, fun y hy => h2 y hy, fun p hp => h3 p hp, fun y hy e => (h4 y hy).resolve_left fun z => z e, fun y hy e => (h5 y hy).resolve_left fun z => ?_⟩
  rw [Bool.or_eq_false_iff, decide_eq_false_iff_not, decide_eq_false_iff_not] at z
  rcases e with e | e
  · exact z.1 e
  · exact z.2 e
theorem _root_.L2.Room.u2 {k : Nat} {A : Around} (r : Room k A) : A.units + 2 < cLine := by have := r.un; omega
theorem _root_.L2.Room.u1 {k : Nat} {A : Around} (r : Room k A) : A.units + 1 < cLine := by have := r.un; omega

/-! ### heaps -/
theorem _root_.L2.Same.rd {H H' : Hp} (e : Same H H') {a : Addr} {u : HO} (h : Rd H a u) : Rd H' a u := by
  rcases h with h | ⟨o, h⟩
  · exact .inl (e a _ h)
  · exact .inr ⟨o, e a _ h⟩
theorem _root_.L2.Same.new {H : Hp} {p : Addr} {o : HO} (h : H p = none) : Same H (L2.upd H p o) := (Same.refl H).upd h
/-- while d is walked -/
theorem rd_lock {H : Hp} {d a : Addr} {o : Obj} {u x : HO} (hd : H d = some u) (hm : Mut (some u)) (h : Rd H a x) : Rd (L2.upd H d (.frz o u)) a x := by
  by_cases e : a = d
  · subst e
    rcases h with h | ⟨o', h⟩
    · rw [hd] at h
      cases h
      exact .inr ⟨o, upd_same⟩
    · rw [hd] at h
      cases h
      exact hm.elim
  · rcases h with h | ⟨o', h⟩
    · exact .inl (by rw [upd_ne e]; exact h)
    · exact .inr ⟨o', by rw [upd_ne e]; exact h⟩
theorem at_lock {H : Hp} {d a : Addr} {o : Obj} {u x : HO} (hd : H d = some u) (hx : H a = some x) (hne : x ≠ u) : L2.upd H d (.frz o u) a = some x := by
  rw [upd_ne]
  · exact hx
  · rintro rfl
    rw [hd] at hx
    cases hx
    exact hne rfl
/-- behind the walk -/
theorem same_lock {H H' : Hp} {d : Addr} {o : Obj} {u : HO} (hd : H d = some u) (e : Same (L2.upd H d (.frz o u)) H') : Same H (L2.upd H' d u) := fun b x q => by
  by_cases hb : b = d
  · subst hb
    rw [hd] at q
    cases q
    exact upd_same
  · rw [upd_ne hb]
    exact e b x (by rw [upd_ne hb]; exact q)
theorem same_in {H H' : Hp} {d : Addr} {o : Obj} {u : HO} (e : Same (L2.upd H d (.frz o u)) H') : H' d = some (.frz o u) := e d _ upd_same

/-! ### comprehensions -/
/-- over a walk whose items are those of xs (in V: vx): what is kept by p, told by g; the body makes nothing that stays in the list but values -/
theorem lc_list {α : Type} {J : It} {G : Hp → Prop} {Y : Nat → Hp → V → Hp → Prop} (xs : List α) (w : Walk J xs.length G Y) {g : TG} {tt : TT} {te : TE} {vs : List Nat} {σ : L2.St} {H1 : Hp} {D : Addr} {Qd : Hp → Prop} (p : α → Bool) (val : α → V) (hD : H1 D = none) (hn : xs.length ≤ 50000)
    (hG : ∀ H', Same H1 H' → G H')
    (hs : ∀ (i : Nat) (a : α) (x : V) (H' H2 : Hp), xs[i]? = some a → Same H1 H' → Y i H' x H2 → Same H' H2 ∧ ∀ (R : V → Hp → Prop) (S : Hp → Prop), (∀ H5, Same H2 H5 → p a = true → R (val a) H5) → (∀ H4, Same H2 H4 → p a = false → S H4) →
      g x (wipe σ vs) H2 fun σ2 H3 => wipe σ2 vs = wipe σ vs ∧ tt σ2 H3 fun b H4 => if b = true then te σ2 H4 R else S H4)
    (hd : ∀ H', Same H1 H' → H' D = some (.lst ((xs.filter p).map val)) → Qd H') :
    ∃ W : Nat → Nat → Hp → Prop, (∃ m, W 0 m (upd H1 D (.lst []))) ∧ ∀ i m H, W i m H →
      (J.stop i H ∧ Qd H) ∨ (J.go i H ∧ ∃ Nx : Hp → Prop, (∀ H', Nx H' → ∃ m', m' < m ∧ W (i + 1) m' H') ∧ ∀ x H', J.yld i H x H' → g x (wipe σ vs) H' fun σ2 H2 => wipe σ2 vs = wipe σ vs ∧ tt σ2 H2 fun b H3 =>
        if b = true then te σ2 H3 fun y H4 => ∃ acc, H4 D = some (.lst acc) ∧ acc.length < sizeLine ∧ Nx (upd H4 D (.lst (acc ++ [y]))) else Nx H3) := by
  refine lc_it w (fun i H' => Same H1 H' ∧ H' D = some (.lst (((xs.take i).filter p).map val))) ⟨Same.new hD, upd_same⟩ (fun i H' _ q => hG H' q.1) ?_ fun H' q => hd H' q.1 (by rw [List.take_length] at q; exact q.2)
  rintro i x H' H2 hi ⟨e, hDl⟩ hY
  have hxi : xs[i]? = some xs[i] := List.getElem?_eq_getElem hi
  have htake : xs.take (i + 1) = xs.take i ++ [xs[i]] := by rw [List.take_add_one, hxi] <;> rfl
  obtain ⟨e2, h⟩ := hs i _ x H' H2 hxi e hY
  refine h _ _ (fun H5 e5 hp => ⟨_, e5 _ _ (e2 _ _ hDl), szL ?_, ((e.trans e2).trans e5).turn hD, ?_⟩) fun H4 e4 hp => ⟨(e.trans e2).trans e4, ?_⟩
  · rw [List.length_map]
    have := List.length_filter_le p (xs.take i)
    rw [List.length_take] at this
    omega
  · rw [upd_same, htake, List.filter_append, List.filter_cons, if_pos hp, List.map_append]
    rfl
  · rw [e4 _ _ (e2 _ _ hDl), htake, List.filter_append, List.filter_cons, if_neg (by rw [hp]; exact Bool.false_ne_true)]
    simp
/-- the items of a walk over a list or a tuple of values -/
theorem yat_map {α : Type} {xs : List α} {f : α → V} {i : Nat} {a : α} {x : V} {H H2 : Hp} (h : xs[i]? = some a) (y : YAt (xs.map f) i H x H2) : x = f a ∧ H2 = H := by
  obtain ⟨rfl, hx⟩ := y
  rw [List.getElem?_map, h] at hx
  exact ⟨(Option.some.inj hx).symm, rfl⟩
theorem walk_tupM {K : PySem.W.Frag} {a : Addr} {α : Type} {xs : List α} {f : α → V} : Walk (Itt K a) xs.length (fun H => SqT K H a (xs.map f)) (YAt (xs.map f)) := by
  have w := walk_tup (K := K) (a := a) (xs := xs.map f)
  rw [List.length_map] at w
  exact w
theorem walk_listM {K : PySem.W.Frag} {a : Addr} {α : Type} {xs : List α} {f : α → V} : Walk (Itl K a) xs.length (fun H => SqL K H a (xs.map f)) (YAt (xs.map f)) := by
  have w := walk_list (K := K) (a := a) (xs := xs.map f)
  rw [List.length_map] at w
  exact w
end MC
end
section
set_option Elab.async false
set_option linter.all false
set_option maxRecDepth 100000
set_option maxHeartbeats 4000000
/-! The plan (a Map) as it lies. -/
namespace MC
open PySem PySem.Spec PyProof.Rows L2
/-! ### dicts with text keys -/
abbrev dS (l : List (Str × V)) : List (Key × V) := l.map fun p => (.inr p.1, p.2)
theorem valV_dS (l : List (Str × V)) (k : Str) : valV (dS l) (.inr k) = l.lookup k := by
  induction l with
  | nil => rfl
  | cons p l ih =>
    show valV ((Sum.inr p.1, p.2) :: dS l) (.inr k) = _
    by_cases h : p.1 = k
    · subst h
      rw [valV_pos rfl, List.lookup_cons, beq_self_eq_true]
    · have hb : (k == p.1) = false := beq_eq_false_iff_ne.mpr fun e => h e.symm
      rw [valV_neg (by simpa using h), ih, List.lookup_cons, hb]
theorem lookup_map {α : Type} (l : List (Str × α)) (f : Str → α → V) (k : Str) : (l.map fun p => (p.1, f p.1 p.2)).lookup k = (l.lookup k).map (f k) := by
  induction l with
  | nil => rfl
  | cons p l ih =>
    rw [List.map_cons, List.lookup_cons, List.lookup_cons]
    by_cases h : k == p.1
    · have e : k = p.1 := beq_iff_eq.mp h
      rw [h]
      simp [e]
    · rw [Bool.not_eq_true] at h
      rw [h]
      exact ih
theorem lookup_mem {α : Type} {l : List (Str × α)} {k : Str} {v : α} (h : l.lookup k = some v) : (k, v) ∈ l := by
  induction l with
  | nil => cases h
  | cons p l ih =>
    rw [List.lookup_cons] at h
    by_cases hk : k == p.1
    · rw [hk] at h
      have e : k = p.1 := beq_iff_eq.mp hk
      cases h
      rw [e]
      exact List.mem_cons_self
    · rw [Bool.not_eq_true] at hk
      rw [hk] at h
      exact List.mem_cons_of_mem _ (ih h)
theorem lookup_some {α : Type} {l : List (Str × α)} {k : Str} (h : k ∈ l.map (·.1)) : ∃ v, l.lookup k = some v := by
  induction l with
  | nil => cases h
  | cons p l ih =>
    rw [List.lookup_cons]
    by_cases hk : k == p.1
    · exact ⟨p.2, by rw [hk]⟩
    · rw [Bool.not_eq_true] at hk
      rw [hk]
      rw [List.map_cons, List.mem_cons] at h
      exact ih (h.resolve_left fun e => by rw [e, beq_self_eq_true] at hk; cases hk)
theorem lookup_none {α : Type} {l : List (Str × α)} {k : Str} (h : k ∉ l.map (·.1)) : l.lookup k = none := by
  cases q : l.lookup k with
  | none => rfl
  | some v => exact absurd (List.mem_map.mpr ⟨_, lookup_mem q, rfl⟩) h
theorem lookup_nodup {α : Type} {l : List (Str × α)} (hn : (l.map (·.1)).Nodup) {k : Str} {v : α} (h : (k, v) ∈ l) : l.lookup k = some v := by
  induction l with
  | nil => cases h
  | cons p l ih =>
    rw [List.map_cons, List.nodup_cons] at hn
    rw [List.lookup_cons]
    rcases List.mem_cons.mp h with e | h
    · subst e
      simp
    · have hk : (k == p.1) = false := beq_eq_false_iff_ne.mpr fun e => hn.1 (by rw [← e]; exact List.mem_map.mpr ⟨_, h, rfl⟩)
      rw [hk]
      exact ih hn.2 h

/-! ### the plan -/
structure Plan where
  chan : List (Str × Int)
  heard : List (Str × List Str)
  roads : List (Str × Str)
namespace Plan
def zones (p : Plan) : List Str := p.heard.map (·.1)
def masts (p : Plan) : List Str := p.chan.map (·.1)
def hears (p : Plan) (z : Str) : List Str := (p.heard.lookup z).getD []
def up (p : Plan) (down : List Str) (z : Str) : List Str := (p.hears z).filter fun m => decide (m ∉ down)
def next (p : Plan) (z : Str) : List Str := (p.roads.filter fun r => decide (r.1 = z)).map (·.2)
def chanOf (p : Plan) (m : Str) : Int := (p.chan.lookup m).getD 0
def room (p : Plan) (M : List Str) : Int := (M.map p.chanOf).sum
/-- what the map's making checks, and how large it is -/
structure Ok (p : Plan) : Prop where
  cn : p.masts.Nodup
  hn : p.zones.Nodup
  cw : ∀ c ∈ p.chan, 0 ≤ c.2 ∧ c.2 ≤ 1000
  hin : ∀ h ∈ p.heard, ∀ m ∈ h.2, m ∈ p.masts
  hnd : ∀ h ∈ p.heard, h.2.Nodup
  hlen : ∀ h ∈ p.heard, h.2.length ≤ 8
  rin : ∀ r ∈ p.roads, r.1 ∈ p.zones ∧ r.2 ∈ p.zones
  csz : p.chan.length ≤ 8
  hsz : p.heard.length ≤ 8
  rsz : p.roads.length ≤ 60
end Plan
/-- how the map lies: R reads its two dicts -/
def PlanF (R : Hp → Addr → HO → Prop) (K : PySem.W.Frag) (H : Hp) (pl : Addr) (p : Plan) : Prop :=
  ∃ (dx ca ha ra : Addr) (β : Str → Addr) (ρ : Str × Str → Addr), H pl = some (.ins (He.ga K "Map") dx [("channels", .ref ca), ("heard", .ref ha), ("roads", .ref ra)]) ∧
    R H ca (.dK (dS (p.chan.map fun c => (c.1, .int c.2)))) ∧ R H ha (.dK (dS (p.heard.map fun h => (h.1, .ref (β h.1))))) ∧ H ra = some (.tup (p.roads.map fun r => .ref (ρ r))) ∧
    (∀ h ∈ p.heard, H (β h.1) = some (.tup (h.2.map V.str))) ∧ ∀ r ∈ p.roads, H (ρ r) = some (.tup [.str r.1, .str r.2])
abbrev AtH (H : Hp) (a : Addr) (u : HO) : Prop := H a = some u
abbrev PlanAt := PlanF AtH
abbrev PlanRd := PlanF Rd
section
variable {K : PySem.W.Frag} {H H' : Hp} {pl : Addr} {p : Plan}
theorem PlanAt.rd (h : PlanAt K H pl p) : PlanRd K H pl p := by
  obtain ⟨dx, ca, ha, ra, β, ρ, h1, h2, h3, h4⟩ := h
  exact ⟨dx, ca, ha, ra, β, ρ, h1, .inl h2, .inl h3, h4⟩
theorem PlanAt.same (h : PlanAt K H pl p) (e : Same H H') : PlanAt K H' pl p := by
  obtain ⟨dx, ca, ha, ra, β, ρ, h1, h2, h3, h4, h5, h6⟩ := h
  exact ⟨dx, ca, ha, ra, β, ρ, e _ _ h1, e _ _ h2, e _ _ h3, e _ _ h4, fun x hx => e _ _ (h5 x hx), fun x hx => e _ _ (h6 x hx)⟩
theorem PlanRd.same (h : PlanRd K H pl p) (e : Same H H') : PlanRd K H' pl p := by
  obtain ⟨dx, ca, ha, ra, β, ρ, h1, h2, h3, h4, h5, h6⟩ := h
  exact ⟨dx, ca, ha, ra, β, ρ, e _ _ h1, e.rd h2, e.rd h3, e _ _ h4, fun x hx => e _ _ (h5 x hx), fun x hx => e _ _ (h6 x hx)⟩
/-- a dict is walked -/
theorem PlanRd.lock (h : PlanRd K H pl p) {d : Addr} {o : Obj} {kvs : List (Key × V)} (hd : H d = some (.dK kvs)) : PlanRd K (L2.upd H d (.frz o (.dK kvs))) pl p := by
  obtain ⟨dx, ca, ha, ra, β, ρ, h1, h2, h3, h4, h5, h6⟩ := h
  exact ⟨dx, ca, ha, ra, β, ρ, at_lock hd h1 (by intro z; cases z), rd_lock hd trivial h2, rd_lock hd trivial h3, at_lock hd h4 (by intro z; cases z), fun x hx => at_lock hd (h5 x hx) (by intro z; cases z), fun x hx => at_lock hd (h6 x hx) (by intro z; cases z)⟩
end
end MC
end
section
set_option Elab.async false
set_option linter.all false
set_option maxRecDepth 100000
set_option maxHeartbeats 4000000
/-! Dicts with text keys, in plain terms. -/
namespace MC
open PySem PySem.Spec PyProof.Rows L2
section
variable {α : Type}
abbrev dV (f : α → V) (l : List (Str × α)) : List (Key × V) := dS (l.map fun c => (c.1, f c.2))
theorem valV_dV (f : α → V) (l : List (Str × α)) (k : Str) : valV (dV f l) (.inr k) = (l.lookup k).map f := by rw [valV_dS, lookup_map l (fun _ v => f v)]
def keysL (l : List (Str × α)) : List Str := l.map (·.1)
theorem keysL_map {β : Type} (l : List (Str × α)) (g : Str × α → β) : keysL (l.map fun c => (c.1, g c)) = keysL l := by
  unfold keysL
  rw [List.map_map]
  rfl
/-- d[k] = v -/
def putL (l : List (Str × α)) (k : Str) (v : α) : List (Str × α) := if k ∈ keysL l then l.map (fun c => if c.1 = k then (k, v) else c) else l ++ [(k, v)]
theorem keysL_putL {l : List (Str × α)} {k : Str} {v : α} : keysL (putL l k v) = if k ∈ keysL l then keysL l else keysL l ++ [k] := by
  unfold putL
  split
  · unfold keysL
    rw [List.map_map]
    refine List.map_congr_left fun c _ => ?_
    show (if c.1 = k then (k, v) else c).1 = c.1
    split
    · next h => exact h.symm
    · rfl
  · unfold keysL
    rw [List.map_append]
    rfl
theorem mem_keys_putL {l : List (Str × α)} {k x : Str} {v : α} : x ∈ keysL (putL l k v) ↔ x = k ∨ x ∈ keysL l := by
  rw [keysL_putL]
  split
  · next h => exact ⟨.inr, fun z => z.elim (fun e => e ▸ h) id⟩
  · rw [List.mem_append, List.mem_singleton]
    exact ⟨fun z => z.symm, fun z => z.symm⟩
theorem nodup_putL {l : List (Str × α)} {k : Str} {v : α} (h : (keysL l).Nodup) : (keysL (putL l k v)).Nodup := by
  rw [keysL_putL]
  split
  · exact h
  · next hn =>
    rw [List.nodup_append]
    exact ⟨h, by simp, fun a ha b hb e => hn (by rw [← List.mem_singleton.mp hb, ← e]; exact ha)⟩
theorem length_putL {l : List (Str × α)} {k : Str} {v : α} : (putL l k v).length ≤ l.length + 1 := by
  unfold putL
  split
  · rw [List.length_map]
    omega
  · rw [List.length_append]
    exact Nat.le_refl _
theorem lookup_putL {l : List (Str × α)} {k x : Str} {v : α} : (putL l k v).lookup x = if x = k then some v else l.lookup x := by
  unfold putL
  split
  · next hk =>
    induction l with
    | nil => cases hk
    | cons p l ih =>
      rw [List.map_cons, List.lookup_cons, List.lookup_cons]
      by_cases hp : p.1 = k
      · rw [if_pos hp]
        by_cases hx : x = k
        · subst hx
          simp
        · have h1 : (x == k) = false := beq_eq_false_iff_ne.mpr hx
          have h2 : (x == p.1) = false := by rw [hp]; exact h1
          rw [if_neg hx, h1, h2]
          by_cases hk2 : k ∈ keysL l
          · have := ih hk2
            rw [if_neg hx] at this
            exact this
          · have hm : (l.map fun c => if c.1 = k then (k, v) else c) = l := by
              conv => rhs; rw [← List.map_id l]
              refine List.map_congr_left fun c hc => ?_
              have : c.1 ≠ k := fun e => hk2 (e ▸ List.mem_map_of_mem hc)
              rw [if_neg this]
              rfl
            rw [hm]
      · rw [if_neg hp]
        have hk2 : k ∈ keysL l := by
          unfold keysL at hk ⊢
          rw [List.map_cons, List.mem_cons] at hk
          exact hk.resolve_left fun e => hp e.symm
        rw [ih hk2]
        by_cases hx : x == p.1
        · have e : x = p.1 := beq_iff_eq.mp hx
          have hxk : ¬ x = k := fun z => hp (by rw [← e, z])
          simp only [hx, if_neg hxk]
        · rw [Bool.not_eq_true] at hx
          rw [hx]
  · next hk =>
    induction l with
    | nil =>
      show List.lookup x [(k, v)] = _
      rw [List.lookup_cons]
      by_cases hx : x = k
      · subst hx; simp
      · rw [if_neg hx, beq_eq_false_iff_ne.mpr hx]
    | cons p l ih =>
      unfold keysL at hk ih
      rw [List.map_cons, List.mem_cons, not_or] at hk
      rw [List.cons_append, List.lookup_cons, List.lookup_cons, ih hk.2]
      by_cases hx : x == p.1
      · have e : x = p.1 := beq_iff_eq.mp hx
        have hxk : ¬ x = k := fun z => hk.1 (by rw [← e, z])
        simp only [hx, if_neg hxk]
      · rw [Bool.not_eq_true] at hx
        rw [hx]
theorem putK_dV (f : α → V) (l : List (Str × α)) (k : Str) (v : α) : putK (dV f l) (.inr k) (f v) = dV f (putL l k v) := by
  unfold putL
  by_cases h : k ∈ keysL l
  · rw [if_pos h]
    have hany : ((dV f l).any fun kv => decide (kv.1 = (.inr k : Key))) = true := by
      obtain ⟨c, hc, e⟩ := List.mem_map.mp h
      rw [List.any_eq_true]
      exact ⟨(.inr c.1, f c.2), by show _ ∈ (l.map fun c => (c.1, f c.2)).map _; rw [List.map_map]; exact List.mem_map.mpr ⟨c, hc, rfl⟩, by rw [e]; exact decide_eq_true rfl⟩
    unfold putK
    rw [if_pos hany]
    show (((l.map fun c => (c.1, f c.2)).map fun p => ((Sum.inr p.1 : Key), p.2)).map _) = ((l.map _).map _).map _
    rw [List.map_map, List.map_map, List.map_map, List.map_map]
    refine List.map_congr_left fun c _ => ?_
    show (if (Sum.inr c.1 : Key) = .inr k then ((Sum.inr c.1 : Key), f v) else (.inr c.1, f c.2)) = ((Sum.inr (if c.1 = k then (k, v) else c).1 : Key), f (if c.1 = k then (k, v) else c).2)
    by_cases hc : c.1 = k
    · rw [if_pos hc, if_pos (by rw [hc]), hc]
    · rw [if_neg hc, if_neg fun e => hc (Sum.inr.inj e)]
  · rw [if_neg h, putK_new]
    · show _ = ((l ++ [(k, v)]).map fun c => (c.1, f c.2)).map _
      rw [List.map_append, List.map_append]
      rfl
    · rw [valV_dV, lookup_none h]
      rfl
theorem mem_keysL {l : List (Str × α)} {k : Str} : k ∈ keysL l ↔ ∃ v, l.lookup k = some v := ⟨fun h => lookup_some h, fun ⟨v, h⟩ => List.mem_map.mpr ⟨_, lookup_mem h, rfl⟩⟩
theorem lookup_none_iff {l : List (Str × α)} {k : Str} : l.lookup k = none ↔ k ∉ keysL l := ⟨fun h hk => by
  obtain ⟨v, hv⟩ := mem_keysL.mp hk
  rw [h] at hv
  exact absurd hv (by intro z; cases z), lookup_none⟩
/-- d.pop(k) -/
def delL (l : List (Str × α)) (k : Str) : List (Str × α) := l.filter fun c => decide (c.1 ≠ k)
theorem keysL_delL {l : List (Str × α)} {k : Str} : keysL (delL l k) = (keysL l).filter fun x => decide (x ≠ k) := by
  unfold keysL delL
  rw [List.filter_map]
  rfl
theorem lookup_delL {l : List (Str × α)} {k x : Str} : (delL l k).lookup x = if x = k then none else l.lookup x := by
  induction l with
  | nil => unfold delL; split <;> rfl
  | cons p l ih =>
    unfold delL at ih ⊢
    rw [List.filter_cons]
    by_cases hp : p.1 = k
    · rw [if_neg (by simp [hp]), ih]
      split
      · rfl
      · next hx =>
        rw [List.lookup_cons]
        have : (x == p.1) = false := beq_eq_false_iff_ne.mpr (by rw [hp]; exact hx)
        rw [this]
    · rw [if_pos (by simp [hp]), List.lookup_cons, List.lookup_cons, ih]
      by_cases hx : x == p.1
      · have e : x = p.1 := beq_iff_eq.mp hx
        have hxk : ¬ x = k := fun z => hp (by rw [← e, z])
        simp only [hx, if_neg hxk]
      · rw [Bool.not_eq_true] at hx
        rw [hx]
end
section
variable {α : Type} {f : α → V} {H : Hp} {a : Addr} {l : List (Str × α)} {k : Str}
theorem dgetR (h : Rd H a (.dK (dV f l))) : DGet H a (.str k) ((l.lookup k).map f) := .inl ⟨_, .inr k, h, rfl, (valV_dV f l k).symm⟩
theorem dgetS {v : α} (h : Rd H a (.dK (dV f l))) (hk : l.lookup k = some v) : DGet H a (.str k) (some (f v)) := by
  have := dgetR (k := k) h
  rw [hk] at this
  exact this
theorem dputL {v : α} (h : H a = some (.dK (dV f l))) (hl : l.length < 100000) : DPut H a (.str k) (f v) (upd H a (.dK (dV f (putL l k v)))) := by
  rw [← putK_dV]
  exact DPut.k (k := .inr k) h (szL (by unfold dV dS; rw [List.length_map, List.length_map]; omega))
end
end MC
end
section
set_option Elab.async false
set_option linter.all false
set_option maxRecDepth 100000
set_option maxHeartbeats 4000000
/-! The defs, 1. -/
namespace MC
open PySem PySem.Spec PyProof.Rows L2
section
variable {P : Program} {w : World} {K : PySem.W.Frag} {mg : Str → Option Value} {base : Heap}
/-- def size_and_row(lot): return (len(lot), lot) -/
def spSizeAndRow (K : PySem.W.Frag) : Sp := fun vs H Q _ => ∃ (a : Addr) (xs : List V), vs = [.ref a] ∧ SqT K H a xs ∧ ∀ p, H p = none → Q (.ref p) (upd H p (.tup [.int xs.length, .ref a]))
theorem ok_sizeAndRow (T : Txt P w K mg) : Has P w K mg base CX0 1 (He.fAd K ("size_and_row", none)) ["lot"] (spSizeAndRow K) := by
  obtain ⟨fd, F⟩ := T.d_SizeAndRow
  have sc : FnScope ["lot"] ["lot"] (defScope sSizeAndRow) := ⟨rfl, rfl, rfl, by decide +kernel, rfl, by decide +kernel, by decide +kernel⟩
  refine ⟨fd, F.ok sc (fun vs H Q E h => ?_) (fun cdv A outer s H vs Q E hr h => ?_), F.bindsN fun _ _ _ _ _ _ us hl => match us, hl with | [_], _ => rfl, F.kp⟩
  · obtain ⟨a, xs, rfl, _⟩ := h
    rfl
  · obtain ⟨a, xs, rfl, hs, k⟩ := h
    refine ⟨_, pss_one (ps_ret (pe_tup (pa_cons (pe_callB call_len_seq (by rfl) T.z_len bt_len (pa_cons (pv 0) pa_nil)) (pa_cons (pv 0) pa_nil)))), ?_⟩
    exact ⟨_, rfl, a, xs, rfl, .inr hs, _, rfl, by show 2 ≤ sizeLine; decide, k⟩
/-- def is_whole(thing, low, high) -/
def spIsWhole : Sp := fun vs H Q _ => (∃ i lo hi : Int, vs = [.int i, .int lo, .int hi] ∧ Q (.bl (decide (lo ≤ i) && decide (i ≤ hi))) H) ∨ ∃ (z : Str) (lo hi : Int), vs = [.str z, .int lo, .int hi] ∧ Q (.bl false) H
theorem ok_isWhole (T : Txt P w K mg) : Has P w K mg base CX0 1 (He.fAd K ("is_whole", none)) ["thing", "low", "high"] spIsWhole := by
  obtain ⟨fd, F⟩ := T.d_IsWhole
  have sc : FnScope ["thing", "low", "high"] ["thing", "low", "high"] (defScope sIsWhole) := ⟨rfl, rfl, rfl, by decide +kernel, rfl, by decide +kernel, by decide +kernel⟩
  refine ⟨fd, F.ok sc (fun vs H Q E h => ?_) (fun cdv A outer s H vs Q E hr h => ?_), F.bindsN fun _ _ _ _ _ _ us hl => match us, hl with | [_, _, _], _ => rfl, F.kp⟩
  · rcases h with ⟨i, lo, hi, rfl, _⟩ | ⟨z, lo, hi, rfl, _⟩ <;> rfl
  · refine ⟨_, pss_one (ps_ret (pe_and (pe_callB call_isi (by rfl) T.z_isinstance bt_isinstance (pa_cons (pv 0) (pa_cons (pe_bltn (v := .ty "int") (by rfl) T.z_int bt_int rfl) pa_nil)))
      (pe_and (pe_not (pe_callB call_isi (by rfl) T.z_isinstance bt_isinstance (pa_cons (pv 0) (pa_cons (pe_bltn (v := .ty "bool") (by rfl) T.z_bool bt_bool rfl) pa_nil)))) (pe_one (pe_chain op_le op_le (pv 1) (pv 0) (pv 2)))))), ?_⟩
    rcases h with ⟨i, lo, hi, rfl, k⟩ | ⟨z, lo, hi, rfl, k⟩
    · refine ⟨_, rfl, _, _, _, _, true, rfl, .ty _, .base (.int i), by kernel_rfl, true, rfl, ?_⟩
      refine itT ⟨_, rfl, _, _, _, _, false, rfl, .ty _, .base (.int i), by kernel_rfl, false, rfl, true, rfl, itT ?_⟩
      refine ⟨_, rfl, _, rfl, _, _, rfl, rfl, _, rfl, itB (fun h1 => ⟨_, rfl, _, _, rfl, rfl, ?_⟩) fun h1 => ?_⟩
      · have e : (decide (lo ≤ i) && decide (i ≤ hi)) = decide (i ≤ hi) := by rw [h1, Bool.true_and]
        rw [e] at k
        exact k
      · have e : (decide (lo ≤ i) && decide (i ≤ hi)) = false := by rw [h1, Bool.false_and]
        rw [e] at k
        exact k
    · exact ⟨_, rfl, _, _, _, _, false, rfl, .ty _, .base (.str z), by kernel_rfl, false, rfl, itF k⟩
end
end MC
end
section
set_option Elab.async false
set_option linter.all false
set_option maxRecDepth 100000
set_option maxHeartbeats 4000000
/-! The defs, 10: is_name, Call. -/
namespace MC
open PySem PySem.Spec PyProof.Rows L2
abbrev letS : Str := "abcdefghijklmnopqrstuvwxyz"
abbrev figS : Str := "0123456789"
def nameL (l : List Nat) : Bool := decide (1 ≤ l.length) && (decide (l.length ≤ 8) && (decide (l.headD 0 ∈ letS.cps.toList) && l.all fun c => decide (c ∈ (letS ++ figS).cps.toList)))
theorem atI0 {α : Type} (a : α) (l : List α) : atI (a :: l) 0 = some a := by
  unfold atI ixN
  simp
def rInS : R2 := fun x y H Q => ∃ (c : Nat) (z : Str), x = .str ⟨#[c]⟩ ∧ y = .str z ∧ Q (.bl (decide (c ∈ z.cps.toList))) H
def rCatS : R2 := fun x y H Q => ∃ i j, x = .str i ∧ y = .str j ∧ i.length + j.length ≤ sizeLine ∧ Q (.str (i ++ j)) H
def isNameB (z : Str) : Bool := nameL z.cps.toList
section
variable {P : Program} {w : World} {K : PySem.W.Frag} {mg : Str → Option Value} {base : Heap}
def spIsName : Sp := fun vs H Q _ => ∃ z : Str, vs = [.str z] ∧ z.length ≤ 10000 ∧ ∀ H', Same H H' → Q (.bl (isNameB z)) H'
theorem ok_isName (T : Txt P w K mg) : Has P w K mg base CX0 1 (He.fAd K ("is_name", none)) ["thing"] spIsName := by
  obtain ⟨fd, F⟩ := T.d_IsName
  obtain ⟨tl, hL⟩ := T.letters
  obtain ⟨tf, hF⟩ := T.figures
  have sc : FnScope ["thing", "sign"] ["thing"] (defScope sIsName) := ⟨rfl, rfl, rfl, by decide +kernel, rfl, by decide +kernel, by decide +kernel⟩
  refine ⟨fd, F.ok sc (fun vs H Q E h => ?_) (fun cdv A outer s H vs Q E hr h => ?_), F.bindsN fun _ _ _ _ _ _ us hl => match us, hl with | [_], _ => rfl, F.kp⟩
  · obtain ⟨z, rfl, _⟩ := h
    rfl
  · obtain ⟨z, rfl, hzl, k⟩ := h
    refine ⟨_, PSs.nox (pss_cons (ps_if (PW.pt (pw_or (pt_not (pt_val (pe_callB call_isi (by rfl) T.z_isinstance bt_isinstance (pa_cons (pv 0) (pa_cons (pe_bltn (v := .ty "str") (by rfl) T.z_str bt_str rfl) pa_nil)))))
        (pw_or (pt_not (pt_chain op_le op_le pe_int (pe_callB call_len (by rfl) T.z_len bt_len (pa_cons (pv 0) pa_nil)) pe_int))
          (pw_or1 (pt_cmpR op_notIn_sign (pe_ix ix_str (pv 0) pe_int (fun _ _ => rfl)) (pe_glob (v := .str letS) (by rfl) hL ⟨_, rfl⟩) rfl)))))
        (pss_one (ps_ret pe_bl)) pss_nil)
      (pss_one (ps_ret (pe_callB (cr_all (by rfl)) (by rfl) T.z_all bt_all (pa_cons (pe_lc (own := [("sign", 1)]) (te := tOp rInS (tVar 1) (tOp rCatS (tC (.str letS)) (tC (.str figS)))) (by rfl) sc.nd (pi_str (pv 0))
            (by exact blk_ok (N := ["thing", "sign"]) (sc := defScope sIsName) (by decide +kernel)) (fun _ _ _ _ _ => pg_name (i := 1) sc.nd rfl (Or.inl rfl)) (fun _ _ _ _ _ => pts_nil) (fun _ _ _ _ _ => pe_cmpR op_in_sign (pv 1) (pe_op op_add_str (pe_glob (v := .str letS) (by rfl) hL ⟨_, rfl⟩) (pe_glob (v := .str figS) (by rfl) hF ⟨_, rfl⟩)) rfl)) pa_nil))))), ?_⟩
    have hlen : z.length = z.cps.toList.length := rfl
    refine ⟨_, rfl, _, _, _, _, true, rfl, .ty _, .base (.str z), by kernel_rfl, true, rfl, itF ?_⟩
    have no : isNameB z = false → Q (.bl false) H := fun e => by
      have := k H (Same.refl _)
      rw [e] at this
      exact this
    refine ⟨_, rfl, _, _, rfl, ⟨szN (by omega), rfl⟩, _, _, rfl, rfl, _, rfl, itB (fun h1 => ⟨_, _, rfl, rfl, _, rfl, ?_⟩) fun h1 => ⟨_, rfl, itT (itT (no ?_))⟩⟩
    · have h1' := of_decide_eq_true h1
      refine itB (fun h2 => itT (no ?_)) fun h2 => ?_
      · have h2' : ¬ ((z.length : Int) ≤ 8) := fun h => by
          rw [decide_eq_true h] at h2
          cases h2
        unfold isNameB nameL
        rw [decide_eq_false (show ¬ z.cps.toList.length ≤ 8 by rw [← hlen]; omega)]
        simp
      · have h2' : (z.length : Int) ≤ 8 := by
          cases hh : decide ((z.length : Int) ≤ 8) with
          | true => exact of_decide_eq_true hh
          | false => rw [hh] at h2; cases h2
        have n1 : 1 ≤ z.cps.toList.length := by rw [← hlen]; omega
        have n2 : z.cps.toList.length ≤ 8 := by rw [← hlen]; omega
        obtain ⟨c, r, hc⟩ : ∃ c r, z.cps.toList = c :: r := by
          cases hz : z.cps.toList with
          | nil => rw [hz] at n1; exact absurd n1 (by decide)
          | cons c r => exact ⟨c, r, rfl⟩
        have hat : atI z.cps.toList 0 = some c := by rw [hc]; exact atI0 _ _
        refine ⟨_, rfl, z, 0, c, rfl, rfl, szN (by omega), hat, c, letS, rfl, rfl, _, rfl, ?_⟩
        refine itB (fun h3 => no ?_) fun h3 => ?_
        · have h3' : c ∉ letS.cps.toList := fun h => by
            rw [decide_eq_true h] at h3
            cases h3
          unfold isNameB nameL
          rw [hc]
          show (decide _ && (decide _ && (decide (c ∈ letS.cps.toList) && _))) = false
          rw [decide_eq_false h3']
          simp
        · have h3' : c ∈ letS.cps.toList := by
            cases hh : decide (c ∈ letS.cps.toList) with
            | true => exact of_decide_eq_true hh
            | false => rw [hh] at h3; cases h3
          refine ⟨_, rfl, z, rfl, fun D hD => ?_⟩
          have hit : Walk (Its z) z.cps.toList.length (fun _ => True) (fun i H v H' => H' = H ∧ ∃ c, z.cps[i]? = some c ∧ v = .str ⟨#[c]⟩) := walk_str
          refine lc_list z.cps.toList hit (fun _ => true) (fun c => .bl (decide (c ∈ (letS ++ figS).cps.toList))) hD (by omega) (fun _ _ => trivial) ?_ ?_
          · rintro i a x H' H2 ha e ⟨rfl, c', hc', rfl⟩
            have : c' = a := by
              rw [Array.getElem?_toList] at ha
              rw [ha] at hc'
              exact (Option.some.inj hc').symm
            subst this
            exact ⟨Same.refl _, fun R S hR hS => ⟨rfl, yesT ⟨_, rfl, _, _, rfl, rfl, szN (by decide +kernel), _, _, rfl, rfl, hR _ (Same.refl _) rfl⟩⟩⟩
          · intro H1 e hDl
            rw [List.filter_eq_self.mpr fun _ _ => rfl] at hDl
            refine ⟨D, z.cps.toList.map fun c => decide (c ∈ (letS ++ figS).cps.toList), rfl, sqL (by rw [hDl, List.map_map]; rfl), ?_⟩
            have := k H1 e
            have ev : isNameB z = ((z.cps.toList.map fun c => decide (c ∈ (letS ++ figS).cps.toList)).all id) := by
              unfold isNameB nameL
              rw [decide_eq_true n1, decide_eq_true n2, hc]
              show (true && (true && (decide (c ∈ letS.cps.toList) && _))) = _
              rw [decide_eq_true h3', List.all_map, Bool.true_and, Bool.true_and, Bool.true_and]
              rfl
            rw [ev] at this
            exact this
    · have h1' := of_decide_eq_false h1
      unfold isNameB nameL
      rw [decide_eq_false (show ¬ 1 ≤ z.cps.toList.length by rw [← hlen]; omega)]
      rfl
end
end MC
end
section
set_option Elab.async false
set_option linter.all false
set_option maxRecDepth 100000
set_option maxHeartbeats 4000000
/-! Dict comprehensions; what is kept off some addresses. -/
namespace MC
open PySem PySem.Spec PyProof.Rows L2
/-- what lies outside A is kept -/
def Off (A : Addr → Prop) (H H' : Hp) : Prop := ∀ b o, ¬ A b → H b = some o → H' b = some o
theorem Off.refl {A : Addr → Prop} {H : Hp} : Off A H H := fun _ _ _ h => h
theorem Off.trans {A : Addr → Prop} {H H' H'' : Hp} (h : Off A H H') (h' : Off A H' H'') : Off A H H'' := fun b o n q => h' b o n (h b o n q)
theorem Off.same {A : Addr → Prop} {H H' : Hp} (h : Same H H') : Off A H H' := fun b o _ q => h b o q
theorem Off.over {A : Addr → Prop} {HB H H' : Hp} (e : Same HB H) (hn : ∀ b, A b → HB b = none) (h : Off A H H') : Same HB H' := fun b o q => h b o (fun ha => by rw [hn b ha] at q; cases q) (e b o q)
theorem Off.upd {A : Addr → Prop} {H H' : Hp} {a : Addr} {o : HO} (h : Off A H H') (ha : A a) : Off A H (L2.upd H' a o) := fun b u n q => by
  rw [upd_ne (show b ≠ a from fun e => n (by rw [e]; exact ha))]
  exact h b u n q
theorem Off.new {A : Addr → Prop} {H H' : Hp} {a : Addr} {o : HO} (h : Off A H H') (ha : H' a = none) : Off A H (L2.upd H' a o) := fun b u n q => by
  have := h b u n q
  rw [upd_ne (ne_of_none this ha)]
  exact this
theorem Off.mono {A B : Addr → Prop} {H H' : Hp} (h : Off A H H') (hs : ∀ b, A b → B b) : Off B H H' := fun b o n q => h b o (fun ha => n (hs b ha)) q
section
variable {α : Type} {f : α → V} {l : List (Str × α)} {d : Addr} {o : Obj}
theorem dV_get (i : Nat) : (dV f l)[i]? = (l[i]?).map fun c => ((Sum.inr c.1 : Key), f c.2) := by
  show (List.map _ (List.map _ _))[i]? = _
  rw [List.getElem?_map, List.getElem?_map, Option.map_map]
  rfl
theorem dV_len : (dV f l).length = l.length := by
  show (List.map _ (List.map _ _)).length = _
  rw [List.length_map, List.length_map]
theorem dV_keys : ((dV f l).map fun kv => kV kv.1) = (keysL l).map V.str := by
  show (List.map _ (List.map _ (List.map _ _))) = List.map _ (List.map _ _)
  rw [List.map_map, List.map_map, List.map_map]
  rfl
/-- for k, v in d.items() -/
theorem walk_itemsL : Walk (Iti d o (dV f l)) l.length (fun H => H d = some (.frz o (.dK (dV f l)))) (fun i H v H' => ∃ T c, l[i]? = some c ∧ v = .ref T ∧ H T = none ∧ H' = L2.upd H T (.tup [.str c.1, f c.2])) := by
  have w := walk_items (kvs := dV f l) (d := d) (o := o)
  rw [dV_len] at w
  refine w.mono (fun _ h => h) fun i H x H' hi _ y => ?_
  obtain ⟨T, a, b, rfl, hT, rfl, h1, h2⟩ := y
  dsimp only at h1 h2
  rw [dV_get] at h1 h2
  cases hc : l[i]? with
  | none => rw [hc] at h1; cases h1
  | some c =>
    rw [hc] at h1 h2
    cases h1
    cases h2
    exact ⟨T, c, rfl, rfl, hT, rfl⟩
/-- for k in d -/
theorem walk_keysL : Walk (Itk d o (dV f l)) l.length (fun H => H d = some (.frz o (.dK (dV f l)))) (fun i H v H' => H' = H ∧ ∃ c, l[i]? = some c ∧ v = .str c.1) := by
  have w := walk_keys (kvs := dV f l) (d := d) (o := o)
  rw [dV_len] at w
  refine w.mono (fun _ h => h) fun i H x H' hi _ y => ?_
  obtain ⟨e, k, v, h1, rfl⟩ := y
  rw [dV_get] at h1
  cases hc : l[i]? with
  | none => rw [hc] at h1; cases h1
  | some c =>
    rw [hc] at h1
    cases h1
    exact ⟨e, c, rfl, rfl⟩
end
/-- a dict's pairs, in the order of the keys -/
def sortL {α : Type} (d : α) (l : List (Str × α)) : List (Str × α) := (sortS (keysL l)).map fun k => (k, (l.lookup k).getD d)
section
variable {α : Type} {d : α} {l : List (Str × α)}
theorem keysL_sortL : keysL (sortL d l) = sortS (keysL l) := by
  unfold sortL keysL
  rw [List.map_map]
  exact List.map_id _
theorem nodup_sortL (h : (keysL l).Nodup) : (keysL (sortL d l)).Nodup := by
  rw [keysL_sortL]
  exact (sortS_perm _).nodup_iff.mpr h
theorem mem_sortL {k : Str} : k ∈ keysL (sortL d l) ↔ k ∈ keysL l := by
  rw [keysL_sortL]
  exact (sortS_perm _).mem_iff
theorem length_sortL : (sortL d l).length = l.length := by
  unfold sortL
  rw [List.length_map, (sortS_perm _).length_eq]
  exact List.length_map _
theorem lookup_sortL (h : (keysL l).Nodup) (k : Str) : (sortL d l).lookup k = l.lookup k := by
  by_cases hk : k ∈ keysL l
  · obtain ⟨v, hv⟩ := mem_keysL.mp hk
    rw [hv]
    refine lookup_nodup (nodup_sortL h) (List.mem_map.mpr ⟨k, (sortS_perm _).mem_iff.mpr hk, ?_⟩)
    rw [hv]
    rfl
  · rw [lookup_none_iff.mpr hk, lookup_none_iff.mpr (fun z => hk (mem_sortL.mp z))]
theorem mem_lookup {c : Str × α} (hn : (keysL l).Nodup) : c ∈ l ↔ l.lookup c.1 = some c.2 := ⟨fun h => lookup_nodup hn h, fun h => lookup_mem h⟩
theorem sortL_mem (hn : (keysL l).Nodup) {c : Str × α} : c ∈ sortL d l ↔ c ∈ l := by
  rw [mem_lookup (nodup_sortL hn), mem_lookup hn, lookup_sortL hn]
end
/-- over a walk, what is kept by p, its key and its value, which may be made within -/
theorem dc_gen {α β : Type} {J : It} {G : Hp → Prop} {Y : Nat → Hp → V → Hp → Prop} (f : β → V) (xs : List α) (w : Walk J xs.length G Y) {g : TG} {tt : TT} {tk tv : TE} {vs : List Nat} {σ : L2.St} {H1 : Hp} {D : Addr} {Qd : Hp → Prop} (p : α → Bool) (key : α → Str) (Vl : α → β → Hp → Prop) (b0 : β) (hD : H1 D = none) (hn : xs.length ≤ 50000) (hk : (xs.map key).Nodup)
    (hG : ∀ H', Same H1 H' → G H') (hV : ∀ a b H H', Off (· = D) H H' → Vl a b H → Vl a b H')
    (hs : ∀ (i : Nat) (a : α) (x : V) (H' H2 : Hp), xs[i]? = some a → Same H1 H' → (∃ kvs, H' D = some (.dK kvs)) → Y i H' x H2 → Same H' H2 ∧ ∀ (R : V → V → Hp → Prop) (S : Hp → Prop), (∀ H5 b, Same H2 H5 → p a = true → Vl a b H5 → R (.str (key a)) (f b) H5) → (∀ H4, Same H2 H4 → p a = false → S H4) →
      g x (wipe σ vs) H2 fun σ2 H3 => wipe σ2 vs = wipe σ vs ∧ tt σ2 H3 fun c H4 => if c = true then tk σ2 H4 fun y H5 => tv σ2 H5 fun z H6 => R y z H6 else S H4)
    (hd : ∀ H' (val : Str → β), Same H1 H' → H' D = some (.dK (dV f ((xs.filter p).map fun a => (key a, val (key a))))) → (∀ a ∈ xs, p a = true → Vl a (val (key a)) H') → Qd H') :
    ∃ W : Nat → Nat → Hp → Prop, (∃ m, W 0 m (L2.upd H1 D (.dK []))) ∧ ∀ i m H, W i m H →
      (J.stop i H ∧ Qd H) ∨ (J.go i H ∧ ∃ Nx : Hp → Prop, (∀ H', Nx H' → ∃ m', m' < m ∧ W (i + 1) m' H') ∧ ∀ x H', J.yld i H x H' → g x (wipe σ vs) H' fun σ2 H2 => wipe σ2 vs = wipe σ vs ∧ tt σ2 H2 fun b H3 =>
        if b = true then tk σ2 H3 fun y H4 => tv σ2 H4 fun z H5 => ∃ kvs k, y = kV k ∧ H5 D = some (.dK kvs) ∧ kvs.length < sizeLine ∧ Nx (L2.upd H5 D (.dK (putK kvs k z))) else Nx H3) := by
  refine dc_it w (fun i H' => Same H1 H' ∧ ∃ val : Str → β, H' D = some (.dK (dV f (((xs.take i).filter p).map fun a => (key a, val (key a))))) ∧ ∀ a ∈ xs.take i, p a = true → Vl a (val (key a)) H') ⟨Same.new hD, fun _ => b0, upd_same, fun a ha => by simp at ha⟩ (fun i H' _ q => hG H' q.1) ?_ fun H' ⟨e, val, h1, h2⟩ => hd H' val e (by rw [List.take_length] at h1; exact h1) fun a ha => h2 a (by rw [List.take_length]; exact ha)
  rintro i x H' H2 hi ⟨e, val, hDl, hvl⟩ hY
  have hxi : xs[i]? = some xs[i] := List.getElem?_eq_getElem hi
  have htake : xs.take (i + 1) = xs.take i ++ [xs[i]] := by rw [List.take_add_one, hxi] <;> rfl
  obtain ⟨e2, h⟩ := hs i _ x H' H2 hxi e ⟨_, hDl⟩ hY
  have hfresh : ∀ a ∈ xs.take i, key a ≠ key xs[i] := by
    intro a ha hke
    obtain ⟨j, hj, ej⟩ := List.getElem_of_mem ha
    rw [List.length_take] at hj
    rw [List.getElem_take] at ej
    have q : (xs.map key)[j]'(by rw [List.length_map]; omega) = (xs.map key)[i]'(by rw [List.length_map]; exact hi) := by rw [List.getElem_map, List.getElem_map, ej, hke]
    have := (List.getElem_inj hk).mp q
    omega
  have hnk : ∀ val : Str → β, key xs[i] ∉ keysL (((xs.take i).filter p).map fun a => (key a, val (key a))) := fun val hm => by
    unfold keysL at hm
    rw [List.map_map] at hm
    obtain ⟨a, ha, ea⟩ := List.mem_map.mp hm
    exact hfresh a (List.mem_filter.mp ha).1 ea
  have hlen : ∀ val : Str → β, (((xs.take i).filter p).map fun a => (key a, val (key a))).length < 100000 := fun val => by
    rw [List.length_map]
    have := List.length_filter_le p (xs.take i)
    rw [List.length_take] at this
    omega
  refine h _ _ (fun H5 b e5 hp hb => ?_) fun H4 e4 hp => ⟨(e.trans e2).trans e4, val, ?_, fun a ha hpa => ?_⟩
  · have hD5 := e5 _ _ (e2 _ _ hDl)
    have oD : Off (· = D) H5 (L2.upd H5 D (.dK (putK (dV f (((xs.take i).filter p).map fun a => (key a, val (key a)))) (.inr (key xs[i])) (f b)))) := Off.refl.upd rfl
    refine ⟨_, .inr (key xs[i]), rfl, hD5, szL ?_, ((e.trans e2).trans e5).turn hD, fun k => if k = key xs[i] then b else val k, ?_, fun a ha hpa => ?_⟩
    · show (List.map _ (List.map _ _)).length ≤ _
      rw [List.length_map, List.length_map]
      have := hlen val
      omega
    · rw [upd_same, putK_dV]
      unfold putL
      rw [if_neg (hnk val), htake, List.filter_append, List.filter_cons, if_pos hp, List.map_append]
      have e1 : ((xs.take i).filter p).map (fun a => (key a, if key a = key xs[i] then b else val (key a))) = ((xs.take i).filter p).map fun a => (key a, val (key a)) := List.map_congr_left fun a ha => by rw [if_neg (hfresh a (List.mem_filter.mp ha).1)]
      have e2 : ([xs[i]].filter p ++ []) = [xs[i]].filter p := List.append_nil _
      simp only [e1]
      simp
    · dsimp only
      rw [htake, List.mem_append, List.mem_singleton] at ha
      rcases ha with ha | rfl
      · rw [if_neg (hfresh a ha)]
        exact hV _ _ _ _ oD (hV _ _ _ _ (Off.same (e2.trans e5)) (hvl a ha hpa))
      · rw [if_pos rfl]
        exact hV _ _ _ _ oD hb
  · rw [e4 _ _ (e2 _ _ hDl), htake, List.filter_append, List.filter_cons, if_neg (by rw [hp]; exact Bool.false_ne_true)]
    simp
  · rw [htake, List.mem_append, List.mem_singleton] at ha
    rcases ha with ha | rfl
    · exact hV _ _ _ _ (Off.same (e2.trans e4)) (hvl a ha hpa)
    · rw [hp] at hpa
      cases hpa
theorem none_back' {H H' : Hp} {q : Addr} (e : Same H H') (h : H' q = none) : H q = none := by
  cases z : H q with
  | none => rfl
  | some o =>
    have := e _ _ z
    rw [h] at this
    cases this
/-- .. each value a new one -/
theorem dc_new {α : Type} {J : It} {G : Hp → Prop} {Y : Nat → Hp → V → Hp → Prop} (xs : List α) (w : Walk J xs.length G Y) {g : TG} {tt : TT} {tk tv : TE} {vs : List Nat} {σ : L2.St} {H1 : Hp} {D : Addr} {Qd : Hp → Prop} (p : α → Bool) (key : α → Str) (Vl : α → Addr → Hp → Prop) (hD : H1 D = none) (hn : xs.length ≤ 50000) (hk : (xs.map key).Nodup)
    (hG : ∀ H', Same H1 H' → G H') (hV : ∀ a b H H', Off (· = D) H H' → Vl a b H → Vl a b H') (hlive : ∀ a b H, Vl a b H → ∃ o, H b = some o)
    (hs : ∀ (i : Nat) (a : α) (x : V) (H' H2 : Hp), xs[i]? = some a → Same H1 H' → (∃ kvs, H' D = some (.dK kvs)) → Y i H' x H2 → Same H' H2 ∧ ∀ (R : V → V → Hp → Prop) (S : Hp → Prop), (∀ H5 b, Same H2 H5 → p a = true → H2 b = none → Vl a b H5 → R (.str (key a)) (.ref b) H5) → (∀ H4, Same H2 H4 → p a = false → S H4) →
      g x (wipe σ vs) H2 fun σ2 H3 => wipe σ2 vs = wipe σ vs ∧ tt σ2 H3 fun c H4 => if c = true then tk σ2 H4 fun y H5 => tv σ2 H5 fun z H6 => R y z H6 else S H4)
    (hd : ∀ H' (val : Str → Addr), Same H1 H' → H' D = some (.dK (dV V.ref ((xs.filter p).map fun a => (key a, val (key a))))) → (∀ a ∈ xs, p a = true → Vl a (val (key a)) H') → (∀ a ∈ xs, ∀ a' ∈ xs, p a = true → p a' = true → val (key a) = val (key a') → key a = key a') → (∀ a ∈ xs, p a = true → H1 (val (key a)) = none) → Qd H') :
    ∃ W : Nat → Nat → Hp → Prop, (∃ m, W 0 m (L2.upd H1 D (.dK []))) ∧ ∀ i m H, W i m H →
      (J.stop i H ∧ Qd H) ∨ (J.go i H ∧ ∃ Nx : Hp → Prop, (∀ H', Nx H' → ∃ m', m' < m ∧ W (i + 1) m' H') ∧ ∀ x H', J.yld i H x H' → g x (wipe σ vs) H' fun σ2 H2 => wipe σ2 vs = wipe σ vs ∧ tt σ2 H2 fun b H3 =>
        if b = true then tk σ2 H3 fun y H4 => tv σ2 H4 fun z H5 => ∃ kvs k, y = kV k ∧ H5 D = some (.dK kvs) ∧ kvs.length < sizeLine ∧ Nx (L2.upd H5 D (.dK (putK kvs k z))) else Nx H3) := by
  refine dc_it w (fun i H' => Same H1 H' ∧ ∃ val : Str → Addr, H' D = some (.dK (dV V.ref (((xs.take i).filter p).map fun a => (key a, val (key a))))) ∧ (∀ a ∈ xs.take i, p a = true → Vl a (val (key a)) H') ∧ (∀ a ∈ xs.take i, ∀ a' ∈ xs.take i, p a = true → p a' = true → val (key a) = val (key a') → key a = key a') ∧ ∀ a ∈ xs.take i, p a = true → H1 (val (key a)) = none) ⟨Same.new hD, fun _ => 0, upd_same, fun a ha => by simp at ha, fun a ha => by simp at ha, fun a ha => by simp at ha⟩ (fun i H' _ q => hG H' q.1) ?_ fun H' ⟨e, val, h1, h2, h3, h4⟩ => hd H' val e (by rw [List.take_length] at h1; exact h1) (fun a ha => h2 a (by rw [List.take_length]; exact ha)) (by rw [List.take_length] at h3; exact h3) (by rw [List.take_length] at h4; exact h4)
  rintro i x H' H2 hi ⟨e, val, hDl, hvl, hij, hfr⟩ hY
  have hxi : xs[i]? = some xs[i] := List.getElem?_eq_getElem hi
  have htake : xs.take (i + 1) = xs.take i ++ [xs[i]] := by rw [List.take_add_one, hxi] <;> rfl
  obtain ⟨e2, h⟩ := hs i _ x H' H2 hxi e ⟨_, hDl⟩ hY
  have hfresh : ∀ a ∈ xs.take i, key a ≠ key xs[i] := by
    intro a ha hke
    obtain ⟨j, hj, ej⟩ := List.getElem_of_mem ha
    rw [List.length_take] at hj
    rw [List.getElem_take] at ej
    have q : (xs.map key)[j]'(by rw [List.length_map]; omega) = (xs.map key)[i]'(by rw [List.length_map]; exact hi) := by rw [List.getElem_map, List.getElem_map, ej, hke]
    have := (List.getElem_inj hk).mp q
    omega
  have hnk : ∀ val : Str → Addr, key xs[i] ∉ keysL (((xs.take i).filter p).map fun a => (key a, val (key a))) := fun val hm => by
    unfold keysL at hm
    rw [List.map_map] at hm
    obtain ⟨a, ha, ea⟩ := List.mem_map.mp hm
    exact hfresh a (List.mem_filter.mp ha).1 ea
  have hlen : ∀ val : Str → Addr, (((xs.take i).filter p).map fun a => (key a, val (key a))).length < 100000 := fun val => by
    rw [List.length_map]
    have := List.length_filter_le p (xs.take i)
    rw [List.length_take] at this
    omega
  refine h _ _ (fun H5 b e5 hp hb0 hb => ?_) fun H4 e4 hp => ⟨(e.trans e2).trans e4, val, ?_, fun a ha hpa => ?_, fun a ha a' ha' hpa hpa' => ?_, fun a ha hpa => ?_⟩
  · have hD5 := e5 _ _ (e2 _ _ hDl)
    have oD : Off (· = D) H5 (L2.upd H5 D (.dK (putK (dV V.ref (((xs.take i).filter p).map fun a => (key a, val (key a)))) (.inr (key xs[i])) (.ref b)))) := Off.refl.upd rfl
    refine ⟨_, .inr (key xs[i]), rfl, hD5, szL ?_, ((e.trans e2).trans e5).turn hD, fun k => if k = key xs[i] then b else val k, ?_, fun a ha hpa => ?_, ?_, fun a ha hpa => ?_⟩
    · show (List.map _ (List.map _ _)).length ≤ _
      rw [List.length_map, List.length_map]
      have := hlen val
      omega
    · rw [upd_same, putK_dV]
      unfold putL
      rw [if_neg (hnk val), htake, List.filter_append, List.filter_cons, if_pos hp, List.map_append]
      have e1 : ((xs.take i).filter p).map (fun a => (key a, if key a = key xs[i] then b else val (key a))) = ((xs.take i).filter p).map fun a => (key a, val (key a)) := List.map_congr_left fun a ha => by rw [if_neg (hfresh a (List.mem_filter.mp ha).1)]
      have e2 : ([xs[i]].filter p ++ []) = [xs[i]].filter p := List.append_nil _
      simp only [e1]
      simp
    · dsimp only
      rw [htake, List.mem_append, List.mem_singleton] at ha
      rcases ha with ha | rfl
      · rw [if_neg (hfresh a ha)]
        exact hV _ _ _ _ oD (hV _ _ _ _ (Off.same (e2.trans e5)) (hvl a ha hpa))
      · rw [if_pos rfl]
        exact hV _ _ _ _ oD hb
    · have hold : ∀ a ∈ xs.take i, p a = true → val (key a) ≠ b := fun a ha hpa z => by
        obtain ⟨o, ho⟩ := hlive _ _ _ (hvl a ha hpa)
        have := e2 _ _ ho
        rw [z, hb0] at this
        cases this
      intro a ha a' ha' hpa hpa' hv
      dsimp only at hv
      rw [htake, List.mem_append, List.mem_singleton] at ha ha'
      rcases ha with ha | rfl <;> rcases ha' with ha' | rfl
      · rw [if_neg (hfresh a ha), if_neg (hfresh a' ha')] at hv
        exact hij a ha a' ha' hpa hpa' hv
      · rw [if_neg (hfresh a ha), if_pos rfl] at hv
        exact absurd hv (hold a ha hpa)
      · rw [if_neg (hfresh a' ha'), if_pos rfl] at hv
        exact absurd hv.symm (hold a' ha' hpa')
      · rfl
    · dsimp only
      rw [htake, List.mem_append, List.mem_singleton] at ha
      rcases ha with ha | rfl
      · rw [if_neg (hfresh a ha)]
        exact hfr a ha hpa
      · rw [if_pos rfl]
        exact none_back' (e.trans e2) hb0
  · rw [e4 _ _ (e2 _ _ hDl), htake, List.filter_append, List.filter_cons, if_neg (by rw [hp]; exact Bool.false_ne_true)]
    simp
  · rw [htake, List.mem_append, List.mem_singleton] at ha
    rcases ha with ha | rfl
    · exact hV _ _ _ _ (Off.same (e2.trans e4)) (hvl a ha hpa)
    · rw [hp] at hpa
      cases hpa
  · rw [htake, List.mem_append, List.mem_singleton] at ha ha'
    rcases ha with ha | rfl
    · rcases ha' with ha' | rfl
      · exact hij a ha a' ha' hpa hpa'
      · rw [hp] at hpa'
        cases hpa'
    · rw [hp] at hpa
      cases hpa
  · rw [htake, List.mem_append, List.mem_singleton] at ha
    rcases ha with ha | rfl
    · exact hfr a ha hpa
    · rw [hp] at hpa
      cases hpa
/-- values that are there already -/
theorem dc_list {α β : Type} {J : It} {G : Hp → Prop} {Y : Nat → Hp → V → Hp → Prop} (f : β → V) (xs : List α) (w : Walk J xs.length G Y) {g : TG} {tt : TT} {tk tv : TE} {vs : List Nat} {σ : L2.St} {H1 : Hp} {D : Addr} {Qd : Hp → Prop} (p : α → Bool) (key : α → Str) (vl : α → β) (hD : H1 D = none) (hn : xs.length ≤ 50000) (hk : (xs.map key).Nodup)
    (hG : ∀ H', Same H1 H' → G H')
    (hs : ∀ (i : Nat) (a : α) (x : V) (H' H2 : Hp), xs[i]? = some a → Same H1 H' → (∃ kvs, H' D = some (.dK kvs)) → Y i H' x H2 → Same H' H2 ∧ ∀ (R : V → V → Hp → Prop) (S : Hp → Prop), (∀ H5, Same H2 H5 → p a = true → R (.str (key a)) (f (vl a)) H5) → (∀ H4, Same H2 H4 → p a = false → S H4) →
      g x (wipe σ vs) H2 fun σ2 H3 => wipe σ2 vs = wipe σ vs ∧ tt σ2 H3 fun c H4 => if c = true then tk σ2 H4 fun y H5 => tv σ2 H5 fun z H6 => R y z H6 else S H4)
    (hd : ∀ H', Same H1 H' → H' D = some (.dK (dV f ((xs.filter p).map fun a => (key a, vl a)))) → Qd H') :
    ∃ W : Nat → Nat → Hp → Prop, (∃ m, W 0 m (L2.upd H1 D (.dK []))) ∧ ∀ i m H, W i m H →
      (J.stop i H ∧ Qd H) ∨ (J.go i H ∧ ∃ Nx : Hp → Prop, (∀ H', Nx H' → ∃ m', m' < m ∧ W (i + 1) m' H') ∧ ∀ x H', J.yld i H x H' → g x (wipe σ vs) H' fun σ2 H2 => wipe σ2 vs = wipe σ vs ∧ tt σ2 H2 fun b H3 =>
        if b = true then tk σ2 H3 fun y H4 => tv σ2 H4 fun z H5 => ∃ kvs k, y = kV k ∧ H5 D = some (.dK kvs) ∧ kvs.length < sizeLine ∧ Nx (L2.upd H5 D (.dK (putK kvs k z))) else Nx H3) := by
  by_cases hx : xs = []
  · subst hx
    refine dc_it w (fun i H' => Same H1 H' ∧ H' D = some (.dK [])) ⟨Same.new hD, upd_same⟩ (fun i H' _ q => hG H' q.1) (fun i x H' H2 hi => absurd hi (Nat.not_lt_zero _)) fun H' ⟨e, h1⟩ => hd H' e h1
  · obtain ⟨a0, r, rfl⟩ : ∃ a r, xs = a :: r := by
      cases xs with
      | nil => exact absurd rfl hx
      | cons a r => exact ⟨a, r, rfl⟩
    refine dc_gen f (a0 :: r) w p key (fun a b _ => b = vl a) (vl a0) hD hn hk hG (fun _ _ _ _ _ h => h) (fun i a x H' H2 h1 h2 h3 h4 => ?_) fun H' val e h1 h2 => hd H' e ?_
    · obtain ⟨e, h⟩ := hs i a x H' H2 h1 h2 h3 h4
      exact ⟨e, fun R S hR hS => h R S (fun H5 e5 hp => hR H5 _ e5 hp rfl) hS⟩
    · rw [h1]
      congr 3
      refine List.map_congr_left fun a ha => ?_
      obtain ⟨ha, hp⟩ := List.mem_filter.mp ha
      rw [h2 a ha hp]
end MC
end
section
set_option Elab.async false
set_option linter.all false
set_option maxRecDepth 100000
set_option maxHeartbeats 4000000
/-! The defs, 11: Call and Scene. -/
namespace MC
open PySem PySem.Spec PyProof.Rows L2
section
variable {P : Program} {w : World} {K : PySem.W.Frag} {mg : Str → Option Value} {base : Heap}
def spCallInit (K : PySem.W.Frag) : Sp := fun vs H Q _ => ∃ (x dx hb : Addr) (n : Int) (xs : List Str), vs = [.ref x, .int n, .ref hb] ∧ H x = some (.ins (He.ga K "Call") dx []) ∧ SqT K H hb (xs.map V.str) ∧ xs.length ≤ 10000 ∧
  ∀ H' hq, Off (· = x) H H' → H' x = some (.ins (He.ga K "Call") dx [("worth", .int n), ("heard", .ref hq)]) → H' hq = some (.tup ((sortS xs).map V.str)) → Q .non H'
theorem ok_callInit (T : Txt P w K mg) : Has P w K mg base CX0 1 (He.fAd K ("Call", some "__init__")) ["self", "worth", "heard"] (spCallInit K) := by
  obtain ⟨fd, F⟩ := T.d_CallInit
  have sc : FnScope ["self", "worth", "heard"] ["self", "worth", "heard"] (defScope sCallInit) := ⟨rfl, rfl, rfl, by decide +kernel, rfl, by decide +kernel, by decide +kernel⟩
  refine ⟨fd, F.ok sc (fun vs H Q E h => ?_) (fun cdv A outer s H vs Q E hr h => ?_), F.bindsN fun _ _ _ _ _ _ us hl => match us, hl with | [_, _, _], _ => rfl, F.kp⟩
  · obtain ⟨x, dx, hb, n, xs, rfl, _⟩ := h
    rfl
  · obtain ⟨x, dx, hb, n, xs, rfl, hx, hxs, hl, k⟩ := h
    refine ⟨_, PSs.nox (pss_cons (ps_fld (pv 0) (pv 1) rfl) (pss_one (ps_fld (pv 0) (pe_callTy call_tuple_of (by rfl) T.z_tuple bt_tuple (pa_cons (pe_callB (cr_sortedStr (by rfl) (by exact hr.units)) (by rfl) T.z_sorted bt_sorted (pa_cons (pv 2) pa_nil)) pa_nil)) rfl))), ?_⟩
    refine ⟨_, rfl, _, rfl, x, _, dx, _, rfl, hx, T.c_Call, T.a_Call_worth, (by show 0 < 1000; decide), ?_⟩
    have e0 : Off (· = x) H (upd H x (.ins (He.ga K "Call") dx (putF "worth" (.int n) []))) := Off.refl.upd rfl
    have hnx : ∀ {ys : List V}, SqT K H hb ys → SqT K (upd H x (.ins (He.ga K "Call") dx (putF "worth" (.int n) []))) hb ys := fun h => by
      rcases h with (q | q) | q
      · exact .inl (.inl (by rw [upd_ne (fun e => by rw [e, hx] at q; cases q)]; exact q))
      · obtain ⟨o, q⟩ := q
        exact .inl (.inr ⟨o, by rw [upd_ne (fun e => by rw [e, hx] at q; cases q)]; exact q⟩)
      · exact .inr q
    refine ⟨_, rfl, hb, xs, rfl, .inr (.inl (hnx hxs)), by omega, fun q hq => ⟨q, _, rfl, .inl ⟨sqL upd_same, fun t ht => ⟨_, rfl, ?_⟩⟩⟩⟩
    have nq : x ≠ q := fun e => by rw [← e, upd_same] at hq; cases hq
    have nt : x ≠ t := fun e => by rw [← e, upd_ne nq, upd_same] at ht; cases ht
    refine ⟨x, _, dx, _, rfl, by rw [upd_ne nt, upd_ne nq, upd_same], T.c_Call, T.a_Call_heard, (by show 1 < 1000; decide), ?_⟩
    exact k _ t (((e0.new hq).new ht).upd rfl) upd_same (by rw [upd_ne nt.symm]; exact upd_same)
end
end MC
end
section
set_option Elab.async false
set_option linter.all false
set_option maxRecDepth 100000
set_option maxHeartbeats 4000000
/-! The defs, 2: the map's methods. -/
namespace MC
open PySem PySem.Spec PyProof.Rows L2
section
variable {P : Program} {w : World} {K : PySem.W.Frag} {mg : Str → Option Value} {base : Heap}
/-- def up_masts(self, zone, down): return tuple([mast for mast in self.heard[zone] if mast not in down]) -/
def spUpMasts (K : PySem.W.Frag) : Sp := fun vs H Q _ => ∃ (pl dn : Addr) (z : Str) (p : Plan) (down : List Str), vs = [.ref pl, .str z, .ref dn] ∧ PlanRd K H pl p ∧ p.Ok ∧ z ∈ p.zones ∧ SqT K H dn (down.map V.str) ∧ down.length ≤ 1000 ∧
  ∀ H' q, Same H H' → H' q = some (.tup ((p.up down z).map V.str)) → Q (.ref q) H'
theorem ok_upMasts (T : Txt P w K mg) : Has P w K mg base CX0 1 (He.fAd K ("Map", some "up_masts")) ["self", "zone", "down"] (spUpMasts K) := by
  obtain ⟨fd, F⟩ := T.d_MapUpMasts
  have sc : FnScope ["self", "zone", "down", "mast"] ["self", "zone", "down"] (defScope sMapUpMasts) := ⟨rfl, rfl, rfl, by decide +kernel, rfl, by decide +kernel, by decide +kernel⟩
  refine ⟨fd, F.ok sc (fun vs H Q E h => ?_) (fun cdv A outer s H vs Q E hr h => ?_), F.bindsN fun _ _ _ _ _ _ us hl => match us, hl with | [_, _, _], _ => rfl, F.kp⟩
  · obtain ⟨pl, dn, z, p, down, rfl, _⟩ := h
    rfl
  · obtain ⟨pl, dn, z, p, down, rfl, hp, ok, hz, hd, hdl, k⟩ := h
    refine ⟨_, pss_one (ps_ret (pe_callTy call_tuple_of (by rfl) T.z_tuple bt_tuple (pa_cons (pe_lc (own := [("mast", 3)]) (tt := tTest (tOp (rIn K true) (tVar 3) (tVar 2))) (by rfl) sc.nd (pi_tup (pe_dget (by exact hr.u1) (pe_fld (pv 0) rfl) (pv 1) (fun _ _ => rfl)))
      (by exact blk_ok (N := ["self", "zone", "down", "mast"]) (sc := defScope sMapUpMasts) (by decide +kernel)) (fun _ _ _ _ _ => pg_name (i := 3) sc.nd rfl (Or.inl rfl)) (fun _ _ _ _ _ => pts_one (pt_cmpR op_notIn_seq (pv 3) (pv 2) rfl)) (fun _ _ _ _ _ => pv 3)) pa_nil))), ?_⟩
    obtain ⟨dx, ca, ha, ra, β, ρ, h1, h2, h3, h4, h5, h6⟩ := hp
    obtain ⟨hs, hhs⟩ := lookup_some hz
    have hmem := lookup_mem hhs
    have hb : H (β z) = some (.tup (hs.map V.str)) := h5 _ hmem
    have hup : p.up down z = hs.filter fun m => decide (m ∉ down) := by
      unfold Plan.up Plan.hears
      rw [hhs]
      rfl
    have hget : DGet H ha (.str z) (some (.ref (β z))) := .inl ⟨_, .inr z, h3, rfl, by
      rw [valV_dS, lookup_map p.heard (fun k _ => .ref (β k)), hhs]
      rfl⟩
    refine ⟨_, rfl, pl, _, dx, _, _, rfl, h1, T.c_Map, T.a_Map_heard, rfl, _, rfl, ha, _, rfl, hget, β z, rfl, ⟨_, sqT hb⟩, fun D hD => ?_⟩
    refine lc_list hs walk_tupM (fun m => decide (m ∉ down)) V.str hD (Nat.le_trans (ok.hlen _ hmem) (by decide)) (fun H' e => sqT (e _ _ hb)) ?_ ?_
    · intro i a x H' H2 ha e y
      obtain ⟨rfl, rfl⟩ := yat_map ha y
      refine ⟨Same.refl _, fun R S hR hS => ⟨rfl, _, rfl, _, rfl, dn, down.map V.str, rfl, .inr (e.seqT hd), rfl, flat_strs down, _, rfl, ?_⟩⟩
      have ev : (!inV (.str a) (down.map V.str)) = decide (a ∉ down) := by rw [inV_strs, decide_not]
      show if (if true = true then !inV (.str a) (down.map V.str) else inV (.str a) (down.map V.str)) = true then _ else _
      rw [if_pos rfl, ev]
      exact itB (fun hc => ⟨_, rfl, hR _ (Same.refl _) hc⟩) fun hc => hS _ (Same.refl _) hc
    · intro H1 e hDl
      refine ⟨D, _, rfl, .inl ⟨sqL hDl, fun q hq => k _ q (e.upd hq) ?_⟩⟩
      rw [upd_same, hup]
end
end MC
end
section
set_option Elab.async false
set_option linter.all false
set_option maxRecDepth 100000
set_option maxHeartbeats 4000000
/-! The defs, 3: the map's room and next_zones. -/
namespace MC
open PySem PySem.Spec PyProof.Rows L2
section
variable {P : Program} {w : World} {K : PySem.W.Frag} {mg : Str → Option Value} {base : Heap}
/-- def room(self, masts): return sum([self.channels[mast] for mast in masts]) -/
def spRoom (K : PySem.W.Frag) : Sp := fun vs H Q _ => ∃ (pl mm : Addr) (p : Plan) (M : List Str), vs = [.ref pl, .ref mm] ∧ PlanRd K H pl p ∧ SqT K H mm (M.map V.str) ∧ (∀ m ∈ M, m ∈ p.masts) ∧ M.length ≤ 1000 ∧
  ∀ H', Same H H' → Q (.int (p.room M)) H'
theorem ok_room (T : Txt P w K mg) : Has P w K mg base CX0 1 (He.fAd K ("Map", some "room")) ["self", "masts"] (spRoom K) := by
  obtain ⟨fd, F⟩ := T.d_MapRoom
  have sc : FnScope ["self", "masts", "mast"] ["self", "masts"] (defScope sMapRoom) := ⟨rfl, rfl, rfl, by decide +kernel, rfl, by decide +kernel, by decide +kernel⟩
  refine ⟨fd, F.ok sc (fun vs H Q E h => ?_) (fun cdv A outer s H vs Q E hr h => ?_), F.bindsN fun _ _ _ _ _ _ us hl => match us, hl with | [_, _], _ => rfl, F.kp⟩
  · obtain ⟨pl, mm, p, M, rfl, _⟩ := h
    rfl
  · obtain ⟨pl, mm, p, M, rfl, hp, hM, hin, hl, k⟩ := h
    refine ⟨_, pss_one (ps_ret (pe_callB (cr_sum (by rfl)) (by rfl) T.z_sum bt_sum (pa_cons (pe_lc (own := [("mast", 2)]) (te := tDGet (tFld K (tVar 0) "channels") (tVar 2)) (by rfl) sc.nd (pi_tup (pv 1))
      (by exact blk_ok (N := ["self", "masts", "mast"]) (sc := defScope sMapRoom) (by decide +kernel)) (fun _ _ _ _ _ => pg_name (i := 2) sc.nd rfl (Or.inl rfl)) (fun _ _ _ _ _ => pts_nil) (fun _ _ _ _ _ => pe_dget (by exact hr.u1) (pe_fld (pv 0) rfl) (pv 2) (fun _ _ => rfl))) pa_nil))), ?_⟩
    obtain ⟨dx, ca, ha, ra, β, ρ, h1, h2, h3, h4, h5, h6⟩ := hp
    refine ⟨_, rfl, mm, rfl, ⟨_, hM⟩, fun D hD => ?_⟩
    refine lc_list M walk_tupM (fun _ => true) (fun m => .int (p.chanOf m)) hD (by omega) (fun H' e => e.seqT hM) ?_ ?_
    · intro i a x H' H2 ha' e y
      obtain ⟨rfl, rfl⟩ := yat_map ha' y
      obtain ⟨n, hn⟩ := lookup_some (hin a (List.mem_of_getElem? ha'))
      have hget : DGet H2 ca (.str a) (some (.int n)) := .inl ⟨_, .inr a, e.rd h2, rfl, by
        rw [valV_dS, lookup_map p.chan (fun _ c => .int c), hn]
        rfl⟩
      refine ⟨Same.refl _, fun R S hR hS => ⟨rfl, ?_⟩⟩
      refine yesT (itT ⟨_, rfl, pl, _, dx, _, _, rfl, e _ _ h1, T.c_Map, T.a_Map_channels, rfl, _, rfl, ca, _, rfl, hget, ?_⟩)
      have q := hR H2 (Same.refl H2) rfl
      have en : p.chanOf a = n := by
        unfold Plan.chanOf
        rw [hn]
        rfl
      rw [en] at q
      exact q
    · intro H1 e hDl
      rw [List.filter_eq_self.mpr fun _ _ => rfl] at hDl
      refine ⟨D, M.map p.chanOf, rfl, sqL (by rw [hDl, List.map_map]; rfl), k _ e⟩
/-- def next_zones(self, zone): return [other for one, other in self.roads if one == zone] -/
def spNext (K : PySem.W.Frag) : Sp := fun vs H Q _ => ∃ (pl : Addr) (z : Str) (p : Plan), vs = [.ref pl, .str z] ∧ PlanRd K H pl p ∧ p.Ok ∧ ∀ H' q, Same H H' → H q = none → H' q = some (.lst ((p.next z).map V.str)) → Q (.ref q) H'
theorem ok_next (T : Txt P w K mg) : Has P w K mg base CX0 1 (He.fAd K ("Map", some "next_zones")) ["self", "zone"] (spNext K) := by
  obtain ⟨fd, F⟩ := T.d_MapNextZones
  have sc : FnScope ["self", "zone", "one", "other"] ["self", "zone"] (defScope sMapNextZones) := ⟨rfl, rfl, rfl, by decide +kernel, rfl, by decide +kernel, by decide +kernel⟩
  refine ⟨fd, F.ok sc (fun vs H Q E h => ?_) (fun cdv A outer s H vs Q E hr h => ?_), F.bindsN fun _ _ _ _ _ _ us hl => match us, hl with | [_, _], _ => rfl, F.kp⟩
  · obtain ⟨pl, z, p, rfl, _⟩ := h
    rfl
  · obtain ⟨pl, z, p, rfl, hp, ok, k⟩ := h
    refine ⟨_, pss_one (ps_ret (pe_lc (own := [("one", 2), ("other", 3)]) (g := gTup K 2 (gCons (gName 2) (gCons (gName 3) gNil))) (by rfl) sc.nd (pi_tup (pe_fld (pv 0) rfl))
      (by exact blk_ok (N := ["self", "zone", "one", "other"]) (sc := defScope sMapNextZones) (by decide +kernel)) (fun _ _ _ _ _ => pg_tup (by rfl) (pgs_cons (pg_name (i := 2) sc.nd rfl (Or.inl rfl)) (pgs_cons (pg_name (i := 3) sc.nd rfl (Or.inl rfl)) pgs_nil)))
      (fun _ _ _ _ _ => pts_one (pt_cmpR op_eq (pv 2) (pv 1) (nomark _))) (fun _ _ _ _ _ => pv 3))), ?_⟩
    obtain ⟨dx, ca, ha, ra, β, ρ, h1, h2, h3, h4, h5, h6⟩ := hp
    refine ⟨_, rfl, pl, _, dx, _, _, rfl, h1, T.c_Map, T.a_Map_roads, rfl, ra, rfl, ⟨_, sqT h4⟩, fun D hD => ?_⟩
    refine lc_list p.roads walk_tupM (fun r => decide (r.1 = z)) (fun r => .str r.2) hD (Nat.le_trans ok.rsz (by decide)) (fun H' e => sqT (e _ _ h4)) ?_ ?_
    · intro i a x H' H2 ha' e y
      obtain ⟨rfl, rfl⟩ := yat_map ha' y
      have hr6 := h6 a (List.mem_of_getElem? ha')
      refine ⟨Same.refl _, fun R S hR hS => ⟨ρ a, _, rfl, sqT (e _ _ hr6), rfl, _, _, rfl, _, _, rfl, rfl, rfl, _, rfl, _, rfl, rfl, _, rfl, ?_⟩⟩
      have ed : decide (V.str a.1 = V.str z) = decide (a.1 = z) := by simp
      rw [ed]
      exact itB (fun hc => ⟨_, rfl, hR _ (Same.refl _) hc⟩) fun hc => hS _ (Same.refl _) hc
    · intro H1 e hDl
      refine k _ D e hD ?_
      rw [hDl]
      unfold Plan.next
      rw [List.map_map]
      rfl
end
end MC
end
section
set_option Elab.async false
set_option linter.all false
/-! Plain: which zones a call may come to. -/
namespace MC
open PySem L2
inductive Rch (R : List (Str × Str)) (z : Str) : Str → Prop
  | refl : Rch R z z
  | step {a b : Str} : Rch R z a → (a, b) ∈ R → Rch R z b
theorem Rch.trans {R : List (Str × Str)} {x y z : Str} (h1 : Rch R x y) (h2 : Rch R y z) : Rch R x z := by
  induction h2 with
  | refl => exact h1
  | step _ hm ih => exact .step ih hm
theorem mem_next {p : Plan} {z y : Str} : y ∈ p.next z ↔ (z, y) ∈ p.roads := by
  unfold Plan.next
  rw [List.mem_map]
  constructor
  · rintro ⟨r, hr, rfl⟩
    rw [List.mem_filter, decide_eq_true_eq] at hr
    obtain ⟨h1, h2⟩ := hr
    rw [← h2]
    exact h1
  · intro h
    exact ⟨(z, y), by rw [List.mem_filter]; exact ⟨h, by simp⟩, rfl⟩
theorem Rch.zone {p : Plan} (ok : p.Ok) {z y : Str} (hz : z ∈ p.zones) (h : Rch p.roads z y) : y ∈ p.zones := by
  cases h with
  | refl => exact hz
  | step _ hm => exact (ok.rin _ hm).2
theorem Rch.closed {R : List (Str × Str)} {z : Str} {F : Str → Prop} (h0 : F z) (hc : ∀ a b, F a → (a, b) ∈ R → F b) {y : Str} (h : Rch R z y) : F y := by
  induction h with
  | refl => exact h0
  | step _ hm ih => exact hc _ _ ih hm
theorem nodup_le {l m : List Str} (hn : l.Nodup) (hs : ∀ x ∈ l, x ∈ m) : l.length ≤ m.length := by
  induction l generalizing m with
  | nil => exact Nat.zero_le _
  | cons a l ih =>
    rw [List.nodup_cons] at hn
    have ha := hs a List.mem_cons_self
    obtain ⟨m1, m2, rfl⟩ := List.append_of_mem ha
    have := ih (m := m1 ++ m2) hn.2 fun x hx => by
      have q := hs x (List.mem_cons_of_mem _ hx)
      rw [List.mem_append, List.mem_cons] at q
      rw [List.mem_append]
      rcases q with q | q | q
      · exact .inl q
      · exact absurd (q ▸ hx) hn.1
      · exact .inr q
    rw [List.length_cons, List.length_append, List.length_cons]
    rw [List.length_append] at this
    omega
theorem nodup_snoc {l : List Str} {x : Str} (hn : l.Nodup) (h : x ∉ l) : (l ++ [x]).Nodup := by
  rw [List.nodup_append]
  exact ⟨hn, by simp, fun a ha b hb e => h (by rw [List.mem_singleton] at hb; rw [← hb, ← e]; exact ha)⟩
end MC
end
section
set_option Elab.async false
set_option linter.all false
set_option maxRecDepth 100000
set_option maxHeartbeats 4000000
/-! The defs, 4: the map's reach. -/
namespace MC
open PySem PySem.Spec PyProof.Rows L2
/-- at q lies what reach(z) answers: a dict of the zones that may be come to, each with a tuple of texts -/
def ReachAt (H : Hp) (q : Addr) (p : Plan) (z : Str) : Prop := ∃ (Fs : List Str) (τ : Str → Addr), H q = some (.dK (dS (Fs.map fun y => (y, .ref (τ y))))) ∧ Fs.Nodup ∧ (∀ y, y ∈ Fs ↔ Rch p.roads z y) ∧ ∀ y ∈ Fs, ∃ l : List Str, H (τ y) = some (.tup (l.map V.str))
theorem Fit.of {k : Nat} {X : Cx} {α : Type} [DecidableEq α] [PySem.W.Datum α] (hr : Room k X.A) (h : PySem.W.Datum.depth α ≤ 100) : Fit X α := by
  have := hr.un
  show X.A.units + 1 + _ < _
  omega
/-- the state of the search -/
structure RS (p : Plan) (z : Str) (Fs rest : List Str) : Prop where
  nd : Fs.Nodup
  zin : z ∈ Fs
  rin : ∀ y ∈ rest, y ∈ Fs
  rch : ∀ y ∈ Fs, Rch p.roads z y
  cl : ∀ y ∈ Fs, y ∉ rest → ∀ x ∈ p.next y, x ∈ Fs
/-- the search's loop -/
def RW (pl fo re : Addr) (z : Str) (p : Plan) (H : Hp) (m : Nat) (σ : L2.St) (H' : Hp) : Prop := ∃ (Fs rest : List Str) (τ : Str → Addr) (v4 v5 : Option V), σ = [some (.ref pl), some (.str z), some (.ref fo), some (.ref re), v4, v5] ∧ Same H H' ∧ H' fo = some (.dK (dS (Fs.map fun y => (y, .ref (τ y))))) ∧ H' re = some (.lst (rest.map V.str)) ∧
      (∀ y ∈ Fs, ∃ l : List Str, l.length ≤ Fs.length ∧ H' (τ y) = some (.tup (l.map V.str))) ∧ RS p z Fs rest ∧ m = 2 * (p.zones.length - Fs.length) + rest.length ∧ m ≤ 20
/-- the turns within: the first i of next(one) are met -/
def RV (pl fo re : Addr) (z one : Str) (p : Plan) (H : Hp) (l : Addr) (m i : Nat) (σ : L2.St) (H' : Hp) : Prop := ∃ (Fs rest : List Str) (τ : Str → Addr) (v5 : Option V), σ = [some (.ref pl), some (.str z), some (.ref fo), some (.ref re), some (.str one), v5] ∧ Same H H' ∧ H' l = some (.lst ((p.next one).map V.str)) ∧ H' fo = some (.dK (dS (Fs.map fun y => (y, .ref (τ y))))) ∧ H' re = some (.lst (rest.map V.str)) ∧
      (∀ y ∈ Fs, ∃ l : List Str, l.length ≤ Fs.length ∧ H' (τ y) = some (.tup (l.map V.str))) ∧ RS p z Fs (one :: rest) ∧ one ∈ Fs ∧ (∀ y ∈ (p.next one).take i, y ∈ Fs) ∧ 2 * (p.zones.length - Fs.length) + rest.length < m
section
variable {P : Program} {w : World} {K : PySem.W.Frag} {mg : Str → Option Value} {base : Heap}
def spReach (K : PySem.W.Frag) : Sp := fun vs H Q _ => ∃ (pl : Addr) (z : Str) (p : Plan), vs = [.ref pl, .str z] ∧ PlanRd K H pl p ∧ p.Ok ∧ z ∈ p.zones ∧ ∀ H' q, Same H H' → H q = none → ReachAt H' q p z → Q (.ref q) H'
theorem ok_reach (T : Txt P w K mg) : Has P w K mg base CX0 2 (He.fAd K ("Map", some "reach")) ["self", "zone"] (spReach K) := by
  obtain ⟨fd, F⟩ := T.d_MapReach
  obtain ⟨fdN, GN, bN, kN⟩ := ok_next (base := base) T
  have sc : FnScope ["self", "zone", "found", "rest", "one", "other"] ["self", "zone"] (defScope sMapReach) := ⟨rfl, rfl, rfl, by decide +kernel, rfl, by decide +kernel, by decide +kernel⟩
  refine ⟨fd, F.ok sc (fun vs H Q E h => ?_) (fun cdv A outer s H vs Q E hr h => ?_), F.bindsN fun _ _ _ _ _ _ us hl => match us, hl with | [_, _], _ => rfl, F.kp⟩
  · obtain ⟨pl, z, p, rfl, _⟩ := h
    rfl
  · obtain ⟨pl, z, p, rfl, hp, ok, hz, k⟩ := h
    refine ⟨_, PSs.nox (pss_cons (ps_par (i := 2) (j := 3) (by rfl) sc.nd rfl rfl (by decide) rfl rfl (pa_cons (pe_disp (pps_cons (pv 1) (pe_tup (pa_cons (pv 1) pa_nil)) pps_nil) rfl rfl (by intro z; cases z) (by decide)) (pa_cons (pe_lst (pa_cons (pv 1) pa_nil)) pa_nil)) (by rfl))
      (pss_cons (ps_while PassesOwn.never (pt_cmpR (op_neT (List Str) (by exact Fit.of hr (by decide))) (pv 3) (pe_lst pa_nil) (nomark _))
        (pss_cons (ps_set (i := 4) sc.nd rfl (Or.inl rfl) (pe_bm PySem.F.plainAttrs_list PySem.F.slot_list_pop PySem.F.type_list_pop mt_popAt (pv 3) (pa_cons pe_int pa_nil)))
        (pss_one (ps_for PassesOwn.never rfl (pi_list (pe_meth (pv 0) T.c_Map T.m_Map_next_zones GN hr bN .nil pass0 (pa_cons (pv 4) pa_nil))) (pg_name (i := 5) sc.nd rfl (Or.inl rfl))
          (pss_one (ps_if (pt_cmp (pc_dnotin (by exact hr.u1) (pv 5) (pv 2))) (pss_cons (ps_dput (by exact hr.u1) (pv 2) (pv 5) (pe_tup (StX.pa_star (pe_dget (by exact hr.u1) (pv 2) (pv 4) (fun _ _ => rfl)) (pa_cons (pv 5) pa_nil))) rfl)
            (pss_one (ps_expr (pe_bm PySem.F.plainAttrs_list PySem.F.slot_list_append PySem.F.type_list_append mt_append (pv 3) (pa_cons (pv 5) pa_nil))))) pss_nil))))))
      (pss_one (ps_ret (pv 2))))), ?_⟩
    refine fun fo hfo => ⟨_, rfl, _, rfl, sz1, fun t1 ht1 => ?_⟩
    have nft : fo ≠ t1 := fun e => by rw [← e, upd_same] at ht1; cases ht1
    refine ⟨by rw [upd_ne nft, upd_same], [(.inr z, .ref t1)], rfl, (by show 1 ≤ 15; decide), ?_⟩
    refine ⟨_, rfl, sz1, fun re hre => ⟨_, _, rfl, ?_⟩⟩
    have nfr : fo ≠ re := fun e => by rw [← e, upd_same] at hre; cases hre
    have ntr : t1 ≠ re := fun e => by rw [← e, upd_ne nft.symm, upd_same] at hre; cases hre
    have hre0 : H re = none := by rw [upd_ne nfr.symm, upd_ne ntr.symm, upd_ne nfr.symm] at hre; exact hre
    have ht10 : H t1 = none := by rw [upd_ne nft.symm] at ht1; exact ht1
    have hz20 : 2 * (p.zones.length - [z].length) + [z].length ≤ 20 := by
      have := ok.hsz
      unfold Plan.zones
      rw [List.length_map, List.length_singleton]
      omega
    -- the invariant
    refine ⟨RW pl fo re z p H, ⟨_, [z], [z], fun _ => t1, none, none, rfl, ?_, ?_, ?_, ?_, ?_, rfl, hz20⟩, ?_⟩
    · exact (((Same.new hfo).upd ht1).turn hfo).upd hre
    · rw [upd_ne nfr, upd_same]
      rfl
    · rw [upd_same]
      rfl
    · intro y hy
      exact ⟨[z], Nat.le_refl _, by rw [upd_ne ntr, upd_ne nft.symm, upd_same]; rfl⟩
    · exact ⟨by simp, List.mem_singleton.mpr rfl, fun y hy => hy, fun y hy => by rw [List.mem_singleton.mp hy]; exact .refl, fun y hy hn => absurd hy hn⟩
    · rintro m σ H1 ⟨Fs, rest, τ, v4, v5, rfl, e, hF, hR, ht, rs, rfl, hm20⟩
      refine ⟨_, rfl, Nat.zero_le _, fun em hem => ⟨rest, [], hv_list (sqL (by rw [upd_ne (ne_of_none hR hem)]; exact hR)) (ha_strs _), hv_list (sqL upd_same) ha_nil, _, rfl, ?_⟩⟩
      have e1 : Same H1 (upd H1 em (.lst [])) := Same.new hem
      refine itB (fun hc => ?_) fun hc => ?_
      · -- one more zone
        obtain ⟨one, rest, rfl⟩ : ∃ a r, rest = a :: r := by
          cases rest with
          | nil => simp at hc
          | cons a r => exact ⟨a, r, rfl⟩
        have hR1 := e1 _ _ hR
        have hF1 := e1 _ _ hF
        have nfR : fo ≠ re := nfr
        refine ⟨fun σ' H' => ∃ m', m' < 2 * (p.zones.length - Fs.length) + (one :: rest).length ∧ RW pl fo re z p H m' σ' H', fun σ' H' h => h, ?_⟩
        refine ⟨_, rfl, .inl ⟨rfl, _, sqL hR1⟩, re, _, 0, 0, .str one, rfl, rfl, hR1, by decide, by decide, by rw [List.length_map]; exact seqIx0 _, rfl, ?_⟩
        have hone : one ∈ Fs := rs.rin one List.mem_cons_self
        have e2 : Same H (upd (upd H1 em (.lst [])) re (.lst (rest.map V.str))) := (e.trans e1).turn hre0
        have hp2 := hp.same e2
        obtain ⟨dx, ca, ha, ra, β, ρ, q1, _⟩ := id hp2
        refine ⟨_, rfl, pl, _, _, rfl, q1, rfl, _, rfl, pl, one, p, rfl, hp2, ok, fun H2 l e3 hl hH2 => ⟨l, rfl, ⟨_, sqL hH2⟩, ?_⟩⟩
        have hrl : re ≠ l := fun z => by rw [← z, upd_same] at hl; cases hl
        have hfl : fo ≠ l := fun z => by rw [← z, upd_ne nfr, hF1] at hl; cases hl
        have hl0 : H l = none := e2.free hl
        have hF2 : H2 fo = some (.dK (dS (Fs.map fun y => (y, .ref (τ y))))) := e3 _ _ (by rw [upd_ne nfr]; exact hF1)
        have hR2 : H2 re = some (.lst (rest.map V.str)) := e3 _ _ upd_same
        have tre : ∀ y ∈ Fs, τ y ≠ re := fun y hy => by
          obtain ⟨l, _, hl⟩ := ht y hy
          intro z
          rw [z, hR] at hl
          cases hl
        refine for_it (walk_listM (K := K) (xs := p.next one) (f := V.str)) (fun i σ' H' => RV pl fo re z one p H l (2 * (p.zones.length - Fs.length) + (one :: rest).length) i σ' H') ⟨Fs, rest, τ, v5, rfl, e2.trans e3, hH2, hF2, hR2, fun y hy => ?_, rs, hone, (fun y hy => by simp at hy), by rw [List.length_cons]; omega⟩ (fun i σ' H' _ q => ?_) ?_ ?_
        · obtain ⟨l, h1, h2⟩ := ht y hy
          exact ⟨l, h1, e3 _ _ (by rw [upd_ne (tre y hy)]; exact e1 _ _ h2)⟩
        · obtain ⟨_, _, _, _, _, _, q, _⟩ := q
          exact sqL q
        · rintro i x σ' H' H'' hi ⟨Fs, rest, τ, v5, rfl, e, hl1, hF, hR, ht, rs, hone, hdone, hm⟩ ⟨rfl, hx⟩
          obtain ⟨a, ha⟩ : ∃ a, (p.next one)[i]? = some a := ⟨_, List.getElem?_eq_getElem hi⟩
          obtain rfl : x = .str a := by
            rw [List.getElem?_map, ha] at hx
            exact (Option.some.inj hx).symm
          have hma : a ∈ p.next one := List.mem_of_getElem? ha
          have htk : (p.next one).take (i + 1) = (p.next one).take i ++ [a] := by rw [List.take_add_one, ha] <;> rfl
          refine ⟨_, rfl, _, rfl, fo, _, rfl, .inl ⟨_, .inr a, .inl hF, rfl, rfl⟩, _, rfl, ?_⟩
          have hv : valV (dS (Fs.map fun y => (y, V.ref (τ y)))) (.inr a) = ((Fs.map fun y => (y, V.ref (τ y))).lookup a) := valV_dS _ _
          by_cases hin : a ∈ Fs
          · -- known already
            have hs : (valV (dS (Fs.map fun y => (y, V.ref (τ y)))) (.inr a)).isSome = true := by
              rw [hv]
              obtain ⟨v, hv⟩ := lookup_some (l := Fs.map fun y => (y, V.ref (τ y))) (k := a) (by rw [List.map_map]; exact List.mem_map.mpr ⟨a, hin, rfl⟩)
              rw [hv]
              rfl
            rw [hs]
            refine itF ⟨Fs, rest, τ, _, rfl, e, hl1, hF, hR, ht, rs, hone, fun y hy => ?_, hm⟩
            rw [htk, List.mem_append, List.mem_singleton] at hy
            rcases hy with hy | rfl
            · exact hdone y hy
            · exact hin
          · -- a new zone
            have hnone : valV (dS (Fs.map fun y => (y, V.ref (τ y)))) (.inr a) = none := by
              rw [hv]
              exact lookup_none (by rw [List.map_map]; intro h; obtain ⟨y, hy, e⟩ := List.mem_map.mp h; exact hin (e ▸ hy))
            have hs : (valV (dS (Fs.map fun y => (y, V.ref (τ y)))) (.inr a)).isSome = false := by rw [hnone]; rfl
            rw [hs]
            obtain ⟨l1, hl2, hl3⟩ := ht one hone
            have hgo : DGet H'' fo (.str one) (some (.ref (τ one))) := .inl ⟨_, .inr one, .inl hF, rfl, by
              rw [valV_dS]
              exact (lookup_nodup (l := Fs.map fun y => (y, V.ref (τ y))) (by rw [List.map_map]; exact (List.map_id Fs).symm ▸ rs.nd) (List.mem_map.mpr ⟨one, hone, rfl⟩)).symm⟩
            have hzon : ∀ y ∈ Fs, y ∈ p.zones := fun y hy => (rs.rch y hy).zone ok hz
            have hfl8 : Fs.length ≤ 8 := Nat.le_trans (nodup_le rs.nd hzon) (by have := ok.hsz; unfold Plan.zones; rw [List.length_map]; exact this)
            have haz : a ∈ p.zones := (ok.rin _ (mem_next.mp hma)).2
            have hlt : Fs.length < p.zones.length := by
              have := nodup_le (nodup_snoc rs.nd hin) (m := p.zones) fun y hy => by
                rw [List.mem_append, List.mem_singleton] at hy
                rcases hy with hy | rfl
                · exact hzon y hy
                · exact haz
              rw [List.length_append, List.length_singleton] at this
              exact this
            refine itT ⟨_, rfl, _, rfl, fo, _, rfl, hgo, τ one, l1.map V.str, rfl, .inl (sqT hl3), _, rfl, ?_⟩
            refine ⟨szN (by rw [List.length_append, List.length_map]; show _ + 1 ≤ _; omega), fun tn htn => ⟨_, rfl, _, rfl, fo, _, rfl, .inl ⟨_, .inr a, by rw [upd_ne (ne_of_none hF htn)]; exact hF, rfl, szL (by rw [List.length_map, List.length_map]; omega), rfl⟩, ?_⟩⟩
            rw [putK_new _ hnone]
            have nfo : fo ≠ tn := ne_of_none hF htn
            have nre : re ≠ tn := ne_of_none hR htn
            have hR3 : ∀ o : HO, (upd (upd H'' tn o) fo (.dK (dS (Fs.map fun y => (y, V.ref (τ y))) ++ [(.inr a, .ref tn)]))) re = some (.lst (rest.map V.str)) := fun o => by
              rw [upd_ne nfr.symm, upd_ne nre]
              exact hR
            refine ⟨_, rfl, .inl ⟨rfl, _, sqL (hR3 _)⟩, _, rfl, re, _, _, rfl, rfl, hR3 _, szL (by rw [List.length_map]; omega), ?_⟩
            refine ⟨Fs ++ [a], rest ++ [a], fun y => if y = a then tn else τ y, _, rfl, ?_, ?_, ?_, ?_, ?_, ?_, ?_, ?_, ?_⟩
            · exact ((e.upd htn).turn hfo).turn hre0
            · rw [upd_ne hrl.symm, upd_ne hfl.symm, upd_ne (ne_of_none hl1 htn)]
              exact hl1
            · have hmap : (Fs.map fun y => (y, V.ref (if y = a then tn else τ y))) = Fs.map fun y => (y, V.ref (τ y)) := List.map_congr_left fun y hy => by
                have hne : y ≠ a := fun q => hin (q ▸ hy)
                rw [if_neg hne]
              have hd : dS ((Fs ++ [a]).map fun y => (y, V.ref (if y = a then tn else τ y))) = dS (Fs.map fun y => (y, V.ref (τ y))) ++ [(.inr a, .ref tn)] := by
                unfold dS
                rw [List.map_append, List.map_append, hmap]
                simp
              rw [upd_ne nfr, upd_same]
              exact congrArg (fun z => some (HO.dK z)) hd.symm
            · rw [upd_same, List.map_append]
              rfl
            · intro y hy
              dsimp only
              by_cases hya : y = a
              · rw [if_pos hya]
                refine ⟨l1 ++ [a], by rw [List.length_append, List.length_append]; exact Nat.add_le_add hl2 (Nat.le_refl _), ?_⟩
                rw [upd_ne nre.symm, upd_ne nfo.symm, upd_same, List.map_append]
                rfl
              · rw [if_neg hya]
                have hyF : y ∈ Fs := by
                  rw [List.mem_append, List.mem_singleton] at hy
                  exact hy.resolve_right hya
                obtain ⟨l, h1, h2⟩ := ht y hyF
                refine ⟨l, by rw [List.length_append]; omega, ?_⟩
                have n1 : τ y ≠ re := fun z => by rw [z, hR] at h2; cases h2
                have n2 : τ y ≠ fo := fun z => by rw [z, hF] at h2; cases h2
                rw [upd_ne n1, upd_ne n2, upd_ne (ne_of_none h2 htn)]
                exact h2
            · refine ⟨nodup_snoc rs.nd hin, List.mem_append_left _ rs.zin, fun y hy => ?_, fun y hy => ?_, fun y hy hn x hx => ?_⟩
              · rcases List.mem_cons.mp hy with rfl | hy
                · exact List.mem_append_left _ hone
                · rw [List.mem_append] at hy ⊢
                  exact hy.imp (fun h => rs.rin y (List.mem_cons_of_mem _ h)) id
              · rw [List.mem_append, List.mem_singleton] at hy
                rcases hy with hy | rfl
                · exact rs.rch y hy
                · exact .step (rs.rch one hone) (mem_next.mp hma)
              · rw [List.mem_append, List.mem_singleton] at hy
                rw [List.mem_cons, List.mem_append, List.mem_singleton] at hn
                rcases hy with hy | rfl
                · exact List.mem_append_left _ (rs.cl y hy (fun h => (List.mem_cons.mp h).elim (fun h => hn (.inl h)) fun h => hn (.inr (.inl h))) x hx)
                · exact absurd (.inr (.inr rfl)) hn
            · exact List.mem_append_left _ hone
            · intro y hy
              rw [htk, List.mem_append, List.mem_singleton] at hy
              rw [List.mem_append, List.mem_singleton]
              exact hy.imp (hdone y) id
            · rw [List.length_append, List.length_append, List.length_singleton]
              omega
        · rintro σ' H' ⟨Fs, rest, τ, v5, rfl, e, hl1, hF, hR, ht, rs, hone, hdone, hm⟩
          rw [List.take_length] at hdone
          refine ⟨_, hm, Fs, rest, τ, _, v5, rfl, e, hF, hR, ht, ⟨rs.nd, rs.zin, fun y hy => rs.rin y (List.mem_cons_of_mem _ hy), rs.rch, fun y hy hn x hx => ?_⟩, rfl, by omega⟩
          by_cases hy1 : y = one
          · subst hy1
            exact hdone x hx
          · exact rs.cl y hy (fun h => (List.mem_cons.mp h).elim hy1 hn) x hx
      · -- all is found
        have hr0 : rest = [] := by
          rw [decide_eq_false_iff_not] at hc
          exact Classical.byContradiction fun h => hc h
        subst hr0
        refine ⟨_, rfl, k _ fo (e.trans e1) hfo ⟨Fs, τ, e1 _ _ hF, rs.nd, fun y => ⟨rs.rch y, fun hy => Rch.closed (F := fun y => y ∈ Fs) rs.zin (fun a b ha hab => rs.cl a ha (by simp) b (mem_next.mpr hab)) hy⟩, fun y hy => ?_⟩⟩
        obtain ⟨l, _, hl⟩ := ht y hy
        exact ⟨l, e1 _ _ hl⟩
end
end MC
end
section
set_option Elab.async false
set_option linter.all false
set_option maxRecDepth 100000
set_option maxHeartbeats 4000000
/-! Own rules, dicts with tuple keys: {k: v}, d.update(e), sorted(d.items()). -/
namespace MC
open PySem PySem.Spec PyProof.Rows L2
section
variable {X : Cx} {pins : List (Addr × Obj)} {σ : L2.St} {H : Hp} {s : Shared}
def tDispT (tk tv : TE) : TE := fun σ H Q => ∀ p, H p = none → tk σ (upd H p (.dT [])) fun x H1 => tv σ H1 fun y H2 => ∃ (b : Addr) (k : List Key), x = .ref b ∧ H2 b = some (.tup (k.map kV)) ∧ H2 p = some (.dT []) ∧ Q (.ref p) (upd H2 p (.dT [(k, y)]))
theorem pe_dispT {pos : Pos} {k v : Expr} {tk tv : TE} (hu : X.A.units + 1 < cLine) (hk : PE X k tk) (hv : PE X v tv) : PE X (.Dict [some k] [v] pos) (tDispT tk tv) := by
  refine ⟨fun pins s σ H Q I q => ?_⟩
  have hn := I.hok.fresh (Nat.le_refl s.heap.objs.size)
  have I1 := I.laid (a := s.heap.objs.size) (o := .dT []) (h' := s.heap.push { cls := .type "dict", data := .dict #[] }) (t' := s.toks) (fun _ _ q => Heap.get?_push_of_some _ q) (Nat.le_refl _) (dt_empty s.heap I.big)
  have hshape : (evalEachOpt [some k] X.env).zip ((evalEach [v] X.env).map fun v => do let x ← v; standAt pos; pure x) = [(eval k X.env, do let x ← eval v X.env; standAt pos; pure x)].map fun p => (some p.1, p.2) := rfl
  rw [arm_eval_Dict, hshape, dictDisplay_pairs _ (by intro z; cases z) (by show 1 < 17; decide)]
  refine wpAny_bind (wpAny_standAt (wpAny_bind (wpAny_subDictH (knd := tupleKind (mixKind X.prog X.w)) (show X.A.units < cLine by omega) (by show 1 ≤ 15; decide) ?_)))
  refine evalPairs_cons (thn (hk.run pins _ σ _ _ I1 (q _ hn)) fun u s1 ⟨x, H1, I2, rx, q1⟩ => ?_)
  refine wpAny_bind (thn (hv.run pins s1 σ H1 _ I2 q1) fun w2 s2 ⟨y, H2, I3, ry, b, kk, ex, hb, hp, q2⟩ => wpAny_bind (wpAny_standAt (wpAny_pure ?_)))
  subst ex
  cases rx
  refine evalPairs_nil ?_
  obtain ⟨z, hd, xs0, r0, dd⟩ := dt_of I3.hok hp
  cases r0
  refine ⟨[(kk, b, w2)], ⟨rfl, rfl, key_of I3.hok hb, trivial⟩, dd, fun h' tk dd' hs => wpAny_pure ⟨.ref s.heap.objs.size, _, ?_, rfl, q2⟩⟩
  obtain ⟨o, es, ep, ho, h2, h3, h4, h6, h5⟩ := dd'
  refine d_write I3 (by rw [hp]; exact True.intro) hs ⟨o, ho⟩ ⟨by show 1 ≤ _; rw [sizeLine_eq]; decide, hd, _, (KT.put (H := H2) (kvs := []) (xs := []) .nil kk hb ry).keeps fun c ys ec => ?_, o, es, ep, ho, h2, h3, h4, h5⟩
  rw [upd_ne (ne_of ec hp (fun z => nomatch z))]
  exact ec
/-- the pairs of another dict put in -/
def mergeT (kvs more : List (List Key × V)) : List (List Key × V) := more.foldl (fun acc kv => putK acc kv.1 kv.2) kvs
theorem KT.merge {H : Hp} : ∀ {more : List (List Key × V)} {ys : List (List Key × Addr × Value)} {kvs : List (List Key × V)} {xs : List (List Key × Addr × Value)}, KT H more ys → KT H kvs xs → KT H (mergeT kvs more) (storedAllH xs ys) := by
  intro more ys kvs xs r
  induction r generalizing kvs xs with
  | nil => exact fun q => q
  | @cons p q ps qs h t ih =>
    intro r2
    refine ih ?_
    obtain ⟨h1, h2, h3⟩ := h
    obtain ⟨k, v⟩ := p
    obtain ⟨k', b, u⟩ := q
    simp only at h1 h2 h3
    subst h1
    exact r2.put k h2 h3
theorem mergeT_len : ∀ (more kvs : List (List Key × V)), (mergeT kvs more).length ≤ kvs.length + more.length
  | [], kvs => Nat.le_refl _
  | p :: r, kvs => by
    have h1 := mergeT_len r (putK kvs p.1 p.2)
    have h2 := length_putK kvs p.1 p.2
    show (mergeT (putK kvs p.1 p.2) r).length ≤ _
    rw [List.length_cons]; omega
/-- d.update(e), both with tuple keys -/
def rUpdT : V → List V → Hp → VK → Prop := fun x vs H Q => ∃ (d e : Addr) (kvs more : List (List Key × V)), x = .ref d ∧ vs = [.ref e] ∧ d ≠ e ∧ H d = some (.dT kvs) ∧ H e = some (.dT more) ∧ (kvs ≠ [] ∨ more.length ≤ 1) ∧ kvs.length + more.length ≤ 100000 ∧ Q .non (upd H d (.dT (mergeT kvs more)))
theorem mt_updT (hu : X.A.units + 2 < cLine) : MtM X "dict.update" rUpdT := by
  rintro pins s σ H x vs v us Q I rx rvs ⟨d, e, kvs, more, rfl, rfl, hne, h1, h2, hor, hz, q⟩
  cases rx
  obtain ⟨u, rfl, ru⟩ := rvs.one
  cases ru
  obtain ⟨z1, hd1, xs, r1, dd1⟩ := dt_of I.hok h1
  obtain ⟨z2, hd2, ys, r2, dd2⟩ := dt_of I.hok h2
  have l1 : xs.length = kvs.length := (Paired.length r1).symm
  have l2 : ys.length = more.length := (Paired.length r2).symm
  refine call_update_dictH (knd := tupleKind (mixKind X.prog X.w)) (tupleKind_room_in1 (by omega)) hne hd2 dd1 dd2 ?_ (by rw [sizeLine_eq]; omega) fun h' dd' _ hs => ⟨.non, _, ?_, rfl, q⟩
  · rcases hor with hk | hk
    · exact .inl fun e => hk (by rw [e] at l1; exact List.length_eq_zero_iff.mp l1.symm)
    · refine .inr ⟨fun x hx => ?_, ?_⟩
      · obtain ⟨j, hj, ej⟩ := List.getElem_of_mem hx
        have := r2
        obtain ⟨_, _, _, _, _, _, _, his, _⟩ := dd2
        exact IsTupleKey.typeIs (his x hx)
      · have : (ys.map fun x => (tupleKind (mixKind X.prog X.w)).hash x.1).length ≤ 1 := by rw [List.length_map]; omega
        generalize (ys.map fun x => (tupleKind (mixKind X.prog X.w)).hash x.1) = l at this
        match l, this with
        | [], _ => exact List.nodup_nil
        | [a], _ => simp
        | _ :: _ :: _, h => simp at h
  · obtain ⟨o, es, ep, ho, h2', h3, h4, h6, h5⟩ := dd'
    have hm := mergeT_len more kvs
    refine d_write I (by rw [h1]; exact True.intro) hs ⟨o, ho⟩ ⟨by rw [sizeLine_eq]; omega, hd1, _, (KT.merge r2 r1).keeps fun c ys ec => ?_, o, es, ep, ho, h2', h3, h4, h5⟩
    rw [upd_ne (ne_of ec h1 (fun z => nomatch z))]
    exact ec
end
end MC
end
section
set_option Elab.async false
set_option linter.all false
set_option maxRecDepth 100000
set_option maxHeartbeats 4000000
/-! The defs, 5: lots_of. -/
namespace MC
open PySem PySem.Spec PyProof.Rows L2
/-- an expression that is never evaluated -/
def tDeadE : TE := fun _ _ _ => False
theorem pe_dead {X : Cx} {e : Expr} : PE X e tDeadE := ⟨fun _ _ _ _ _ _ h => h.elim⟩
/-- the lots of at most most (0 or 1) things -/
def lots (things : List Str) (most : Nat) : List (List Str) := [] :: if most = 0 then [] else things.map fun t => [t]
/-- refs to tuples of texts -/
def TupsAt (H : Hp) (bs : List Addr) (ks : List (List Str)) : Prop := bs.length = ks.length ∧ ∀ (i : Nat) (b : Addr) (k : List Str), bs[i]? = some b → ks[i]? = some k → H b = some (.tup (k.map V.str))
theorem TupsAt.same {H H' : Hp} {bs : List Addr} {ks : List (List Str)} (h : TupsAt H bs ks) (e : Same H H') : TupsAt H' bs ks := ⟨h.1, fun i b k h1 h2 => e _ _ (h.2 i b k h1 h2)⟩
theorem TupsAt.nil {H : Hp} : TupsAt H [] [] := ⟨rfl, fun i b k h1 _ => by simp at h1⟩
theorem TupsAt.snoc {H : Hp} {bs : List Addr} {ks : List (List Str)} {b : Addr} {k : List Str} (h : TupsAt H bs ks) (hb : H b = some (.tup (k.map V.str))) : TupsAt H (bs ++ [b]) (ks ++ [k]) := by
  refine ⟨by rw [List.length_append, List.length_append, h.1] <;> rfl, fun i b' k' h1 h2 => ?_⟩
  rw [List.getElem?_append] at h1 h2
  rw [h.1] at h1
  by_cases hi : i < ks.length
  · rw [if_pos hi] at h1 h2
    exact h.2 i b' k' h1 h2
  · rw [if_neg hi] at h1 h2
    cases hj : i - ks.length with
    | zero =>
      rw [hj] at h1 h2
      cases h1
      cases h2
      exact hb
    | succ n =>
      rw [hj] at h1
      simp at h1
theorem TupsAt.append {H : Hp} {bs bs' : List Addr} {ks ks' : List (List Str)} (h : TupsAt H bs ks) (h' : TupsAt H bs' ks') : TupsAt H (bs ++ bs') (ks ++ ks') := by
  refine ⟨by rw [List.length_append, List.length_append, h.1, h'.1], fun i b' k' h1 h2 => ?_⟩
  rw [List.getElem?_append] at h1 h2
  rw [h.1] at h1
  by_cases hi : i < ks.length
  · rw [if_pos hi] at h1 h2
    exact h.2 i b' k' h1 h2
  · rw [if_neg hi] at h1 h2
    exact h'.2 _ b' k' h1 h2
theorem TupsAt.get {H : Hp} {bs : List Addr} {ks : List (List Str)} (h : TupsAt H bs ks) {b : Addr} (hb : b ∈ bs) : ∃ k ∈ ks, H b = some (.tup (k.map V.str)) := by
  obtain ⟨i, hi, e⟩ := List.getElem_of_mem hb
  have hk : i < ks.length := h.1 ▸ hi
  exact ⟨ks[i], List.getElem_mem hk, h.2 i b _ (by rw [List.getElem?_eq_getElem hi, e]) (List.getElem?_eq_getElem hk)⟩
theorem cut0 (xs : List V) : cutV xs (some 0) none = xs := by
  unfold cutV HT.sIx
  simp
section
variable {P : Program} {w : World} {K : PySem.W.Frag} {mg : Str → Option Value} {base : Heap}
def spLotsOf (K : PySem.W.Frag) : Sp := fun vs H Q _ => ∃ (a : Addr) (things : List Str) (most : Nat), vs = [.ref a, .int (most : Int)] ∧ SqL K H a (things.map V.str) ∧ things.length ≤ 100 ∧ most ≤ 1 ∧
  ∀ H' q bs, Same H H' → H q = none → H' q = some (.lst (bs.map V.ref)) → TupsAt H' bs (lots things most) → Q (.ref q) H'
theorem ok_lotsOf (T : Txt P w K mg) : Has P w K mg base CX0 1 (He.fAd K ("lots_of", none)) ["things", "most"] (spLotsOf K) := by
  obtain ⟨fd, F⟩ := T.d_LotsOf
  have sc : FnScope ["things", "most", "found", "last", "turn", "late", "row", "begin", "thing"] ["things", "most"] (defScope sLotsOf) := ⟨rfl, rfl, rfl, by decide +kernel, rfl, by decide +kernel, by decide +kernel⟩
  refine ⟨fd, F.ok sc (fun vs H Q E h => ?_) (fun cdv A outer s H vs Q E hr h => ?_), F.bindsN fun _ _ _ _ _ _ us hl => match us, hl with | [_, _], _ => rfl, F.kp⟩
  · obtain ⟨a, things, most, rfl, _⟩ := h
    rfl
  · obtain ⟨a, things, most, rfl, hs, hl, hm, k⟩ := h
    refine ⟨_, PSs.nox (pss_cons (ps_par (i := 2) (j := 3) (by rfl) sc.nd rfl rfl (by decide) rfl rfl (pa_cons (pe_lst (pa_cons (pe_tup pa_nil) pa_nil)) (pa_cons (pe_lst (pa_cons (pe_tup pa_nil) pa_nil)) pa_nil)) (by rfl))
      (pss_cons (ps_for PassesOwn.never rfl (pi_range1 (by rfl) T.z_range (pa_cons (pv 1) pa_nil)) (pg_name (i := 4) sc.nd rfl (Or.inl rfl))
        (pss_cons (ps_set (i := 5) sc.nd rfl (Or.inl rfl) (pe_lst pa_nil))
        (pss_cons (ps_for PassesOwn.never rfl (pi_list (pv 3)) (pg_name (i := 6) sc.nd rfl (by first | exact Or.inl rfl | exact Or.inr rfl))
          (pss_cons (ps_set (i := 7) sc.nd rfl (Or.inl rfl) (pe_ifExp (pt_cmpR (op_neT (PySem.W.Tup Str) (by exact Fit.of hr (by decide))) (pv 6) (pe_tup pa_nil) (nomark _)) pe_dead pe_int))
          (pss_one (ps_expr (pe_bm PySem.F.plainAttrs_list PySem.F.slot_list_extend PySem.F.type_list_extend mt_extend (pv 5) (pa_cons (pe_lc (own := [("thing", 8)]) (te := tTup (StX.tStar K (tVar 6) (tCons (tVar 8) tNil))) (by rfl) sc.nd (pi_list (pe_slice sl_list (pv 0) (po_some (pv 7)) po_none))
            (by exact blk_ok (N := ["things", "most", "found", "last", "turn", "late", "row", "begin", "thing"]) (sc := defScope sLotsOf) (by decide +kernel)) (fun _ _ _ _ _ => pg_name (i := 8) sc.nd rfl (Or.inl rfl)) (fun _ _ _ _ _ => pts_nil) (fun _ _ _ _ _ => pe_tup (StX.pa_star (pv 6) (pa_cons (pv 8) pa_nil)))) pa_nil))))))
        (pss_cons (ps_expr (pe_bm PySem.F.plainAttrs_list PySem.F.slot_list_extend PySem.F.type_list_extend mt_extend (pv 2) (pa_cons (pv 5) pa_nil)))
        (pss_one (ps_set (i := 3) sc.nd rfl (Or.inl rfl) (pv 5)))))))
      (pss_one (ps_ret (pv 2))))), ?_⟩
    refine ⟨sz0, fun t0 ht0 => ⟨sz1, fun fo hfo => ⟨sz0, fun t1 ht1 => ⟨sz1, fun la hla => ⟨_, _, rfl, ?_⟩⟩⟩⟩⟩
    have e1 : Same H (upd H t0 (.tup [])) := Same.new ht0
    have e2 := e1.upd (o := .lst [.ref t0]) hfo
    have e3 := e2.upd (o := .tup []) ht1
    have e4 := e3.upd (o := .lst [.ref t1]) hla
    have hfo0 : H fo = none := e1.free hfo
    obtain ⟨H0, eH0⟩ : ∃ H0, H0 = upd (upd (upd (upd H t0 (.tup [])) fo (.lst [.ref t0])) t1 (.tup [])) la (.lst [.ref t1]) := ⟨_, rfl⟩
    rw [← eH0] at e4 ⊢
    have f1 : H0 la = some (.lst [.ref t1]) := by rw [eH0]; exact upd_same
    have f2 : H0 t1 = some (.tup []) := by rw [eH0, upd_ne (ne_of_none upd_same hla)]; exact upd_same
    have f3 : H0 fo = some (.lst [.ref t0]) := by
      have q : upd (upd H t0 (.tup [])) fo (.lst [.ref t0]) fo = some (.lst [.ref t0]) := upd_same
      have q2 : upd (upd (upd H t0 (.tup [])) fo (.lst [.ref t0])) t1 (.tup []) fo = some (.lst [.ref t0]) := (by rw [upd_ne (ne_of_none q ht1)]; exact q)
      rw [eH0, upd_ne (ne_of_none q2 hla)]
      exact q2
    have f4 : H0 t0 = some (.tup []) := by
      have q0 : upd H t0 (.tup []) t0 = some (.tup []) := upd_same
      have q : upd (upd H t0 (.tup [])) fo (.lst [.ref t0]) t0 = some (.tup []) := (by rw [upd_ne (ne_of_none q0 hfo)]; exact q0)
      have q2 : upd (upd (upd H t0 (.tup [])) fo (.lst [.ref t0])) t1 (.tup []) t0 = some (.tup []) := (by rw [upd_ne (ne_of_none q ht1)]; exact q)
      rw [eH0, upd_ne (ne_of_none q2 hla)]
      exact q2
    refine ⟨_, rfl, _, rfl, by omega, by omega, ?_⟩
    refine for_it (walk_range (lo := 0) (n := (most : Int).toNat)) (fun i σ H' => (i = 0 ∧ σ = [some (.ref a), some (.int most), some (.ref fo), some (.ref la), none, none, none, none, none] ∧ H' = H0) ∨
      (i = 1 ∧ ∃ (v3 v4 v5 v6 v7 : Option V) (bs : List Addr), σ = [some (.ref a), some (.int most), some (.ref fo), v3, v4, v5, v6, v7, none] ∧ Same H H' ∧ H' fo = some (.lst (bs.map V.ref)) ∧ TupsAt H' bs (lots things 1)))
      (.inl ⟨rfl, rfl, rfl⟩) (fun i σ H' _ _ => trivial) ?_ ?_
    · rintro i x σ H' H'' hi hP ⟨rfl, rfl⟩
      obtain rfl : i = 0 := by omega
      rcases hP with ⟨_, rfl, eH⟩ | ⟨h, _⟩
      · rw [eH]
        refine ⟨sz0, fun lt hlt => ⟨_, rfl, la, rfl, ⟨_, sqL (by rw [upd_ne (ne_of_none f1 hlt)]; exact f1)⟩, ?_⟩⟩
        have g1 : Same H0 (upd H0 lt (.lst [])) := Same.new hlt
        refine for_it (walk_list (K := K) (xs := [V.ref t1])) (fun j σ H' => ∃ (v6 v7 : Option V) (bs : List Addr), σ = [some (.ref a), some (.int most), some (.ref fo), some (.ref la), some (.int 0), some (.ref lt), v6, v7, none] ∧ Same H0 H' ∧ H' lt = some (.lst (bs.map V.ref)) ∧ TupsAt H' bs (if j = 0 then [] else things.map fun t => [t]))
          ⟨none, none, [], rfl, g1, upd_same, TupsAt.nil⟩ (fun j σ H' _ ⟨_, _, _, _, e, _⟩ => sqL (e _ _ f1)) ?_ ?_
        · rintro j x σ H' H'' hj ⟨v6, v7, bs, rfl, e, hl1, ht⟩ ⟨rfl, hx⟩
          obtain rfl : j = 0 := by rw [List.length_singleton] at hj; omega
          cases hx
          obtain rfl : bs = [] := List.length_eq_zero_iff.mp ht.1
          have ft1 := e _ _ f2
          refine ⟨_, rfl, sz0, fun em hem => ⟨PySem.W.Tup.mk [], PySem.W.Tup.mk [], hv_tup (sqT (by rw [upd_ne (ne_of_none ft1 hem)]; exact ft1)) ha_nil, hv_tup (sqT upd_same) ha_nil, _, rfl, ?_⟩⟩
          have hd : decide (PySem.W.Tup.mk ([] : List Str) ≠ PySem.W.Tup.mk []) = false := by decide
          rw [hd]
          refine itF ?_
          have e5 : Same H0 (upd H'' em (.tup [])) := e.upd hem
          have hl5 : (upd H'' em (.tup [])) lt = some (.lst []) := by rw [upd_ne (ne_of_none hl1 hem)]; exact hl1
          refine ⟨_, rfl, .inl ⟨rfl, _, sqL hl5⟩, ?_⟩
          refine ⟨_, rfl, _, rfl, _, rfl, a, things.map V.str, rfl, (e4.trans e5).seq hs, fun sl hsl => ⟨sl, rfl, ⟨_, sqL upd_same⟩, fun D hD => ?_⟩⟩
          rw [cut0] at hD ⊢
          have e6 : Same (upd H'' em (.tup [])) (upd (upd H'' em (.tup [])) sl (.lst (things.map V.str))) := Same.new hsl
          obtain ⟨H6, eH6⟩ : ∃ H6, H6 = upd (upd H'' em (.tup [])) sl (.lst (things.map V.str)) := ⟨_, rfl⟩
          rw [← eH6] at hD e6 ⊢
          have g6 : H6 sl = some (.lst (things.map V.str)) := by rw [eH6]; exact upd_same
          have ft6 : H6 t1 = some (.tup []) := (e5.trans e6) _ _ f2
          refine lc_it (walk_listM (K := K) (xs := things) (f := V.str)) (fun i H' => Same H6 H' ∧ ∃ bs : List Addr, H' D = some (.lst (bs.map V.ref)) ∧ TupsAt H' bs ((things.take i).map fun t => [t])) ⟨Same.new hD, [], upd_same, TupsAt.nil⟩ (fun i H' _ q => sqL (q.1 _ _ g6)) ?_ ?_
          · rintro i x H7 H8 hi ⟨e7, bs, hb, hT⟩ ⟨rfl, hx⟩
            have hxi : things[i]? = some things[i] := List.getElem?_eq_getElem hi
            obtain rfl : x = .str things[i] := by
              rw [List.getElem?_map, hxi] at hx
              exact (Option.some.inj hx).symm
            have htk : things.take (i + 1) = things.take i ++ [things[i]] := by rw [List.take_add_one, hxi] <;> rfl
            refine ⟨rfl, yesT (itT ⟨_, rfl, t1, [], rfl, .inl (sqT (e7 _ _ ft6)), _, rfl, sz1, fun tn htn => ⟨_, by rw [upd_ne (ne_of_none hb htn)]; exact hb, szL ?_, (e7.upd htn).turn hD, bs ++ [tn], ?_, ?_⟩⟩)⟩
            · have := hT.1
              rw [List.length_map, List.length_take] at this
              rw [List.length_map]
              omega
            · rw [upd_same, List.map_append]
              rfl
            · rw [htk, List.map_append]
              refine TupsAt.snoc ⟨hT.1, fun i b k h1 h2 => ?_⟩ ?_
              · have q := hT.2 i b k h1 h2
                have nb : b ≠ D := fun z => by rw [z, hb] at q; cases q
                rw [upd_ne nb, upd_ne (ne_of_none q htn)]
                exact q
              · have nb : tn ≠ D := fun z => by rw [z, hb] at htn; cases htn
                rw [upd_ne nb, upd_same]
                rfl
          · rintro H7 ⟨e7, bs, hb, hT⟩
            rw [List.take_length] at hT
            have hlD : lt ≠ D := fun z => by rw [← z, (e6 _ _ hl5)] at hD; cases hD
            have hl7 : H7 lt = some (.lst []) := e7 _ _ (e6 _ _ hl5)
            refine ⟨lt, D, [], bs.map V.ref, rfl, rfl, hl7, hb, szN ?_, ?_⟩
            · have := hT.1
              rw [List.length_map] at this
              simp only [List.length_nil, List.length_map]
              omega
            · refine ⟨_, _, bs, rfl, ?_, by rw [upd_same]; rfl, ?_⟩
              · exact ((e5.trans e6).trans e7).turn hlt
              · refine ⟨hT.1, fun i b k h1 h2 => ?_⟩
                have q := hT.2 i b k h1 h2
                rw [upd_ne]
                · exact q
                · intro z
                  rw [z, hl7] at q
                  cases q
        · rintro σ H' ⟨v6, v7, bs, rfl, e, hl1, ht⟩
          have hT : TupsAt H' bs (things.map fun t => [t]) := ht
          have g3 := e _ _ f3
          refine ⟨_, rfl, .inl ⟨rfl, _, sqL g3⟩, _, rfl, fo, lt, _, _, rfl, rfl, g3, hl1, szN ?_, ⟨_, rfl, ?_⟩⟩
          · have := hT.1
            rw [List.length_map] at this
            rw [List.length_map, List.length_singleton]
            omega
          · refine .inr ⟨rfl, _, _, _, _, _, t0 :: bs, rfl, (e4.trans e).turn hfo0, by rw [upd_same]; rfl, ?_⟩
            have g4 := e _ _ f4
            have n0 : t0 ≠ fo := fun z => by rw [z, g3] at g4; cases g4
            refine TupsAt.append (bs := [t0]) (ks := [[]]) (TupsAt.snoc TupsAt.nil (by rw [upd_ne n0]; exact g4)) ⟨hT.1, fun i b k h1 h2 => ?_⟩
            have q := hT.2 i b k h1 h2
            rw [upd_ne]
            · exact q
            · intro z
              rw [z, g3] at q
              cases q
      · cases h
    · rintro σ H' hP
      rcases hP with ⟨h, rfl, rfl⟩ | ⟨h, v3, v4, v5, v6, v7, bs, rfl, e, g1, g2⟩
      · have h0 : most = 0 := by omega
        subst h0
        exact ⟨_, rfl, k _ fo [t0] e4 hfo0 f3 ⟨rfl, fun i b k h1 h2 => by
          match i, h1, h2 with
          | 0, h1, h2 => cases h1; cases h2; exact f4
          | i + 1, h1, h2 => simp at h1⟩⟩
      · have h1 : most = 1 := by omega
        subst h1
        exact ⟨_, rfl, k _ fo bs e hfo0 g1 g2⟩
end
end MC
end
section
set_option Elab.async false
set_option linter.all false
set_option maxRecDepth 100000
set_option maxHeartbeats 4000000
/-! The defs, 12: Scene. -/
namespace MC
open PySem PySem.Spec PyProof.Rows L2
/-- a dict of calls -/
def CallsR (R : Hp → Addr → HO → Prop) (K : PySem.W.Frag) (H : Hp) (la : Addr) (calls : List (Str × List Str)) : Prop := ∃ γ δ η : Str → Addr, R H la (.dK (dV V.ref (calls.map fun c => (c.1, γ c.1)))) ∧
  ∀ c ∈ calls, H (γ c.1) = some (.ins (He.ga K "Call") (δ c.1) [("worth", .int 0), ("heard", .ref (η c.1))]) ∧ H (η c.1) = some (.tup (c.2.map V.str))
abbrev CallsAt := CallsR AtH
structure Scn where
  chan : List (Str × Int)
  calls : List (Str × List Str)
structure Scn.Ok (S : Scn) : Prop where
  cn : (keysL S.chan).Nodup
  ln : (keysL S.calls).Nodup
  cw : ∀ c ∈ S.chan, isNameB c.1 = true ∧ 0 ≤ c.2 ∧ c.2 ≤ 1000 ∧ c.1.length ≤ 10000
  lw : ∀ c ∈ S.calls, isNameB c.1 = true ∧ c.1.length ≤ 10000 ∧ (∀ m ∈ c.2, m ∈ keysL S.chan) ∧ c.2.Nodup ∧ c.2.length ≤ 8
  cl : S.chan.length ≤ 8
  ll : S.calls.length ≤ 100
def SceneAt (K : PySem.W.Frag) (H : Hp) (sc : Addr) (S : Scn) : Prop := ∃ dx ca la, H sc = some (.ins (He.ga K "Scene") dx [("channels", .ref ca), ("calls", .ref la)]) ∧ H ca = some (.dK (dV V.int S.chan)) ∧ CallsAt K H la S.calls
def Scn.sorted (S : Scn) : Scn := ⟨sortL 0 S.chan, sortL [] S.calls⟩
section
variable {P : Program} {w : World} {K : PySem.W.Frag} {mg : Str → Option Value} {base : Heap}
theorem CallsAt.same {H H' : Hp} {la : Addr} {calls : List (Str × List Str)} (h : CallsAt K H la calls) (e : Same H H') : CallsAt K H' la calls := by
  obtain ⟨γ, δ, η, h1, h2⟩ := h
  exact ⟨γ, δ, η, e _ _ h1, fun c hc => ⟨e _ _ (h2 c hc).1, e _ _ (h2 c hc).2⟩⟩
theorem SceneAt.same {H H' : Hp} {sc : Addr} {S : Scn} (h : SceneAt K H sc S) (e : Same H H') : SceneAt K H' sc S := by
  obtain ⟨dx, ca, la, h1, h2, h3⟩ := h
  exact ⟨dx, ca, la, e _ _ h1, e _ _ h2, h3.same e⟩
/-- the scene's channels can be read -/
def ChanRd (K : PySem.W.Frag) (H : Hp) (sc : Addr) (S : Scn) : Prop := ∃ dx ca la, H sc = some (.ins (He.ga K "Scene") dx [("channels", .ref ca), ("calls", .ref la)]) ∧ Rd H ca (.dK (dV V.int S.chan))
theorem SceneAt.cr {H : Hp} {sc : Addr} {S : Scn} (h : SceneAt K H sc S) : ChanRd K H sc S := by
  obtain ⟨dx, ca, la, h1, h2, h3⟩ := h
  exact ⟨dx, ca, la, h1, .inl h2⟩
def spSceneInit (K : PySem.W.Frag) : Sp := fun vs H Q _ => ∃ (x dx ca la : Addr) (S : Scn), vs = [.ref x, .ref ca, .ref la] ∧ H x = some (.ins (He.ga K "Scene") dx []) ∧ H ca = some (.dK (dV V.int S.chan)) ∧ CallsAt K H la S.calls ∧ S.Ok ∧
  ∀ H', Off (· = x) H H' → SceneAt K H' x S.sorted → Q .non H'
theorem ok_sceneInit (T : Txt P w K mg) : Has P w K mg base CX0 2 (He.fAd K ("Scene", some "__init__")) ["self", "channels", "calls"] (spSceneInit K) := by
  obtain ⟨fd, F⟩ := T.d_SceneInit
  obtain ⟨fdN, GN, bN, kN⟩ := ok_isName (base := base) T
  obtain ⟨fdW, GW, bW, kW⟩ := ok_isWhole (base := base) T
  obtain ⟨tm, hM⟩ := T.most
  have sc : FnScope ["self", "channels", "calls", "mast", "many", "name", "call"] ["self", "channels", "calls"] (defScope sSceneInit) := ⟨rfl, rfl, rfl, by decide +kernel, rfl, by decide +kernel, by decide +kernel⟩
  refine ⟨fd, F.ok sc (fun vs H Q E h => ?_) (fun cdv A outer s H vs Q E hr h => ?_), F.bindsN fun _ _ _ _ _ _ us hl => match us, hl with | [_, _, _], _ => rfl, F.kp⟩
  · obtain ⟨x, dx, ca, la, S, rfl, _⟩ := h
    rfl
  · obtain ⟨x, dx, ca, la, S, rfl, hx, hca, hla, ok, k⟩ := h
    refine ⟨_, PSs.nox (pss_cons (ps_lock (ps_for PassesOwn.never rfl (pi_items (pv 1)) (pg_tup (by rfl) (pgs_cons (pg_name (i := 3) sc.nd rfl (by first | exact Or.inl rfl | exact Or.inr rfl)) (pgs_cons (pg_name (i := 4) sc.nd rfl (Or.inl rfl)) pgs_nil)))
        (pss_cons (ps_if (pt_not (pt_val (pe_call GN (hr.mono (by decide)) (by rfl) T.g_is_name kN bN .nil pass0 (pa_cons (pv 3) pa_nil)))) (pss_one ps_never) pss_nil)
        (pss_one (ps_if (pt_not (pt_val (pe_call GW (hr.mono (by decide)) (by rfl) T.g_is_whole kW bW .nil pass0 (pa_cons (pv 4) (pa_cons pe_int (pa_cons (pe_glob (v := .int 1000) (by rfl) hM ⟨_, rfl⟩) pa_nil)))))) (pss_one ps_never) pss_nil)))))
      (pss_cons (ps_lock (ps_for PassesOwn.never rfl (pi_items (pv 2)) (pg_tup (by rfl) (pgs_cons (pg_name (i := 5) sc.nd rfl (by first | exact Or.inl rfl | exact Or.inr rfl)) (pgs_cons (pg_name (i := 6) sc.nd rfl (Or.inl rfl)) pgs_nil)))
        (pss_cons (ps_if (pt_not (pt_val (pe_call GN (hr.mono (by decide)) (by rfl) T.g_is_name kN bN .nil pass0 (pa_cons (pv 5) pa_nil)))) (pss_one ps_never) pss_nil)
        (pss_cons (ps_if (pt_not (pt_val (pe_call GW (hr.mono (by decide)) (by rfl) T.g_is_whole kW bW .nil pass0 (pa_cons (pe_fld (pv 6) rfl) (pa_cons pe_int (pa_cons (pe_glob (v := .int 1000) (by rfl) hM ⟨_, rfl⟩) pa_nil)))))) (pss_one ps_never) pss_nil)
        (pss_one (ps_if (PW.pt (pw_or (pt_not (pt_val (pe_callB (cr_all (by rfl)) (by rfl) T.z_all bt_all (pa_cons (pe_lc (own := [("mast", 3)]) (te := tDIn (tVar 3) (tVar 1)) (by rfl) sc.nd (pi_tup (pe_fld (pv 6) rfl))
            (by exact blk_ok (N := ["self", "channels", "calls", "mast", "many", "name", "call"]) (sc := defScope sSceneInit) (by decide +kernel)) (fun _ _ _ _ _ => pg_name (i := 3) sc.nd rfl (Or.inl rfl)) (fun _ _ _ _ _ => pts_nil) (fun _ _ _ _ _ => pe_cmp (pc_din (by exact hr.u1) (pv 3) (pv 1)))) pa_nil))))
          (pw_or1 (pt_cmpR op_ne (pe_callB cr_lenSetS (by rfl) T.z_len bt_len (pa_cons (pe_callTy (cr_setS (by rfl)) (by rfl) T.z_set bt_set (pa_cons (pe_fld (pv 6) rfl) pa_nil)) pa_nil)) (pe_callB call_len_seq (by rfl) T.z_len bt_len (pa_cons (pe_fld (pv 6) rfl) pa_nil)) (nomark _))))) (pss_one ps_never) pss_nil))))))
      (pss_cons (ps_fld (pv 0) (pe_dc (own := [("mast", 3)]) (tk := tVar 3) (tv := tDGet (tVar 1) (tVar 3)) (by rfl) sc.nd (pi_list (pe_callB (cr_sortedStr (by rfl) (by exact hr.units)) (by rfl) T.z_sorted bt_sorted (pa_cons (pv 1) pa_nil)))
          (by exact blk_ok (N := ["self", "channels", "calls", "mast", "many", "name", "call"]) (sc := defScope sSceneInit) (by decide +kernel)) (fun _ _ _ _ _ => pg_name (i := 3) sc.nd rfl (Or.inl rfl)) (fun _ _ _ _ _ => pts_nil) (fun _ _ _ _ _ => pv 3) (fun _ _ _ _ _ => pe_dget (by exact hr.u1) (pv 1) (pv 3) (fun _ _ => rfl))) rfl)
      (pss_one (ps_fld (pv 0) (pe_dc (own := [("name", 5)]) (tk := tVar 5) (tv := tDGet (tVar 2) (tVar 5)) (by rfl) sc.nd (pi_list (pe_callB (cr_sortedStr (by rfl) (by exact hr.units)) (by rfl) T.z_sorted bt_sorted (pa_cons (pv 2) pa_nil)))
          (by exact blk_ok (N := ["self", "channels", "calls", "mast", "many", "name", "call"]) (sc := defScope sSceneInit) (by decide +kernel)) (fun _ _ _ _ _ => pg_name (i := 5) sc.nd rfl (Or.inl rfl)) (fun _ _ _ _ _ => pts_nil) (fun _ _ _ _ _ => pv 5) (fun _ _ _ _ _ => pe_dget (by exact hr.u1) (pv 2) (pv 5) (fun _ _ => rfl))) rfl))))), ?_⟩
    obtain ⟨γ, δ, η, g1, g2⟩ := id hla
    have g1' : H la = some (.dK (dV V.ref (S.calls.map fun c => (c.1, γ c.1)))) := g1
    have hln : (keysL (S.calls.map fun c => (c.1, γ c.1))) = keysL S.calls := keysL_map _ _
    -- the first loop
    refine ⟨ca, _, hca, trivial, fun od => ?_⟩
    obtain ⟨HB, eHB⟩ : ∃ HB, HB = upd H ca (.frz od (.dK (dV V.int S.chan))) := ⟨_, rfl⟩
    have hBc : HB ca = some (.frz od (.dK (dV V.int S.chan))) := by rw [eHB]; exact upd_same
    rw [← eHB]
    refine ⟨_, rfl, ca, od, _, rfl, hBc, ?_⟩
    refine for_it walk_itemsL (fun i σ H' => ∃ v3 v4, σ = [some (.ref x), some (.ref ca), some (.ref la), v3, v4, none, none] ∧ Same HB H') ⟨none, none, rfl, Same.refl _⟩ (fun i σ H' _ ⟨_, _, _, e⟩ => e _ _ hBc) ?_ ?_
    · rintro i y σ H' H'' hi ⟨v3, v4, rfl, e⟩ ⟨t, c, hc, rfl, ht, rfl⟩
      obtain ⟨o1, o2, o3, o4⟩ := ok.cw c (List.mem_of_getElem? hc)
      have e1 : Same HB (upd H' t (.tup [.str c.1, .int c.2])) := e.upd ht
      refine ⟨t, _, rfl, sqT upd_same, rfl, _, _, rfl, _, _, rfl, rfl, ?_⟩
      refine ⟨_, rfl, c.1, rfl, o4, fun H1 e2 => ⟨true, by rw [o1], itF ?_⟩⟩
      refine ⟨_, rfl, .inl ⟨c.2, 0, 1000, rfl, true, by rw [decide_eq_true o2, decide_eq_true o3]; rfl, itF ?_⟩⟩
      exact ⟨_, _, rfl, e1.trans e2⟩
    rintro σ H1 ⟨v3, v4, rfl, e⟩
    refine ⟨e _ _ hBc, ?_⟩
    have eA : Same H (upd H1 ca (.dK (dV V.int S.chan))) := same_lock hca (by rw [← eHB]; exact e)
    obtain ⟨H2, eH2⟩ : ∃ H2, H2 = upd H1 ca (.dK (dV V.int S.chan)) := ⟨_, rfl⟩
    rw [← eH2] at eA ⊢
    clear eH2 e eHB hBc
    -- the second
    have hla2 := eA _ _ g1'
    refine ⟨la, _, hla2, trivial, fun od => ?_⟩
    obtain ⟨HB, eHB⟩ : ∃ HB, HB = upd H2 la (.frz od (.dK (dV V.ref (S.calls.map fun c => (c.1, γ c.1))))) := ⟨_, rfl⟩
    have hBc : HB la = some (.frz od (.dK (dV V.ref (S.calls.map fun c => (c.1, γ c.1))))) := by rw [eHB]; exact upd_same
    have hcB : Rd HB ca (.dK (dV V.int S.chan)) := by rw [eHB]; exact rd_lock hla2 trivial (.inl (eA _ _ hca))
    have hgB : ∀ c ∈ S.calls, HB (γ c.1) = some (.ins (He.ga K "Call") (δ c.1) [("worth", .int 0), ("heard", .ref (η c.1))]) ∧ HB (η c.1) = some (.tup (c.2.map V.str)) := fun c hc => by
      rw [eHB]
      exact ⟨at_lock hla2 (eA _ _ (g2 c hc).1) (by intro z; cases z), at_lock hla2 (eA _ _ (g2 c hc).2) (by intro z; cases z)⟩
    rw [← eHB]
    refine ⟨_, rfl, la, od, _, rfl, hBc, ?_⟩
    refine for_it walk_itemsL (fun i σ H' => ∃ v5 v6, σ = [some (.ref x), some (.ref ca), some (.ref la), v3, v4, v5, v6] ∧ Same HB H') ⟨none, none, rfl, Same.refl _⟩ (fun i σ H' _ ⟨_, _, _, e⟩ => e _ _ hBc) ?_ ?_
    · rintro i y σ H' H'' hi ⟨v5, v6, rfl, e⟩ ⟨t, c', hc', rfl, ht, rfl⟩
      obtain ⟨c, hc, rfl⟩ : ∃ c, S.calls[i]? = some c ∧ c' = (c.1, γ c.1) := by
        rw [List.getElem?_map] at hc'
        obtain ⟨c, h1, h2⟩ := Option.map_eq_some_iff.mp hc'
        exact ⟨c, h1, h2.symm⟩
      have hcm := List.mem_of_getElem? hc
      obtain ⟨o1, o2, o3, o4, o5⟩ := ok.lw c hcm
      have e1 : Same HB (upd H' t (.tup [.str c.1, .ref (γ c.1)])) := e.upd ht
      refine ⟨t, _, rfl, sqT upd_same, rfl, _, _, rfl, _, _, rfl, rfl, ?_⟩
      refine ⟨_, rfl, c.1, rfl, o2, fun H3 e2 => ⟨true, by rw [o1], itF ?_⟩⟩
      have e3 := e1.trans e2
      obtain ⟨q1, q2⟩ := hgB c hcm
      have q1 := e3 _ _ q1
      have q2 := e3 _ _ q2
      refine ⟨_, rfl, _, _, _, _, _, rfl, q1, T.c_Call, T.a_Call_worth, rfl, .inl ⟨0, 0, 1000, rfl, true, rfl, itF ?_⟩⟩
      refine ⟨_, rfl, _, _, _, _, _, rfl, q1, T.c_Call, T.a_Call_heard, rfl, _, rfl, ⟨_, sqT q2⟩, fun D hD => ?_⟩
      refine lc_list c.2 walk_tupM (fun _ => true) (fun _ => .bl true) hD (by omega) (fun H' e => sqT (e _ _ q2)) ?_ ?_
      · intro j a x' H5 H6 ha' e5 y
        obtain ⟨rfl, rfl⟩ := yat_map ha' y
        obtain ⟨v, hv⟩ := mem_keysL.mp (o3 a (List.mem_of_getElem? ha'))
        exact ⟨Same.refl _, fun R S' hR hS => ⟨rfl, yesT ⟨_, rfl, _, rfl, ca, _, rfl, dgetS ((e3.trans e5).rd hcB) hv, hR _ (Same.refl _) rfl⟩⟩⟩
      · intro H5 e5 hDl
        rw [List.filter_eq_self.mpr fun _ _ => rfl] at hDl
        refine ⟨D, c.2.map fun _ => true, rfl, sqL (by rw [hDl, List.map_map]; rfl), true, by rw [List.all_map]; simp, itF ?_⟩
        have q1 := e5 _ _ q1
        have q2 := e5 _ _ q2
        refine ⟨_, rfl, _, _, _, _, _, rfl, q1, T.c_Call, T.a_Call_heard, rfl, η c.1, c.2, rfl, .inr (sqT q2), by omega, fun sa L hsa hLn hLm => ?_⟩
        have hll : L.length = c.2.length := ((List.perm_ext_iff_of_nodup hLn o4).mpr hLm).length_eq
        have e6 := e5.upd (o := SetSO P w sa L) hsa
        refine ⟨sa, L, rfl, upd_same, _, rfl, _, _, _, _, _, rfl, (by rw [upd_ne (ne_of_none q1 hsa)]; exact q1), T.c_Call, T.a_Call_heard, rfl, _, _, rfl, .inr (sqT (by rw [upd_ne (ne_of_none q2 hsa)]; exact q2)), ?_⟩
        refine ⟨rfl, false, by rw [decide_eq_true (by rw [hll, List.length_map])]; rfl, itF ⟨_, _, rfl, (e3.trans e5).upd hsa⟩⟩
    rintro σ H3 ⟨v5, v6, rfl, e⟩
    refine ⟨e _ _ hBc, ?_⟩
    have eB : Same H2 (upd H3 la (.dK (dV V.ref (S.calls.map fun c => (c.1, γ c.1))))) := same_lock hla2 (by rw [← eHB]; exact e)
    obtain ⟨H4, eH4⟩ : ∃ H4, H4 = upd H3 la (.dK (dV V.ref (S.calls.map fun c => (c.1, γ c.1)))) := ⟨_, rfl⟩
    rw [← eH4] at eB ⊢
    have eC := eA.trans eB
    clear eH4 e eHB hBc hgB hcB eB hla2 eA
    -- the fields
    have hca4 := eC _ _ hca
    have hla4 := eC _ _ g1'
    have hx4 := eC _ _ hx
    have hlc : (keysL S.chan).length ≤ 8 := by unfold keysL; rw [List.length_map]; exact ok.cl
    have hll : (keysL S.calls).length ≤ 100 := by unfold keysL; rw [List.length_map]; exact ok.ll
    have hls := (sortS_perm (keysL S.chan)).length_eq
    have hls2 := (sortS_perm (keysL S.calls)).length_eq
    refine ⟨_, rfl, ca, keysL S.chan, rfl, .inr (.inr ⟨_, .inl hca4, dV_keys.symm⟩), by omega, fun q hq => ⟨q, rfl, ⟨_, sqL upd_same⟩, fun D hD => ?_⟩⟩
    have e5 : Same H4 (upd H4 q (.lst ((sortS (keysL S.chan)).map V.str))) := Same.new hq
    refine dc_list V.int (sortS (keysL S.chan)) walk_listM (fun _ => true) id (fun k => (S.chan.lookup k).getD 0) hD (by omega) (by rw [List.map_id]; exact (sortS_perm _).nodup_iff.mpr ok.cn) (fun H' e => sqL (e _ _ upd_same)) ?_ ?_
    · intro i a y H' H5 ha e _ yy
      obtain ⟨rfl, rfl⟩ := yat_map ha yy
      obtain ⟨v, hv⟩ := mem_keysL.mp ((sortS_perm _).mem_iff.mp (List.mem_of_getElem? ha))
      refine ⟨Same.refl _, fun R S' hR hS => ⟨rfl, yesT ⟨_, rfl, _, rfl, _, rfl, ca, _, rfl, dgetS (.inl ((e5.trans e) _ _ hca4)) hv, ?_⟩⟩⟩
      have := hR _ (Same.refl _) rfl
      rw [hv] at this
      exact this
    intro H5 e6 hD5
    rw [List.filter_eq_self.mpr fun _ _ => rfl] at hD5
    have e7 := e5.trans e6
    refine ⟨_, rfl, x, _, dx, _, rfl, e7 _ _ hx4, T.c_Scene, T.a_Scene_channels, (by show 0 < 1000; decide), ?_⟩
    have hxa : x ≠ ca := fun z => by rw [z, hca] at hx; cases hx
    have hxl : x ≠ la := fun z => by rw [z, g1'] at hx; cases hx
    have hxD : x ≠ D := fun z => by have := e7 _ _ hx4; rw [z, hD5] at this; cases this
    obtain ⟨H6, eH6⟩ : ∃ H6, H6 = upd H5 x (.ins (He.ga K "Scene") dx (putF "channels" (.ref D) [])) := ⟨_, rfl⟩
    have hx6 : H6 x = some (.ins (He.ga K "Scene") dx [("channels", .ref D)]) := by rw [eH6]; exact upd_same
    have hD6 : H6 D = some (.dK (dV V.int S.sorted.chan)) := by
      rw [eH6, upd_ne hxD.symm]
      exact hD5
    have hla6 : H6 la = some (.dK (dV V.ref (S.calls.map fun c => (c.1, γ c.1)))) := by rw [eH6, upd_ne hxl.symm]; exact e7 _ _ hla4
    have o6 : Off (· = x) H H6 := by rw [eH6]; exact (Off.same (eC.trans e7)).upd rfl
    have hg6 : ∀ c ∈ S.calls, H6 (γ c.1) = some (.ins (He.ga K "Call") (δ c.1) [("worth", .int 0), ("heard", .ref (η c.1))]) ∧ H6 (η c.1) = some (.tup (c.2.map V.str)) := fun c hc => by
      obtain ⟨z1, z2⟩ := g2 c hc
      exact ⟨o6 _ _ (fun e => by rw [e, hx] at z1; injection z1 with z1; injection z1 with _ _ z1; cases z1) z1, o6 _ _ (fun e => by rw [e, hx] at z2; cases z2) z2⟩
    rw [← eH6]
    refine ⟨_, rfl, la, keysL S.calls, rfl, .inr (.inr ⟨_, .inl hla6, by rw [dV_keys, hln]⟩), by omega, fun q2 hq2 => ⟨q2, rfl, ⟨_, sqL upd_same⟩, fun D2 hD2 => ?_⟩⟩
    have e8 : Same H6 (upd H6 q2 (.lst ((sortS (keysL S.calls)).map V.str))) := Same.new hq2
    refine dc_list V.ref (sortS (keysL S.calls)) walk_listM (fun _ => true) id γ hD2 (by omega) (by rw [List.map_id]; exact (sortS_perm _).nodup_iff.mpr ok.ln) (fun H' e => sqL (e _ _ upd_same)) ?_ ?_
    · intro i a y H' H7 ha e _ yy
      obtain ⟨rfl, rfl⟩ := yat_map ha yy
      have hv : (S.calls.map fun c => (c.1, γ c.1)).lookup a = some (γ a) := by
        have hm := (sortS_perm _).mem_iff.mp (List.mem_of_getElem? ha)
        obtain ⟨c, hc, rfl⟩ := List.mem_map.mp hm
        exact lookup_nodup (by show (keysL _).Nodup; rw [hln]; exact ok.ln) (List.mem_map.mpr ⟨c, hc, rfl⟩)
      refine ⟨Same.refl _, fun R S' hR hS => ⟨rfl, yesT ⟨_, rfl, _, rfl, _, rfl, la, _, rfl, dgetS (.inl ((e8.trans e) _ _ hla6)) hv, hR _ (Same.refl _) rfl⟩⟩⟩
    intro H7 e9 hD7
    rw [List.filter_eq_self.mpr fun _ _ => rfl] at hD7
    have e10 := e8.trans e9
    have hxD2 : x ≠ D2 := fun z => by have := e10 _ _ hx6; rw [z, hD7] at this; cases this
    refine ⟨_, rfl, x, _, dx, _, rfl, e10 _ _ hx6, T.c_Scene, T.a_Scene_calls, (by show 1 < 1000; decide), ?_⟩
    refine k _ ((o6.trans (Off.same e10)).upd rfl) ⟨dx, D, D2, upd_same, by rw [upd_ne hxD.symm]; exact e10 _ _ hD6, γ, δ, η, ?_, fun c hc => ?_⟩
    · show upd H7 x _ D2 = _
      rw [upd_ne hxD2.symm, hD7]
      congr 2
      show dV V.ref _ = dV V.ref (List.map _ (List.map _ _))
      rw [List.map_map]
      rfl
    · obtain ⟨z1, z2⟩ := hg6 c ((sortL_mem ok.ln).mp hc)
      have hxg : γ c.1 ≠ x := fun e => by rw [e, hx6] at z1; injection z1 with z1; injection z1 with _ _ z1; cases z1
      have hxe : η c.1 ≠ x := fun e => by rw [e, hx6] at z2; cases z2
      exact ⟨by rw [upd_ne hxg]; exact e10 _ _ z1, by rw [upd_ne hxe]; exact e10 _ _ z2⟩
end
end MC
end
section
set_option Elab.async false
set_option linter.all false
set_option maxRecDepth 100000
set_option maxHeartbeats 4000000
/-! A method as a value. -/
namespace MC
open PySem PySem.Spec PyProof.Rows L2
def tBound (K : PySem.W.Frag) (ta : TE) (f : Str) : TE := fun σ H Q => ta σ H fun x H1 => ∃ a C dx fs g, x = .ref a ∧ H1 a = some (.ins C dx fs) ∧ Cls K C ∧ BMeth K C f g ∧ fs.lookup f = none ∧ ∀ p, H1 p = none → Q (.ref p) (upd H1 p (.met g a))
theorem pe_bound {X : Cx} {e : Expr} {ta : TE} {f : Str} {pos : Pos} (he : PE X e ta) (hb : attributeBase e f X.env (eval e X.env) = eval e X.env) : PE X (.Attribute e f pos) (tBound X.K ta f) := by
  refine ⟨fun pins s σ H Q I h => ?_⟩
  refine attr_of hb (thn (he.run pins s σ H _ I h) fun u s1 ⟨x, H1, I1, rx, a, C, dx, fs, g, ex, ea, c, k, l, q⟩ => ?_)
  subst ex
  exact op_getbound I1 ea c k l rx q
end MC
end
section
set_option Elab.async false
set_option linter.all false
set_option maxRecDepth 100000
set_option maxHeartbeats 4000000
/-! The defs, 6: lots_below. -/
namespace MC
open PySem PySem.Spec PyProof.Rows L2
open PySem.W (alike alikeAll AllAlike Sortable)
abbrev kS (M : List Str) : List Key := M.map Sum.inr
theorem kS_map (M : List Str) : (kS M).map kV = M.map V.str := by
  rw [List.map_map]
  rfl
theorem kS_inj {M M' : List Str} (h : kS M = kS M') : M = M' := by
  induction M generalizing M' with
  | nil => cases M' with
    | nil => rfl
    | cons => cases h
  | cons a M ih => cases M' with
    | nil => cases h
    | cons b M' =>
      have h' : ((Sum.inr a : Key) :: kS M) = Sum.inr b :: kS M' := h
      injection h' with h1 h2
      cases h1
      rw [ih h2]
/-- the datum of a lot's key -/
def lotD (M : List Str) : PyData := .tuple [.int M.length, .tuple (M.map PyData.str)]
def keyD : Key → PyData
  | .inl i => .int i
  | .inr x => .str x
def lotK (k : List Key) : PyData := .tuple [.int k.length, .tuple (k.map keyD)]
theorem lotK_kS (M : List Str) : lotK (kS M) = lotD M := by
  unfold lotK lotD
  rw [List.length_map, List.map_map]
  rfl
theorem alike_lots (L : List (List Str)) : AllAlike (L.map lotD) := by
  intro d hd d' hd'
  obtain ⟨x, _, rfl⟩ := List.mem_map.mp hd
  obtain ⟨y, _, rfl⟩ := List.mem_map.mp hd'
  have := alikeAll_strs x y
  simp [lotD, alike, alikeAll, this]
theorem sortable_lots (L : List (List Str)) : Sortable (L.map lotD) := .inl fun d hd => by
  obtain ⟨x, _, rfl⟩ := List.mem_map.mp hd
  exact ⟨_, _, rfl⟩
theorem depth_lot (M : List Str) : (lotD M).depth ≤ 8 := by
  have := depthAll_strs M
  simp [lotD, PyData.depth, PyData.depthAll, this]
/-- a family of zones with masts up, and the masts of them all -/
structure Fam (p : Plan) (down : List Str) (Zs Z M : List Str) : Prop where
  ne : Z ≠ []
  zin : ∀ z ∈ Z, z ∈ Zs ∧ p.up down z ≠ []
  nd : M.Nodup
  mem : ∀ m, m ∈ M ↔ ∃ z ∈ Z, m ∈ p.up down z
theorem Fam.mono {p : Plan} {down Zs Zs' Z M : List Str} (f : Fam p down Zs Z M) (h : ∀ z ∈ Zs, z ∈ Zs') : Fam p down Zs' Z M := ⟨f.ne, fun z hz => ⟨h z (f.zin z hz).1, (f.zin z hz).2⟩, f.nd, f.mem⟩
/-- the lots met for the zones Zs -/
structure LB (p : Plan) (down Zs : List Str) (ks : List (List Str)) : Prop where
  sound : ∀ M ∈ ks, ∃ Z, Fam p down Zs Z M
  comp : ∀ Z, Z ≠ [] → (∀ z ∈ Z, z ∈ Zs ∧ p.up down z ≠ []) → ∃ M ∈ ks, ∀ m, m ∈ M ↔ ∃ z ∈ Z, m ∈ p.up down z
theorem Plan.up_nd {p : Plan} (ok : p.Ok) (down : List Str) (z : Str) : (p.up down z).Nodup := by
  unfold Plan.up Plan.hears
  cases h : p.heard.lookup z with
  | none => exact List.nodup_nil.filter _
  | some l => exact (ok.hnd _ (lookup_mem h)).filter _
theorem Plan.up_le {p : Plan} (ok : p.Ok) (down : List Str) (z : Str) : (p.up down z).length ≤ 8 := by
  unfold Plan.up Plan.hears
  cases h : p.heard.lookup z with
  | none => simp
  | some l => exact Nat.le_trans (List.length_filter_le _ _) (ok.hlen _ (lookup_mem h))
theorem Plan.up_in {p : Plan} (ok : p.Ok) {down : List Str} {z m : Str} (h : m ∈ p.up down z) : m ∈ p.masts ∧ m ∉ down := by
  unfold Plan.up Plan.hears at h
  rw [List.mem_filter, decide_eq_true_eq] at h
  refine ⟨?_, h.2⟩
  cases hl : p.heard.lookup z with
  | none => rw [hl] at h; simp at h
  | some l => rw [hl] at h; exact ok.hin _ (lookup_mem hl) m h.1
/-- one more zone, no mast of which is up -/
theorem LB.skip {p : Plan} {down Zs : List Str} {z : Str} {ks : List (List Str)} (h : LB p down Zs ks) (hz : p.up down z = []) : LB p down (Zs ++ [z]) ks := by
  refine ⟨fun M hM => ?_, fun Z hne hin => h.comp Z hne fun y hy => ?_⟩
  · obtain ⟨Z, f⟩ := h.sound M hM
    exact ⟨Z, f.mono fun z hz => List.mem_append_left _ hz⟩
  · obtain ⟨h1, h2⟩ := hin y hy
    refine ⟨?_, h2⟩
    rw [List.mem_append, List.mem_singleton] at h1
    exact h1.resolve_right fun e => h2 (e ▸ hz)
/-- one more zone with masts up: the lots so far, this one's, and each with it -/
theorem LB.step {p : Plan} (ok : p.Ok) {down Zs : List Str} {z : Str} {ks ks' : List (List Str)} (h : LB p down Zs ks) (hz : p.up down z ≠ [])
    (h1 : ∀ M ∈ ks', M ∈ ks ∨ M = p.up down z ∨ ∃ L ∈ ks, M.Nodup ∧ ∀ m, m ∈ M ↔ m ∈ L ∨ m ∈ p.up down z)
    (h2 : ∀ M ∈ ks, M ∈ ks') (h3 : p.up down z ∈ ks') (h4 : ∀ L ∈ ks, ∃ M ∈ ks', ∀ m, m ∈ M ↔ m ∈ L ∨ m ∈ p.up down z) : LB p down (Zs ++ [z]) ks' := by
  refine ⟨fun M hM => ?_, fun Z hne hin => ?_⟩
  · rcases h1 M hM with hk | rfl | ⟨L, hL, hnd, hm⟩
    · obtain ⟨Z, f⟩ := h.sound M hk
      exact ⟨Z, f.mono fun z hz => List.mem_append_left _ hz⟩
    · exact ⟨[z], by simp, fun y hy => by rw [List.mem_singleton.mp hy]; exact ⟨List.mem_append_right _ (List.mem_singleton.mpr rfl), hz⟩, Plan.up_nd ok down z, fun m => by simp⟩
    · obtain ⟨Z, f⟩ := h.sound L hL
      refine ⟨Z ++ [z], by simp, fun y hy => ?_, hnd, fun m => ?_⟩
      · rw [List.mem_append, List.mem_singleton] at hy
        rcases hy with hy | rfl
        · exact ⟨List.mem_append_left _ (f.zin y hy).1, (f.zin y hy).2⟩
        · exact ⟨List.mem_append_right _ (List.mem_singleton.mpr rfl), hz⟩
      · rw [hm, f.mem]
        constructor
        · rintro (⟨y, hy, hm⟩ | hm)
          · exact ⟨y, List.mem_append_left _ hy, hm⟩
          · exact ⟨z, List.mem_append_right _ (List.mem_singleton.mpr rfl), hm⟩
        · rintro ⟨y, hy, hu⟩
          rw [List.mem_append, List.mem_singleton] at hy
          rcases hy with hy | rfl
          · exact .inl ⟨y, hy, hu⟩
          · exact .inr hu
  · -- a family: with z, or without
    by_cases hzZ : z ∈ Z
    · obtain ⟨Z', hZ'⟩ : ∃ Z', Z' = Z.filter fun y => decide (y ≠ z) := ⟨_, rfl⟩
      have hmem : ∀ y, y ∈ Z' ↔ y ∈ Z ∧ y ≠ z := fun y => by rw [hZ', List.mem_filter, decide_eq_true_eq]
      by_cases hn : Z' = []
      · refine ⟨_, h3, fun m => ⟨fun hm => ⟨z, hzZ, hm⟩, fun ⟨y, hy, hm⟩ => ?_⟩⟩
        by_cases e : y = z
        · rw [← e]; exact hm
        · have := (hmem y).mpr ⟨hy, e⟩
          rw [hn] at this
          cases this
      · obtain ⟨L, hL, hLm⟩ := h.comp Z' hn fun y hy => by
          obtain ⟨q1, q2⟩ := (hmem y).mp hy
          obtain ⟨q3, q4⟩ := hin y q1
          rw [List.mem_append, List.mem_singleton] at q3
          exact ⟨q3.resolve_right q2, q4⟩
        obtain ⟨M, hM, hMm⟩ := h4 L hL
        refine ⟨M, hM, fun m => ?_⟩
        rw [hMm, hLm]
        constructor
        · rintro (⟨y, hy, hm⟩ | hm)
          · exact ⟨y, ((hmem y).mp hy).1, hm⟩
          · exact ⟨z, hzZ, hm⟩
        · rintro ⟨y, hy, hm⟩
          by_cases e : y = z
          · rw [e] at hm
            exact .inr hm
          · exact .inl ⟨y, (hmem y).mpr ⟨hy, e⟩, hm⟩
    · obtain ⟨M, hM, hMm⟩ := h.comp Z hne fun y hy => by
        obtain ⟨q3, q4⟩ := hin y hy
        rw [List.mem_append, List.mem_singleton] at q3
        exact ⟨q3.resolve_right fun e => hzZ (e ▸ hy), q4⟩
      exact ⟨M, h2 M hM, hMm⟩
end MC
end
section
set_option Elab.async false
set_option linter.all false
set_option maxRecDepth 100000
set_option maxHeartbeats 4000000
/-! The defs, 7: lots_below, the walk. -/
namespace MC
open PySem PySem.Spec PyProof.Rows L2
open PySem.W (alike alikeAll AllAlike Sortable)
/-- a dict's keys, texts' tuples -/
def KeysAre (kvs : List (List Key × V)) (ks : List (List Str)) : Prop := kvs.map (·.1) = ks.map kS
theorem KeysAre.put {kvs : List (List Key × V)} {ks : List (List Str)} (h : KeysAre kvs ks) (M : List Str) (v : V) : ∃ ks', KeysAre (putK kvs (kS M) v) ks' ∧ (∀ x, x ∈ ks' ↔ x ∈ ks ∨ x = M) ∧ ks'.length ≤ ks.length + 1 := by
  by_cases hn : valV kvs (kS M) = none
  · refine ⟨ks ++ [M], ?_, fun x => by rw [List.mem_append, List.mem_singleton], by rw [List.length_append] <;> exact Nat.le_refl _⟩
    rw [putK_new v hn]
    unfold KeysAre at h ⊢
    rw [List.map_append, List.map_append, h]
    rfl
  · obtain ⟨u, hu⟩ : ∃ u, valV kvs (kS M) = some u := by
      cases q : valV kvs (kS M) with
      | none => exact absurd q hn
      | some u => exact ⟨u, rfl⟩
    have hin : kS M ∈ kvs.map (·.1) := valV_in hu
    have hany : (kvs.any fun kv => decide (kv.1 = kS M)) = true := by rw [valV_any, hu]; rfl
    refine ⟨ks, ?_, fun x => ⟨.inl, fun z => z.elim id fun e => ?_⟩, Nat.le_succ _⟩
    · unfold KeysAre at h ⊢
      unfold putK
      rw [if_pos hany, List.map_map, ← h]
      refine List.map_congr_left fun kv _ => ?_
      show (if kv.1 = kS M then (kv.1, v) else kv).1 = kv.1
      split <;> rfl
    · rw [h] at hin
      obtain ⟨M', hM', e'⟩ := List.mem_map.mp hin
      rw [e, ← kS_inj e']
      exact hM'
theorem KeysAre.merge {more : List (List Key × V)} : ∀ {kvs : List (List Key × V)} {ks mk : List (List Str)}, KeysAre kvs ks → KeysAre more mk → ∃ ks', KeysAre (mergeT kvs more) ks' ∧ (∀ x, x ∈ ks' ↔ x ∈ ks ∨ x ∈ mk) ∧ ks'.length ≤ ks.length + mk.length := by
  induction more with
  | nil =>
    intro kvs ks mk h hm
    have : mk = [] := by
      unfold KeysAre at hm
      exact List.map_eq_nil_iff.mp hm.symm
    subst this
    exact ⟨ks, h, fun x => by simp, by simp⟩
  | cons p more ih =>
    intro kvs ks mk h hm
    cases mk with
    | nil => unfold KeysAre at hm; cases hm
    | cons M mk =>
      unfold KeysAre at hm
      rw [List.map_cons, List.map_cons] at hm
      injection hm with h1 h2
      obtain ⟨ks1, g1, g2, g3⟩ := h.put M p.2
      obtain ⟨ks2, g4, g5, g6⟩ := ih g1 h2
      refine ⟨ks2, ?_, fun x => ?_, ?_⟩
      · show KeysAre (mergeT (putK kvs p.1 p.2) more) ks2
        rw [h1]
        exact g4
      · rw [g5, g2, List.mem_cons]
        constructor
        · rintro ((h | h) | h)
          · exact .inl h
          · exact .inr (.inl h)
          · exact .inr (.inr h)
        · rintro (h | h | h)
          · exact .inl (.inl h)
          · exact .inl (.inr h)
          · exact .inr h
      · rw [List.length_cons]
        omega
theorem none_back {H H' : Hp} {q : Addr} (e : Same H H') (h : H' q = none) : H q = none := by
  cases z : H q with
  | none => rfl
  | some o =>
    have := e _ _ z
    rw [h] at this
    cases this
theorem LB.same_mem {p : Plan} {down Zs : List Str} {ks ks' : List (List Str)} (h : LB p down Zs ks) (e : ∀ {M}, M ∈ ks' ↔ M ∈ ks) : LB p down Zs ks' := ⟨fun M hM => h.sound M (e.mp hM), fun Z a b => by
  obtain ⟨M, hM, q⟩ := h.comp Z a b
  exact ⟨M, e.mpr hM, q⟩⟩
theorem keys_tups {H : Hp} {kvs : List (List Key × V)} {bs : List Addr} {ks : List (List Str)} (h : IsKeys H kvs bs) (hk : KeysAre kvs ks) : TupsAt H bs ks := by
  obtain ⟨L, g1, g2, g3⟩ := isKeys_zip h
  unfold KeysAre at hk
  have l1 := congrArg List.length g1
  have l2 := congrArg List.length g2
  have l3 := congrArg List.length hk
  rw [List.length_map] at l1
  rw [List.length_map, List.length_map] at l2
  rw [List.length_map, List.length_map] at l3
  refine ⟨by omega, fun i b k hb hk2 => ?_⟩
  have hi : i < L.length := by rw [l1]; exact (List.getElem?_eq_some_iff.mp hb).1
  have q := g3 L[i] (List.getElem_mem hi)
  have q1 : (L[i]).1 = b := by
    rw [← g1, List.getElem?_map, List.getElem?_eq_getElem hi] at hb
    exact Option.some.inj hb
  have q2 : (L[i]).2 = kS k := by
    have : (L.map (·.2))[i]? = (ks.map kS)[i]? := by rw [g2, hk]
    rw [List.getElem?_map, List.getElem?_map, List.getElem?_eq_getElem hi, hk2] at this
    exact Option.some.inj this
  rw [q1, q2, kS_map] at q
  exact q
section
variable {P : Program} {w : World} {K : PySem.W.Frag} {mg : Str → Option Value} {base : Heap}
/-- size_and_row is a key of lots -/
def CSize (H : Hp) (v : V) (d : PyData) : Prop := ∃ (b : Addr) (M : List Str), v = .ref b ∧ H b = some (.tup (M.map V.str)) ∧ d = lotD M
theorem key_size (T : Txt P w K mg) {X : Cx} (hP : X.prog = P) (hw : X.w = w) (hK : X.K = K) (hm : X.mg = mg) (H : Hp) : KeyOk X (He.fAd K ("size_and_row", none)) H (CSize H) := by
  subst hP hw hK hm
  obtain ⟨fd, G, b, _⟩ := ok_sizeAndRow (base := X.base) T
  refine key_fn G (by decide) b fun v d H1 Q e hc hq => ?_
  obtain ⟨b, M, rfl, hb, rfl⟩ := hc
  refine ⟨b, M.map V.str, rfl, sqT (e _ _ hb), fun p hp => hq _ _ (Same.new hp) ?_⟩
  rw [List.length_map]
  refine Dp.tup (sqT upd_same) (DpAll.cons (Dp.int _) (DpAll.cons (Dp.tup (sqT ?_) (dpStrs M)) DpAll.nil))
  rw [upd_ne (ne_of_none (e _ _ hb) hp)]
  exact e _ _ hb
def spLotsBelow (K : PySem.W.Frag) : Sp := fun vs H Q _ => ∃ (pl dn : Addr) (p : Plan) (down : List Str), vs = [.ref pl, .ref dn] ∧ PlanAt K H pl p ∧ p.Ok ∧ SqT K H dn (down.map V.str) ∧ down.length ≤ 1000 ∧
  ∀ H' q bs ks, Same H H' → H q = none → H' q = some (.lst (bs.map V.ref)) → TupsAt H' bs ks → LB p down p.zones ks → Q (.ref q) H'
theorem ok_lotsBelow (T : Txt P w K mg) : Has P w K mg base CX0 5 (He.fAd K ("lots_below", none)) ["town", "down"] (spLotsBelow K) := by
  obtain ⟨fd, F⟩ := T.d_LotsBelow
  obtain ⟨fdU, GU, bU, kU⟩ := ok_upMasts (base := base) T
  have sc : FnScope ["town", "down", "found", "zone", "masts", "fresh", "lot"] ["town", "down"] (defScope sLotsBelow) := ⟨rfl, rfl, rfl, by decide +kernel, rfl, by decide +kernel, by decide +kernel⟩
  refine ⟨fd, F.ok sc (fun vs H Q E h => ?_) (fun cdv A outer s H vs Q E hr h => ?_), F.bindsN fun _ _ _ _ _ _ us hl => match us, hl with | [_, _], _ => rfl, F.kp⟩
  · obtain ⟨pl, dn, p, down, rfl, _⟩ := h
    rfl
  · obtain ⟨pl, dn, p, down, rfl, hp, ok, hd, hdl, k⟩ := h
    refine ⟨_, PSs.nox (pss_cons (ps_set (i := 2) sc.nd rfl (Or.inl rfl) pe_dnewT)
      (pss_cons (ps_lock (ps_for PassesOwn.never rfl (pi_keys (pe_fld (pv 0) rfl)) (pg_name (i := 3) sc.nd rfl (Or.inl rfl))
        (pss_cons (ps_set (i := 4) sc.nd rfl (Or.inl rfl) (pe_meth (pv 0) T.c_Map T.m_Map_up_masts GU (hr.mono (by decide)) bU .nil pass0 (pa_cons (pv 3) (pa_cons (pv 1) pa_nil))))
        (pss_one (ps_if (pt_cmpR (op_neT (PySem.W.Tup Str) (by exact Fit.of hr (by decide))) (pv 4) (pe_tup pa_nil) (nomark _))
          (pss_cons (ps_set (i := 5) sc.nd rfl (Or.inl rfl) (pe_dispT (by exact hr.u1) (pv 4) pe_bl))
          (pss_cons (ps_for PassesOwn.never rfl (pi_list (pe_callTy (call_list_dT (by rfl)) (by rfl) T.z_list bt_list (pa_cons (pv 2) pa_nil))) (pg_name (i := 6) sc.nd rfl (Or.inl rfl))
            (pss_one (ps_dput (by exact hr.u1) (pv 5) (pe_callTy call_tuple_of (by rfl) T.z_tuple bt_tuple (pa_cons (pe_callB (cr_sortedSetS (by rfl) (by exact hr.units)) (by rfl) T.z_sorted bt_sorted
              (pa_cons (pe_callTy (cr_setS (by rfl)) (by rfl) T.z_set bt_set (pa_cons (pe_lst (StX.pa_star (pv 6) (StX.pa_star (pv 4) pa_nil))) pa_nil)) pa_nil)) pa_nil)) pe_bl rfl)))
          (pss_one (ps_expr (pe_bm PySem.F.plainAttrs_dict PySem.F.slot_dict_update PySem.F.type_dict_update (mt_updT (by exact hr.u2)) (pv 2) (pa_cons (pv 5) pa_nil)))))) pss_nil)))))
      (pss_one (ps_ret (pe_callBK (cr_sortedKeyT (by rfl) (by exact hr.units) (by exact hr.in1.in1)) (by rfl) T.z_sorted bt_sorted (pa_cons (pv 2) pa_nil) (pk_cons (pe_glob (v := .ref (He.fAd K ("size_and_row", none))) (by rfl) T.g_size_and_row rfl) pk_nil)))))), ?_⟩
    intro fo hfo
    obtain ⟨dx, ca, ha, ra, β, ρ, h1, h2, h3, h4, h5, h6⟩ := id hp
    have h3' : H ha = some (.dK (dS (p.heard.map fun h => (h.1, V.ref (β h.1))))) := h3
    have hnf : ha ≠ fo := ne_of_none h3' hfo
    refine ⟨ha, .dK (dS (p.heard.map fun h => (h.1, V.ref (β h.1)))), by rw [upd_ne hnf]; exact h3', trivial, fun od => ?_⟩
    obtain ⟨u, hu⟩ : ∃ u, u = HO.dK (dS (p.heard.map fun h => (h.1, V.ref (β h.1)))) := ⟨_, rfl⟩
    obtain ⟨HB, eHB⟩ : ∃ HB, HB = upd H ha (.frz od u) := ⟨_, rfl⟩
    obtain ⟨HL, eHL⟩ : ∃ HL, HL = upd (upd H fo (.dT [])) ha (.frz od u) := ⟨_, rfl⟩
    rw [← hu, ← eHL]
    have hpB : PlanRd K HB pl p := by rw [eHB, hu]; exact hp.rd.lock h3'
    have fB : HB fo = none := by rw [eHB, upd_ne hnf.symm]; exact hfo
    have eBL : Same HB HL := fun b o q => by
      rw [eHL]
      rw [eHB] at q
      by_cases hb : b = ha
      · rw [hb, upd_same] at q ⊢
        exact q
      · rw [upd_ne hb] at q
        rw [upd_ne hb, upd_ne (ne_of_none q hfo)]
        exact q
    have hLf : HL fo = some (.dT []) := by rw [eHL, upd_ne hnf.symm]; exact upd_same
    have hBh : HB ha = some (.frz od u) := by rw [eHB]; exact upd_same
    have hB1 : HB pl = some (.ins (He.ga K "Map") dx [("channels", .ref ca), ("heard", .ref ha), ("roads", .ref ra)]) := by rw [eHB, hu]; exact at_lock h3' h1 (by intro z; cases z)
    have hdB : SqT K HB dn (down.map V.str) := by
      rcases hd with q | q
      · exact .inl (by rw [eHB, hu]; exact rd_lock h3' trivial q)
      · exact .inr q
    refine ⟨_, rfl, pl, _, dx, _, _, rfl, eBL _ _ hB1, T.c_Map, T.a_Map_heard, rfl, ha, od, rfl, .inl ⟨_, by rw [← hu]; exact eBL _ _ hBh, ?_⟩⟩
    refine for_it walk_keys (fun i σ H' => ∃ (v3 v4 v5 v6 : Option V) (kvs : List (List Key × V)) (ks : List (List Str)), σ = [some (.ref pl), some (.ref dn), some (.ref fo), v3, v4, v5, v6] ∧ Same HB H' ∧ H' fo = some (.dT kvs) ∧ KeysAre kvs ks ∧ LB p down (p.zones.take i) ks ∧ ks.length + 1 ≤ 2 ^ i)
      ⟨none, none, none, none, [], [], rfl, eBL, hLf, rfl, ⟨fun M hM => (by cases hM), fun Z hne hin => ?_⟩, Nat.le_refl _⟩ (fun i σ H' _ ⟨_, _, _, _, _, _, _, e, _⟩ => by rw [← hu]; exact e _ _ hBh) ?_ ?_
    · cases Z with
      | nil => exact absurd rfl hne
      | cons z Z => have := (hin z List.mem_cons_self).1; simp at this
    · rintro i x σ H' H'' hi ⟨v3, v4, v5, v6, kvs, ks, rfl, e, hf, hK, hLB, hlen⟩ ⟨rfl, kk, vv, hx, rfl⟩
      obtain ⟨hd1, hh⟩ : ∃ h, p.heard[i]? = some h := by
        rw [List.length_map, List.length_map] at hi
        exact ⟨_, List.getElem?_eq_getElem hi⟩
      obtain ⟨z, l⟩ := hd1
      have hkk : kk = .inr z := by
        rw [List.getElem?_map, List.getElem?_map, hh] at hx
        exact (congrArg Prod.fst (Option.some.inj hx)).symm
      subst hkk
      have hzz : p.zones[i]? = some z := by unfold Plan.zones; rw [List.getElem?_map, hh] <;> rfl
      have hz : z ∈ p.zones := List.mem_of_getElem? hzz
      have htk : p.zones.take (i + 1) = p.zones.take i ++ [z] := by rw [List.take_add_one, hzz] <;> rfl
      have hi8 : i < 8 := by
        have := (List.getElem?_eq_some_iff.mp hh).1
        have := ok.hsz
        omega
      have hk256 : ks.length + 1 ≤ 2 ^ 8 := Nat.le_trans hlen (Nat.pow_le_pow_right (by decide) (by omega))
      refine ⟨_, rfl, pl, dx, _, rfl, e _ _ hB1, rfl, _, rfl, _, rfl, pl, dn, z, p, down, rfl, hpB.same e, ok, hz, e.seqT hdB, hdl, fun H1 q e1 hq => ?_⟩
      have hf1 := e1 _ _ hf
      have e01 : Same HB H1 := e.trans e1
      refine ⟨_, rfl, sz0, fun em hem => ⟨PySem.W.Tup.mk (p.up down z), PySem.W.Tup.mk [], hv_tup (sqT (by rw [upd_ne (ne_of_none hq hem)]; exact hq)) (ha_strs _), hv_tup (sqT upd_same) ha_nil, _, rfl, ?_⟩⟩
      have e2 : Same H1 (upd H1 em (.tup [])) := Same.new hem
      obtain ⟨H2, eH2⟩ : ∃ H2, H2 = upd H1 em (.tup []) := ⟨_, rfl⟩
      rw [← eH2] at e2 ⊢
      have e02 := e01.trans e2
      have hf2 := e2 _ _ hf1
      have hq2 := e2 _ _ hq
      refine itB (fun hc => ?_) fun hc => ?_
      · have hup : p.up down z ≠ [] := fun h => by
          rw [h] at hc
          simp at hc
        refine fun fr hfr => ⟨_, rfl, q, kS (p.up down z), rfl, by rw [upd_ne (ne_of_none hq2 hfr), kS_map]; exact hq2, upd_same, ?_⟩
        obtain ⟨H3, eH3⟩ : ∃ H3, H3 = upd (upd H2 fr (.dT [])) fr (.dT [(kS (p.up down z), .bl true)]) := ⟨_, rfl⟩
        rw [← eH3]
        have e3 : Same H2 H3 := by rw [eH3]; exact (Same.new hfr).turn hfr
        have hr3 : H3 fr = some (.dT [(kS (p.up down z), .bl true)]) := by rw [eH3]; exact upd_same
        have hf3 := e3 _ _ hf2
        refine ⟨_, rfl, fo, kvs, rfl, .inl hf3, fun lp bs hlp hbs => ⟨lp, rfl, ⟨_, sqL upd_same⟩, ?_⟩⟩
        have hT := keys_tups hbs hK
        have nfl : fr ≠ lp := ne_of_none hr3 hlp
        refine for_it (walk_listM (K := K) (xs := bs) (f := V.ref)) (fun j σ H' => ∃ (v6 : Option V) (fk : List (List Key × V)) (gk : List (List Str)), σ = [some (.ref pl), some (.ref dn), some (.ref fo), some (.str z), some (.ref q), some (.ref fr), v6] ∧ Same H2 H' ∧ H' lp = some (.lst (bs.map V.ref)) ∧ TupsAt H' bs ks ∧ H' fr = some (.dT fk) ∧ KeysAre fk gk ∧
          (∀ M ∈ gk, M = p.up down z ∨ ∃ L ∈ ks, M.Nodup ∧ ∀ m, m ∈ M ↔ m ∈ L ∨ m ∈ p.up down z) ∧ p.up down z ∈ gk ∧ (∀ L ∈ ks.take j, ∃ M ∈ gk, ∀ m, m ∈ M ↔ m ∈ L ∨ m ∈ p.up down z) ∧ gk.length ≤ j + 1)
          ⟨v6, [(kS (p.up down z), .bl true)], [p.up down z], rfl, e3.upd hlp, upd_same, hT.same (Same.new hlp), by rw [upd_ne nfl]; exact hr3, rfl, fun M hM => .inl (List.mem_singleton.mp hM), List.mem_singleton.mpr rfl, (fun L hL => by simp at hL), Nat.le_refl _⟩ (fun j σ H' _ ⟨_, _, _, _, _, h, _⟩ => sqL h) ?_ ?_
        · rintro j x σ H' H'' hj ⟨v6, fk, gk, rfl, e4, hl4, hT4, hr4, hK4, hs4, hu4, hc4, hn4⟩ ⟨rfl, hx⟩
          have hbj : bs[j]? = some bs[j] := List.getElem?_eq_getElem hj
          have hjk : j < ks.length := hT.1 ▸ hj
          have hkj : ks[j]? = some ks[j] := List.getElem?_eq_getElem hjk
          obtain rfl : x = .ref bs[j] := by
            rw [List.getElem?_map, hbj] at hx
            exact (Option.some.inj hx).symm
          have hlot := hT4.2 j _ _ hbj hkj
          have hq4 := e4 _ _ hq2
          have hMk : ∃ Z, Fam p down (p.zones.take i) Z ks[j] := hLB.sound _ (List.getElem_mem hjk)
          have hkl : (ks[j]).length ≤ 100 := by
            obtain ⟨Z, f⟩ := hMk
            have : (ks[j]).length ≤ p.masts.length := nodup_le f.nd fun m hm => by
              obtain ⟨y, _, hy⟩ := (f.mem m).mp hm
              exact (Plan.up_in ok hy).1
            have h8 := ok.csz
            unfold Plan.masts at this
            rw [List.length_map] at this
            omega
          have hul := Plan.up_le ok down z
          refine ⟨_, rfl, _, rfl, bs[j], _, rfl, .inl (sqT hlot), _, rfl, q, _, rfl, .inl (sqT hq4), szN (by rw [List.length_append, List.length_append, List.length_map, List.length_map]; show _ + (_ + 0) ≤ _; omega), fun ll hll => ?_⟩
          have hcat : (ks[j]).map V.str ++ ((p.up down z).map V.str ++ []) = (ks[j] ++ p.up down z).map V.str := by rw [List.append_nil, List.map_append]
          rw [hcat]
          refine ⟨ll, _, rfl, .inl (sqL upd_same), by rw [List.length_append]; omega, fun sa Ls hsa hLn hLm => ⟨sa, Ls, rfl, upd_same, fun so L' hso hperm => ⟨so, _, rfl, .inl ⟨sqL upd_same, fun tp htp => ?_⟩⟩⟩⟩
          obtain ⟨H8, eH8⟩ : ∃ H8, H8 = upd (upd (upd (upd H'' ll (.lst ((ks[j] ++ p.up down z).map V.str))) sa (SetSO P w sa Ls)) so (.lst (L'.map V.str))) tp (.tup (L'.map V.str)) := ⟨_, rfl⟩
          have e8' : Same H'' H8 := by rw [eH8]; exact (((Same.new hll).upd hsa).upd hso).upd htp
          have ht8 : H8 tp = some (.tup (L'.map V.str)) := by rw [eH8]; exact upd_same
          have hr8 := e8' _ _ hr4
          have lfk : fk.length = gk.length := by have := congrArg List.length hK4; rw [List.length_map, List.length_map] at this; exact this
          obtain ⟨gk', g1, g2, g3⟩ := hK4.put L' (.bl true)
          have hLmem : ∀ m, m ∈ L' ↔ m ∈ ks[j] ∨ m ∈ p.up down z := fun m => by rw [hperm.mem_iff, hLm, List.mem_append]
          have hLnd : L'.Nodup := hperm.nodup_iff.mpr hLn
          have hbl : bs.length ≤ 255 := by rw [hT.1]; omega
          refine ⟨fr, upd H8 fr (.dT (putK fk (kS L') (.bl true))), rfl, .inr ⟨fk, kS L', tp, by have z := hr8; rw [eH8] at z; exact z, rfl, by have z := ht8; rw [eH8] at z; rw [kS_map]; exact z, szL (by omega), by rw [eH8] <;> rfl⟩, ?_⟩
          have hlp8 := e8' _ _ hl4
          have hH2fr : H2 fr = none := hfr
          refine ⟨_, putK fk (kS L') (.bl true), gk', rfl, (e4.trans e8').turn hfr, by rw [upd_ne nfl.symm]; exact hlp8, ⟨hT4.1, fun i b k h1 h2 => ?_⟩, upd_same, g1, fun M hM => ?_, (g2 _).mpr (.inl hu4), fun L hL => ?_, by omega⟩
          · have q := e8' _ _ (hT4.2 i b k h1 h2)
            rw [upd_ne]
            · exact q
            · intro z
              rw [z, hr8] at q
              cases q
          · rcases (g2 M).mp hM with h | rfl
            · exact hs4 M h
            · exact .inr ⟨ks[j], List.getElem_mem hjk, hLnd, hLmem⟩
          · have htk2 : ks.take (j + 1) = ks.take j ++ [ks[j]] := by rw [List.take_add_one, hkj] <;> rfl
            rw [htk2, List.mem_append, List.mem_singleton] at hL
            rcases hL with hL | rfl
            · obtain ⟨M, hM, hMm⟩ := hc4 L hL
              exact ⟨M, (g2 M).mpr (.inl hM), hMm⟩
            · exact ⟨L', (g2 L').mpr (.inr rfl), hLmem⟩
        · rintro σ H' ⟨v6, fk, gk, rfl, e4, hl4, hT4, hr4, hK4, hs4, hu4, hc4, hn4⟩
          have hf4 := e4 _ _ hf2
          obtain ⟨ks', g1, g2, g3⟩ := hK.merge hK4
          have lkv : kvs.length = ks.length := by have := congrArg List.length hK; rw [List.length_map, List.length_map] at this; exact this
          have lfk : fk.length = gk.length := by have := congrArg List.length hK4; rw [List.length_map, List.length_map] at this; exact this
          have hfr0 : H2 fr = none := hfr
          refine ⟨_, rfl, .inr (.inr (.inl ⟨rfl, .inr ⟨_, hf4⟩⟩)), _, rfl, fo, fr, kvs, fk, rfl, rfl, ne_of_none hf2 hfr, hf4, hr4, ?_, by have := hT.1; omega, ?_⟩
          · by_cases hkn : kvs = []
            · refine .inr ?_
              have h0 : ks.length = 0 := by rw [← lkv, hkn]; rfl
              have := hT.1
              omega
            · exact .inl hkn
          · have hb := hT.1
            rw [hb, List.take_length] at hc4
            refine ⟨_, _, _, _, mergeT kvs fk, ks', rfl, (e02.trans e4).turn fB, upd_same, g1, ?_, ?_⟩
            · rw [htk]
              refine hLB.step ok hup (fun M hM => ?_) (fun M hM => (g2 M).mpr (.inl hM)) ((g2 _).mpr (.inr hu4)) fun L hL => ?_
              · rcases (g2 M).mp hM with h | h
                · exact .inl h
                · exact .inr (hs4 M h)
              · obtain ⟨M, hM, hMm⟩ := hc4 L hL
                exact ⟨M, (g2 M).mpr (.inr hM), hMm⟩
            · rw [Nat.pow_succ]
              omega
      · have hup : p.up down z = [] := by
          rw [decide_eq_false_iff_not] at hc
          exact Classical.byContradiction fun h => hc fun e => h (PySem.W.Tup.mk.inj e)
        refine ⟨_, _, _, _, kvs, ks, rfl, e02, hf2, hK, by rw [htk]; exact hLB.skip hup, Nat.le_trans hlen (Nat.pow_le_pow_right (by decide) (Nat.le_succ i))⟩
    · rintro σ H' ⟨v3, v4, v5, v6, kvs, ks, rfl, e, hf, hK, hLB, hlen⟩
      have hn : (dS (p.heard.map fun h => (h.1, V.ref (β h.1)))).length = p.zones.length := by rw [List.length_map, List.length_map]; unfold Plan.zones; rw [List.length_map]
      rw [hn] at hlen
      rw [hn, List.take_length] at hLB
      refine ⟨e _ _ hBh, ?_⟩
      have hnh : ha ≠ fo := hnf
      have eT : Same H (upd H' ha u) := same_lock (by rw [hu]; exact h3') (by rw [← eHB]; exact e)
      have hz8 : p.zones.length ≤ 8 := by
        unfold Plan.zones
        rw [List.length_map]
        exact ok.hsz
      have hk256 : ks.length + 1 ≤ 2 ^ 8 := Nat.le_trans hlen (Nat.pow_le_pow_right (by decide) (by omega))
      have lkv : kvs.length = ks.length := by have := congrArg List.length hK; rw [List.length_map, List.length_map] at this; exact this
      have hdat : (kvs.map fun kv => lotK kv.1) = ks.map lotD := by
        have z : (kvs.map fun kv => lotK kv.1) = (kvs.map (·.1)).map lotK := by rw [List.map_map]; rfl
        rw [z, hK, List.map_map]
        exact List.map_congr_left fun M _ => lotK_kS M
      refine ⟨_, rfl, fo, He.fAd K ("size_and_row", none), kvs, lotK, CSize (upd H' ha u), rfl, rfl, .inl (by rw [upd_ne hnh.symm]; exact hf), key_size T rfl rfl rfl rfl _, ?_, ?_, ?_, by omega, ?_, ?_⟩
      · intro kv hkv b hb
        have : kv.1 ∈ ks.map kS := by rw [← hK]; exact List.mem_map_of_mem hkv
        obtain ⟨M, _, eM⟩ := List.mem_map.mp this
        rw [← eM, kS_map] at hb
        exact ⟨b, M, rfl, hb, by rw [← eM, lotK_kS]⟩
      · rw [hdat]
        exact alike_lots ks
      · rw [hdat]
        exact sortable_lots ks
      · intro kv hkv
        have : kv.1 ∈ ks.map kS := by rw [← hK]; exact List.mem_map_of_mem hkv
        obtain ⟨M, _, eM⟩ := List.mem_map.mp this
        rw [← eM, lotK_kS]
        exact depth_lot M
      · intro H5 q L e5 hq hperm hL
        obtain ⟨L2, p1, p2⟩ := perm_map_inv' (f := kS) (show (L.map (·.2)).Perm (ks.map kS) by rw [← hK]; exact hperm)
        have l1 := congrArg List.length p2
        rw [List.length_map, List.length_map] at l1
        have hqH : H q = none := none_back (eT.trans e5) hq
        refine k (upd H5 q (.lst (L.map fun x => V.ref x.1))) q (L.map (·.1)) L2 ((eT.trans e5).upd hq) hqH (by rw [upd_same, List.map_map]; rfl) ⟨by rw [List.length_map]; exact l1, fun i b M hb hM => ?_⟩ (hLB.same_mem p1.mem_iff)
        rw [List.getElem?_map] at hb
        obtain ⟨x, hx, rfl⟩ := Option.map_eq_some_iff.mp hb
        have z := congrArg (fun l => l[i]?) p2
        simp only [List.getElem?_map, hx, hM, Option.map_some] at z
        have hx2 := hL x (List.mem_of_getElem? hx)
        rw [Option.some.inj z, kS_map] at hx2
        exact (e5.upd hq) _ _ hx2
end
end MC
end
section
set_option Elab.async false
set_option linter.all false
set_option maxRecDepth 100000
set_option maxHeartbeats 4000000
/-! The defs, 13: the scene's order. -/
namespace MC
open PySem PySem.Spec PyProof.Rows L2
open PySem.W (alike alikeAll AllAlike Sortable dataLe)
section
variable {P : Program} {w : World} {K : PySem.W.Frag} {mg : Str → Option Value} {base : Heap}
theorem CallsAt.get {H : Hp} {la : Addr} {calls : List (Str × List Str)} (h : CallsAt K H la calls) (hn : (keysL calls).Nodup) {n : Str} {hs : List Str} (hl : calls.lookup n = some hs) :
    ∃ c δ η, DGet H la (.str n) (some (.ref c)) ∧ H c = some (.ins (He.ga K "Call") δ [("worth", .int 0), ("heard", .ref η)]) ∧ H η = some (.tup (hs.map V.str)) := by
  obtain ⟨γ, δ, η, h1, h2⟩ := h
  have hm := lookup_mem hl
  obtain ⟨q1, q2⟩ := h2 _ hm
  exact ⟨γ n, δ n, η n, dgetS (.inl h1) (lookup_nodup (by show (keysL _).Nodup; rw [keysL_map]; exact hn) (List.mem_map.mpr ⟨_, hm, rfl⟩)), q1, q2⟩
def rankD (n : Str) : PyData := .tuple [.int 0, .str n]
def spRank (K : PySem.W.Frag) : Sp := fun vs H Q _ => ∃ (sc : Addr) (n : Str) (S : Scn), vs = [.ref sc, .str n] ∧ SceneAt K H sc S ∧ (keysL S.calls).Nodup ∧ n ∈ keysL S.calls ∧ ∀ q, H q = none → Q (.ref q) (upd H q (.tup [.int 0, .str n]))
theorem ok_rank (T : Txt P w K mg) : Has P w K mg base CX0 1 (He.fAd K ("Scene", some "rank")) ["self", "name"] (spRank K) := by
  obtain ⟨fd, F⟩ := T.d_SceneRank
  have sc : FnScope ["self", "name"] ["self", "name"] (defScope sSceneRank) := ⟨rfl, rfl, rfl, by decide +kernel, rfl, by decide +kernel, by decide +kernel⟩
  refine ⟨fd, F.ok sc (fun vs H Q E h => ?_) (fun cdv A outer s H vs Q E hr h => ?_), F.bindsN fun _ _ _ _ _ _ us hl => match us, hl with | [_, _], _ => rfl, F.kp⟩
  · obtain ⟨sc, n, S, rfl, _⟩ := h
    rfl
  · obtain ⟨sc, n, S, rfl, hS, hn, hin, k⟩ := h
    refine ⟨_, pss_one (ps_ret (pe_tup (pa_cons (pe_un un_neg (pe_fld (pe_dget (by exact hr.u1) (pe_fld (pv 0) rfl) (pv 1) (fun _ _ => rfl)) rfl)) (pa_cons (pv 1) pa_nil)))), ?_⟩
    obtain ⟨dx, ca, la, h1, h2, h3⟩ := hS
    obtain ⟨hs, hl⟩ := mem_keysL.mp hin
    obtain ⟨c, δ, η, g1, g2, g3⟩ := h3.get hn hl
    exact ⟨_, rfl, _, _, _, _, _, rfl, h1, T.c_Scene, T.a_Scene_calls, rfl, _, rfl, la, _, rfl, g1, c, _, _, _, _, rfl, g2, T.c_Call, T.a_Call_worth, rfl, ⟨0, rfl, _, rfl, sz2, fun q hq => k q hq⟩⟩
def spOrder (K : PySem.W.Frag) : Sp := fun vs H Q _ => ∃ (sc : Addr) (S : Scn), vs = [.ref sc] ∧ SceneAt K H sc S ∧ (keysL S.calls).Nodup ∧ S.calls.length ≤ 1000 ∧ ∀ H' q (L : List Str), Same H H' → H q = none → H' q = some (.lst (L.map V.str)) → L.Perm (keysL S.calls) → Q (.ref q) H'
theorem ok_order (T : Txt P w K mg) : Has P w K mg base CX0 5 (He.fAd K ("Scene", some "order")) ["self"] (spOrder K) := by
  obtain ⟨fd, F⟩ := T.d_SceneOrder
  obtain ⟨fdR, GR, bR, kR⟩ := ok_rank (base := base) T
  have sc : FnScope ["self"] ["self"] (defScope sSceneOrder) := ⟨rfl, rfl, rfl, by decide +kernel, rfl, by decide +kernel, by decide +kernel⟩
  refine ⟨fd, F.ok sc (fun vs H Q E h => ?_) (fun cdv A outer s H vs Q E hr h => ?_), F.bindsN fun _ _ _ _ _ _ us hl => match us, hl with | [_], _ => rfl, F.kp⟩
  · obtain ⟨sc, S, rfl, _⟩ := h
    rfl
  · obtain ⟨sc, S, rfl, hS, hn, hlen, k⟩ := h
    refine ⟨_, pss_one (ps_ret (pe_callBK (cr_sortedKeyF (by rfl) (by exact hr.units) (by exact hr.in1.in1)) (by rfl) T.z_sorted bt_sorted (pa_cons (pe_fld (pv 0) rfl) pa_nil) (pk_cons (pe_bound (pv 0) rfl) pk_nil))), ?_⟩
    obtain ⟨dx, ca, la, h1, h2, h3⟩ := hS
    refine ⟨_, rfl, sc, _, dx, _, _, rfl, h1, T.c_Scene, T.a_Scene_calls, rfl, _, rfl, sc, _, dx, _, _, rfl, h1, T.c_Scene, T.bm_rank, rfl, fun m hm => ?_⟩
    have e0 : Same H (upd H m (.met (He.fAd K ("Scene", some "rank")) sc)) := Same.new hm
    obtain ⟨H0, eH0⟩ : ∃ H0, H0 = upd H m (.met (He.fAd K ("Scene", some "rank")) sc) := ⟨_, rfl⟩
    have hm0 : H0 m = some (.met (He.fAd K ("Scene", some "rank")) sc) := by rw [eH0]; exact upd_same
    rw [← eH0] at e0 ⊢
    obtain ⟨γ, δ, η, g1, g2⟩ := id h3
    have hkeys : keysL (S.calls.map fun c => (c.1, γ c.1)) = keysL S.calls := keysL_map _ _
    refine ⟨la, m, (keysL S.calls).map fun n => (.str n, rankD n), fun v d => ∃ n ∈ keysL S.calls, v = .str n ∧ d = rankD n, rfl, rfl, .inr (.inr ⟨_, .inl (e0 _ _ g1), ?_⟩), ?_, fun p hp => ?_, ?_, ?_, ?_, fun p hp => ?_, fun H5 q e5 hq => ?_⟩
    · rw [dV_keys, hkeys, List.map_map]
      rfl
    · refine key_met GR (by decide) bR hm0 fun v d H1 Q e hc hq => ?_
      obtain ⟨n, hn', rfl, rfl⟩ := hc
      refine ⟨sc, n, S, rfl, ⟨dx, ca, la, (e0.trans e) _ _ h1, (e0.trans e) _ _ h2, h3.same (e0.trans e)⟩, hn, hn', fun q hq' => hq _ _ (Same.new hq') ?_⟩
      exact Dp.tup (sqT upd_same) (DpAll.cons (Dp.int _) (DpAll.cons (Dp.str _) DpAll.nil))
    · obtain ⟨n, hn', rfl⟩ := List.mem_map.mp hp
      exact ⟨n, hn', rfl, rfl⟩
    · intro d hd d' hd'
      rw [List.map_map] at hd hd'
      obtain ⟨x, _, rfl⟩ := List.mem_map.mp hd
      obtain ⟨y, _, rfl⟩ := List.mem_map.mp hd'
      simp [rankD, alike, alikeAll]
    · refine .inl fun d hd => ?_
      rw [List.map_map] at hd
      obtain ⟨x, _, rfl⟩ := List.mem_map.mp hd
      exact ⟨_, _, rfl⟩
    · rw [List.length_map]
      unfold keysL
      rw [List.length_map]
      omega
    · obtain ⟨n, hn', rfl⟩ := List.mem_map.mp hp
      simp [rankD, PyData.depth, PyData.depthAll]
    · have hp : ((((keysL S.calls).map fun n => (V.str n, rankD n)).mergeSort (dataLe false fun p : V × PyData => p.2)).map (·.1)).Perm ((keysL S.calls).map V.str) := by
        have := (List.mergeSort_perm ((keysL S.calls).map fun n => (V.str n, rankD n)) (dataLe false fun p : V × PyData => p.2)).map (·.1)
        rw [List.map_map] at this
        exact this
      obtain ⟨L, p1, p2⟩ := perm_map_inv' hp
      rw [p2]
      exact k _ q L ((e0.trans e5).upd hq) (none_back (e0.trans e5) hq) upd_same p1
end
end MC
end
section
set_option Elab.async false
set_option linter.all false
set_option maxRecDepth 100000
set_option maxHeartbeats 4000000
/-! Seats, in plain terms. -/
namespace MC
open PySem
structure SS where
  seating : List (Str × Str)
  seated : Str → List Str
structure SS.Ok (masts : List Str) (S : SS) : Prop where
  nd : (keysL S.seating).Nodup
  snd : ∀ m ∈ masts, (S.seated m).Nodup
  con : ∀ m ∈ masts, ∀ n, n ∈ S.seated m ↔ S.seating.lookup n = some m
  min : ∀ n m, S.seating.lookup n = some m → m ∈ masts
def SS.empty : SS := ⟨[], fun _ => []⟩
theorem SS.empty_ok (masts : List Str) : SS.empty.Ok masts := ⟨List.nodup_nil, fun _ _ => List.nodup_nil, fun _ _ n => ⟨fun h => absurd h List.not_mem_nil, fun h => nomatch h⟩, fun n m h => nomatch h⟩
/-- name sits down at mast -/
def SS.sit (S : SS) (n m : Str) : SS := ⟨putL S.seating n m, fun k =>
  let l := if S.seating.lookup n = some k then (S.seated k).erase n else S.seated k
  if k = m then l ++ [n] else l⟩
theorem SS.sit_mem {masts : List Str} {S : SS} (ok : S.Ok masts) {n m k x : Str} (hk : k ∈ masts) : x ∈ (S.sit n m).seated k ↔ (S.sit n m).seating.lookup x = some k := by
  unfold SS.sit
  dsimp only
  rw [lookup_putL]
  have h0 : ∀ y, y ∈ (if S.seating.lookup n = some k then (S.seated k).erase n else S.seated k) ↔ y ≠ n ∧ S.seating.lookup y = some k := by
    intro y
    by_cases h : S.seating.lookup n = some k
    · rw [if_pos h, (ok.snd k hk).mem_erase_iff, ok.con k hk]
    · rw [if_neg h, ok.con k hk]
      exact ⟨fun z => ⟨fun e => h (e ▸ z), z⟩, fun z => z.2⟩
  by_cases hkm : k = m
  · subst hkm
    rw [if_pos rfl, List.mem_append, List.mem_singleton, h0]
    by_cases hx : x = n
    · subst hx
      simp
    · rw [if_neg hx]
      simp [hx]
  · rw [if_neg hkm, h0]
    by_cases hx : x = n
    · subst hx
      simp
      exact fun e => hkm e.symm
    · rw [if_neg hx]
      simp [hx]
theorem SS.sit_ok {masts : List Str} {S : SS} (ok : S.Ok masts) {n m : Str} (hm : m ∈ masts) : (S.sit n m).Ok masts := by
  refine ⟨nodup_putL ok.nd, fun k hk => ?_, fun k hk x => SS.sit_mem ok hk, fun x k h => ?_⟩
  · unfold SS.sit
    dsimp only
    have h0 : (if S.seating.lookup n = some k then (S.seated k).erase n else S.seated k).Nodup := by
      split
      · exact (ok.snd k hk).erase _
      · exact ok.snd k hk
    have h1 : n ∉ (if S.seating.lookup n = some k then (S.seated k).erase n else S.seated k) := by
      split
      · exact fun h => ((ok.snd k hk).mem_erase_iff.mp h).1 rfl
      · next hne => exact fun h => hne ((ok.con k hk n).mp h)
    split
    · rw [List.nodup_append]
      exact ⟨h0, by simp, fun a ha b hb e => h1 (by
        have e2 : a = n := e.trans (List.mem_singleton.mp hb)
        rw [← e2] at ha ⊢
        exact ha)⟩
    · exact h0
  · unfold SS.sit at h
    dsimp only at h
    rw [lookup_putL] at h
    split at h
    · cases h
      exact hm
    · exact ok.min x k h
theorem SS.sit_lookup {S : SS} {n m x : Str} : (S.sit n m).seating.lookup x = if x = n then some m else S.seating.lookup x := lookup_putL
theorem SS.sit_keys {S : SS} {n m x : Str} : x ∈ keysL (S.sit n m).seating ↔ x = n ∨ x ∈ keysL S.seating := mem_keys_putL
end MC
end
section
set_option Elab.async false
set_option linter.all false
set_option maxRecDepth 100000
set_option maxHeartbeats 4000000
/-! The defs, 14: Seats: its making, sit, has_room. -/
namespace MC
open PySem PySem.Spec PyProof.Rows L2
/-- where the seats lie -/
structure SAd where
  se : Addr
  dx : Addr
  sc : Addr
  sa : Addr
  ta : Addr
  lam : Str → Addr
def SAd.mut (x : SAd) (masts : List Str) (b : Addr) : Prop := b = x.sa ∨ ∃ m ∈ masts, b = x.lam m
structure SeatsAt (K : PySem.W.Frag) (H : Hp) (x : SAd) (masts : List Str) (S : SS) : Prop where
  at_ : H x.se = some (.ins (He.ga K "Seats") x.dx [("scene", .ref x.sc), ("seating", .ref x.sa), ("seated", .ref x.ta)])
  ta : H x.ta = some (.dK (dV V.ref (masts.map fun m => (m, x.lam m))))
  sa : H x.sa = some (.dK (dV V.str S.seating))
  lam : ∀ m ∈ masts, H (x.lam m) = some (.lst ((S.seated m).map V.str))
  ne : x.ta ≠ x.sa
  inj : ∀ m ∈ masts, ∀ m' ∈ masts, x.lam m = x.lam m' → m = m'
section
variable {K : PySem.W.Frag} {H H' : Hp} {x : SAd} {masts : List Str} {S : SS}
theorem SeatsAt.same (h : SeatsAt K H x masts S) (e : Same H H') : SeatsAt K H' x masts S := ⟨e _ _ h.at_, e _ _ h.ta, e _ _ h.sa, fun m hm => e _ _ (h.lam m hm), h.ne, h.inj⟩
theorem SeatsAt.get (h : SeatsAt K H x masts S) (hn : masts.Nodup) {m : Str} (hm : m ∈ masts) : DGet H x.ta (.str m) (some (.ref (x.lam m))) :=
  dgetS (.inl h.ta) (lookup_nodup (by rw [List.map_map]; exact (List.map_id masts).symm ▸ hn) (List.mem_map.mpr ⟨m, hm, rfl⟩))
/-- the seating turned -/
theorem SeatsAt.putA (h : SeatsAt K H x masts S) (s' : List (Str × Str)) : SeatsAt K (L2.upd H x.sa (.dK (dV V.str s'))) x masts ⟨s', S.seated⟩ := by
  have n1 : x.se ≠ x.sa := fun e => by have := h.at_; rw [e, h.sa] at this; cases this
  have n3 : ∀ m ∈ masts, x.lam m ≠ x.sa := fun m hm e => by have := h.lam m hm; rw [e, h.sa] at this; cases this
  exact ⟨by rw [upd_ne n1]; exact h.at_, by rw [upd_ne h.ne]; exact h.ta, upd_same, fun m hm => by rw [upd_ne (n3 m hm)]; exact h.lam m hm, h.ne, h.inj⟩
/-- one mast's names turned -/
theorem SeatsAt.putL (h : SeatsAt K H x masts S) {m : Str} (hm : m ∈ masts) (l : List Str) : SeatsAt K (L2.upd H (x.lam m) (.lst (l.map V.str))) x masts ⟨S.seating, fun k => if k = m then l else S.seated k⟩ := by
  have hl := h.lam m hm
  have n1 : x.se ≠ x.lam m := fun e => by have := h.at_; rw [e, hl] at this; cases this
  have n2 : x.ta ≠ x.lam m := fun e => by have := h.ta; rw [e, hl] at this; cases this
  have n3 : x.sa ≠ x.lam m := fun e => by have := h.sa; rw [e, hl] at this; cases this
  refine ⟨by rw [upd_ne n1]; exact h.at_, by rw [upd_ne n2]; exact h.ta, by rw [upd_ne n3]; exact h.sa, fun k hk => ?_, h.ne, h.inj⟩
  dsimp only
  by_cases e : k = m
  · rw [if_pos e, e]
    exact upd_same
  · rw [if_neg e, upd_ne (fun z => e (h.inj _ hk _ hm z))]
    exact h.lam k hk
theorem SeatsAt.len (h : SeatsAt K H x masts S) (ok : S.Ok masts) {m : Str} (hm : m ∈ masts) : (S.seated m).length ≤ S.seating.length := by
  have := nodup_le (ok.snd m hm) (m := keysL S.seating) fun y hy => mem_keysL.mpr ⟨_, (ok.con m hm y).mp hy⟩
  unfold keysL at this
  rw [List.length_map] at this
  exact this
end
theorem SeatsAt.updN {K : PySem.W.Frag} {H : Hp} {x : SAd} {masts : List Str} {S : SS} (h : SeatsAt K H x masts S) {d : Addr} {u : HO} (h1 : d ≠ x.se) (h2 : d ≠ x.ta) (h3 : ¬ x.mut masts d) : SeatsAt K (L2.upd H d u) x masts S :=
  ⟨by rw [upd_ne h1.symm]; exact h.at_, by rw [upd_ne h2.symm]; exact h.ta, by rw [upd_ne (fun e => h3 (.inl e.symm))]; exact h.sa, fun m hm => by rw [upd_ne (fun e => h3 (.inr ⟨m, hm, e.symm⟩))]; exact h.lam m hm, h.ne, h.inj⟩
section
variable {P : Program} {w : World} {K : PySem.W.Frag} {mg : Str → Option Value} {base : Heap}
def spSeatsInit (K : PySem.W.Frag) : Sp := fun vs H Q _ => ∃ (se dx sc : Addr) (S : Scn), vs = [.ref se, .ref sc] ∧ H se = some (.ins (He.ga K "Seats") dx []) ∧ SceneAt K H sc S ∧ S.Ok ∧
  ∀ H' x, x.se = se → x.sc = sc → Off (· = se) H H' → SeatsAt K H' x (keysL S.chan) SS.empty → (∀ b, x.mut (keysL S.chan) b → H b = none) → H x.ta = none → Q .non H'
theorem ok_seatsInit (T : Txt P w K mg) : Has P w K mg base CX0 1 (He.fAd K ("Seats", some "__init__")) ["self", "scene"] (spSeatsInit K) := by
  obtain ⟨fd, F⟩ := T.d_SeatsInit
  have sc : FnScope ["self", "scene", "mast"] ["self", "scene"] (defScope sSeatsInit) := ⟨rfl, rfl, rfl, by decide +kernel, rfl, by decide +kernel, by decide +kernel⟩
  refine ⟨fd, F.ok sc (fun vs H Q E h => ?_) (fun cdv A outer s H vs Q E hr h => ?_), F.bindsN fun _ _ _ _ _ _ us hl => match us, hl with | [_, _], _ => rfl, F.kp⟩
  · obtain ⟨se, dx, sc, S, rfl, _⟩ := h
    rfl
  · obtain ⟨se, dx, scn, S, rfl, hx, hS, ok, k⟩ := h
    refine ⟨_, PSs.nox (pss_cons (ps_fld (pv 0) (pv 1) rfl) (pss_cons (ps_fld (pv 0) pe_dnewK rfl)
      (pss_one (ps_lock (ps_fld (pv 0) (pe_dc (own := [("mast", 2)]) (tk := tVar 2) (tv := tLst tNil) (by rfl) sc.nd (pi_keys (pe_fld (pv 1) rfl))
          (by exact blk_ok (N := ["self", "scene", "mast"]) (sc := defScope sSeatsInit) (by decide +kernel)) (fun _ _ _ _ _ => pg_name (i := 2) sc.nd rfl (Or.inl rfl)) (fun _ _ _ _ _ => pts_nil) (fun _ _ _ _ _ => pv 2) (fun _ _ _ _ _ => pe_lst pa_nil)) rfl))))), ?_⟩
    obtain ⟨dxs, ca, la, s1, s2, s3⟩ := id hS
    have nsc : scn ≠ se := fun e => by rw [e, hx] at s1; injection s1 with s1; injection s1 with _ _ s1; cases s1
    have nca : ca ≠ se := fun e => by rw [e, hx] at s2; cases s2
    refine ⟨_, rfl, _, rfl, se, _, dx, _, rfl, hx, T.c_Seats, T.a_Seats_scene, (by show 0 < 1000; decide), fun sa hsa => ?_⟩
    have nsa : se ≠ sa := fun e => by rw [← e, upd_same] at hsa; cases hsa
    have hsa0 : H sa = none := by rw [upd_ne nsa.symm] at hsa; exact hsa
    refine ⟨_, rfl, se, _, dx, _, rfl, by rw [upd_ne nsa]; exact upd_same, T.c_Seats, T.a_Seats_seating, (by show 1 < 1000; decide), ?_⟩
    obtain ⟨H1, eH1⟩ : ∃ H1, H1 = upd (upd (upd H se (.ins (He.ga K "Seats") dx (putF "scene" (.ref scn) []))) sa (.dK [])) se (.ins (He.ga K "Seats") dx (putF "seating" (.ref sa) (putF "scene" (.ref scn) []))) := ⟨_, rfl⟩
    have o1 : Off (· = se) H H1 := by rw [eH1]; exact Off.upd (A := (· = se)) (Off.new (Off.upd Off.refl rfl) hsa) rfl
    have h1se : H1 se = some (.ins (He.ga K "Seats") dx [("scene", .ref scn), ("seating", .ref sa)]) := by rw [eH1]; exact upd_same
    have h1sa : H1 sa = some (.dK []) := by rw [eH1, upd_ne nsa.symm]; exact upd_same
    have h1ca := o1 _ _ nca s2
    have h1sc := o1 _ _ nsc s1
    rw [← eH1]
    refine ⟨ca, _, h1ca, trivial, fun od => ?_⟩
    obtain ⟨HL, eHL⟩ : ∃ HL, HL = upd H1 ca (.frz od (.dK (dV V.int S.chan))) := ⟨_, rfl⟩
    have hLc : HL ca = some (.frz od (.dK (dV V.int S.chan))) := by rw [eHL]; exact upd_same
    have nscca : scn ≠ ca := fun e => by rw [e, h1ca] at h1sc; cases h1sc
    have hLsc : HL scn = some (.ins (He.ga K "Scene") dxs [("channels", .ref ca), ("calls", .ref la)]) := by rw [eHL, upd_ne nscca]; exact h1sc
    rw [← eHL]
    refine ⟨_, rfl, _, _, _, _, _, rfl, hLsc, T.c_Scene, T.a_Scene_channels, rfl, ca, od, rfl, .inl ⟨_, hLc, fun D hD => ?_⟩⟩
    refine dc_new S.chan walk_keysL (fun _ => true) (·.1) (fun _ b H => b ≠ D ∧ H b = some (.lst [])) hD (by have := ok.cl; omega) ok.cn (fun H' e => e _ _ hLc) (fun a b H H' o h => ⟨h.1, o _ _ h.1 h.2⟩) (fun a b H h => ⟨_, h.2⟩) ?_ ?_
    · rintro i c x H' H2 hc e ⟨kvs, hDk⟩ ⟨rfl, c', hc', rfl⟩
      obtain rfl : c' = c := by
        rw [hc] at hc'
        exact (Option.some.inj hc').symm
      exact ⟨Same.refl _, fun R S' hR hS' => ⟨rfl, yesT ⟨_, rfl, sz0, fun l hl => hR _ l (Same.new hl) rfl hl ⟨(ne_of_none hDk hl).symm, upd_same⟩⟩⟩⟩
    intro H3 lam e3 hD3 hlam hinj hfr
    rw [List.filter_eq_self.mpr fun _ _ => rfl] at hD3
    have nseca : se ≠ ca := nca.symm
    have h3se : H3 se = some (.ins (He.ga K "Seats") dx [("scene", .ref scn), ("seating", .ref sa)]) := e3 _ _ (by rw [eHL, upd_ne nseca]; exact h1se)
    have nsaca : sa ≠ ca := fun e => by rw [e, s2] at hsa0; cases hsa0
    have h3sa : H3 sa = some (.dK []) := e3 _ _ (by rw [eHL, upd_ne nsaca]; exact h1sa)
    have h3c := e3 _ _ hLc
    refine ⟨_, rfl, se, _, dx, _, rfl, h3se, T.c_Seats, T.a_Seats_seated, (by show 2 < 1000; decide), ?_⟩
    refine ⟨by rw [upd_ne nca]; exact h3c, ?_⟩
    have nDca : D ≠ ca := fun e => by rw [e, hLc] at hD; cases hD
    have eHD : H1 D = none := by
      rw [eHL, upd_ne nDca] at hD
      exact hD
    have nDse : D ≠ se := fun e => by rw [e, h1se] at eHD; cases eHD
    have nDsa : D ≠ sa := fun e => by rw [e, h1sa] at eHD; cases eHD
    refine k _ ⟨se, dx, scn, sa, D, lam⟩ rfl rfl (fun b o hb hq => ?_) ⟨?_, ?_, ?_, ?_, nDsa, ?_⟩ ?_ ?_
    · by_cases hbc : b = ca
      · rw [hbc, s2] at hq
        cases hq
        rw [hbc]
        exact upd_same
      · rw [upd_ne hbc, upd_ne hb]
        exact e3 _ _ (by rw [eHL, upd_ne hbc]; exact o1 _ _ hb hq)
    · show upd _ ca _ se = _
      rw [upd_ne nseca]
      exact upd_same
    · show upd _ ca _ D = _
      rw [upd_ne nDca, upd_ne nDse, hD3]
      congr 2
      unfold keysL
      rw [List.map_map]
      rfl
    · show upd _ ca _ sa = _
      rw [upd_ne nsaca, upd_ne nsa.symm]
      exact h3sa
    · intro m hm
      obtain ⟨c, hc, rfl⟩ := List.mem_map.mp hm
      obtain ⟨q1, q2⟩ := hlam c hc rfl
      have z1 : lam c.1 ≠ ca := fun e => by rw [e, h3c] at q2; cases q2
      have z2 : lam c.1 ≠ se := fun e => by rw [e, h3se] at q2; cases q2
      show upd _ ca _ (lam c.1) = _
      rw [upd_ne z1, upd_ne z2]
      exact q2
    · intro m hm m' hm' e
      obtain ⟨c, hc, rfl⟩ := List.mem_map.mp hm
      obtain ⟨c', hc', rfl⟩ := List.mem_map.mp hm'
      exact hinj c hc c' hc' rfl rfl e
    · rintro b (rfl | ⟨m, hm, rfl⟩)
      · exact hsa0
      · obtain ⟨c, hc, rfl⟩ := List.mem_map.mp hm
        have q := hfr c hc rfl
        have z1 : lam c.1 ≠ ca := fun e => by rw [e, hLc] at q; cases q
        rw [eHL, upd_ne z1] at q
        have z2 : lam c.1 ≠ se := fun e => by rw [e, h1se] at q; cases q
        show H (lam c.1) = none
        cases z : H (lam c.1) with
        | none => rfl
        | some o =>
          have := o1 _ _ z2 z
          rw [q] at this
          cases this
    · show H D = none
      cases z : H D with
      | none => rfl
      | some o =>
        have := o1 _ _ nDse z
        rw [eHD] at this
        cases this
theorem map_eraseIdx {α β : Type} (f : α → β) : ∀ (l : List α) (j : Nat), (l.map f).eraseIdx j = (l.eraseIdx j).map f
  | [], _ => rfl
  | _ :: _, 0 => rfl
  | a :: l, j + 1 => by rw [List.map_cons, List.eraseIdx_cons_succ, List.eraseIdx_cons_succ, List.map_cons, map_eraseIdx f l j]
theorem erase_at {n : Str} : ∀ {l : List Str}, n ∈ l → ∃ j, l[j]? = some n ∧ (∀ i, i < j → l[i]? ≠ some n) ∧ l.eraseIdx j = l.erase n
  | [], h => by cases h
  | a :: l, h => by
    by_cases e : a = n
    · subst e
      exact ⟨0, rfl, fun i hi => absurd hi (Nat.not_lt_zero _), by simp⟩
    · obtain ⟨j, h1, h2, h3⟩ := erase_at ((List.mem_cons.mp h).resolve_left fun z => e z.symm)
      refine ⟨j + 1, by rw [List.getElem?_cons_succ]; exact h1, fun i hi => ?_, ?_⟩
      · cases i with
        | zero => rw [List.getElem?_cons_zero]; exact fun z => e (Option.some.inj z)
        | succ i => rw [List.getElem?_cons_succ]; exact h2 i (by omega)
      · rw [List.eraseIdx_cons_succ, h3, List.erase_cons_tail (by simpa using e)]
/-- def sit(self, name, mast) -/
def spSit (K : PySem.W.Frag) : Sp := fun vs H Q _ => ∃ (x : SAd) (masts : List Str) (S : SS) (n m : Str), vs = [.ref x.se, .str n, .str m] ∧ SeatsAt K H x masts S ∧ S.Ok masts ∧ masts.Nodup ∧ m ∈ masts ∧ S.seating.length ≤ 1000 ∧
  ∀ H', Off (x.mut masts) H H' → SeatsAt K H' x masts (S.sit n m) → Q .non H'
theorem ok_sit (T : Txt P w K mg) : Has P w K mg base CX0 1 (He.fAd K ("Seats", some "sit")) ["self", "name", "mast"] (spSit K) := by
  obtain ⟨fd, F⟩ := T.d_SeatsSit
  have sc : FnScope ["self", "name", "mast", "old"] ["self", "name", "mast"] (defScope sSeatsSit) := ⟨rfl, rfl, rfl, by decide +kernel, rfl, by decide +kernel, by decide +kernel⟩
  refine ⟨fd, F.ok sc (fun vs H Q E h => ?_) (fun cdv A outer s H vs Q E hr h => ?_), F.bindsN fun _ _ _ _ _ _ us hl => match us, hl with | [_, _, _], _ => rfl, F.kp⟩
  · obtain ⟨x, masts, S, n, m, rfl, _⟩ := h
    rfl
  · obtain ⟨x, masts, S, n, m, rfl, hS, ok, hn, hm, hl, k⟩ := h
    refine ⟨_, PSs.nox (pss_cons (ps_set (i := 3) sc.nd rfl (Or.inl rfl) (pe_dget1 (by exact hr.u1) (pe_fld (pv 0) rfl) (pv 1) ⟨rfl, rfl, rfl, rfl⟩))
      (pss_cons (ps_if (pt_cmp (pc_notN (pv 3))) (pss_one (ps_expr (pe_bm PySem.F.plainAttrs_list PySem.F.slot_list_remove PySem.F.type_list_remove (mt_removeT Str (by exact Fit.of hr (by decide))) (pe_dget (by exact hr.u1) (pe_fld (pv 0) rfl) (pv 3) (fun _ _ => rfl)) (pa_cons (pv 1) pa_nil)))) pss_nil)
      (pss_cons (ps_dput (by exact hr.u1) (pe_fld (pv 0) rfl) (pv 1) (pv 2) rfl)
      (pss_one (ps_expr (pe_bm PySem.F.plainAttrs_list PySem.F.slot_list_append PySem.F.type_list_append mt_append (pe_dget (by exact hr.u1) (pe_fld (pv 0) rfl) (pv 2) (fun _ _ => rfl)) (pa_cons (pv 1) pa_nil))))))), ?_⟩
    have fin : ∀ (H1 : Hp) (S1 : SS) (v3 : Option V), SeatsAt K H1 x masts S1 → S1.seating = S.seating → (∀ k, S1.seated k = if S.seating.lookup n = some k then (S.seated k).erase n else S.seated k) → Off (x.mut masts) H H1 → ∀ H3, H3 = upd (upd H1 x.sa (.dK (dV V.str (putL S.seating n m)))) (x.lam m) (.lst ((S1.seated m ++ [n]).map V.str)) → Q .non H3 := by
      intro H1 S1 v3 h1 es ed o1 H3 e3
      have := (h1.putA (putL S.seating n m)).putL hm (S1.seated m ++ [n])
      rw [← e3] at this
      refine k H3 ?_ ⟨this.at_, this.ta, this.sa, fun k hk => ?_, this.ne, this.inj⟩
      · rw [e3]
        exact (o1.upd (.inl rfl)).upd (.inr ⟨m, hm, rfl⟩)
      · rw [this.lam k hk]
        congr 3
        unfold SS.sit
        dsimp only
        rw [← ed k]
        split
        · next e => rw [e]
        · rfl
    have stp : ∀ (H1 : Hp) (S1 : SS) (v3 : Option V), SeatsAt K H1 x masts S1 → S1.seating = S.seating → (∀ k, S1.seated k = if S.seating.lookup n = some k then (S.seated k).erase n else S.seated k) → Off (x.mut masts) H H1 →
        (S1.seated m).length ≤ 1000 ∧ DPut H1 x.sa (.str n) (.str m) (upd H1 x.sa (.dK (dV V.str (putL S.seating n m)))) ∧ SeatsAt K (upd H1 x.sa (.dK (dV V.str (putL S.seating n m)))) x masts ⟨putL S.seating n m, S1.seated⟩ := by
      intro H1 S1 v3 h1 es ed o1
      refine ⟨?_, ?_, h1.putA _⟩
      · rw [ed]
        have := hS.len ok hm
        split
        · have := List.length_erase_le (a := n) (l := S.seated m)
          omega
        · omega
      · have := h1.sa
        rw [es] at this
        exact dputL this (by omega)
    refine ⟨_, rfl, x.se, _, x.dx, _, _, rfl, hS.at_, T.c_Seats, T.a_Seats_seating, rfl, x.sa, rfl, .inl ⟨_, .inl hS.sa⟩, _, rfl, _, dgetR (k := n) (.inl hS.sa), ?_⟩
    cases hold : S.seating.lookup n with
    | none =>
      refine ⟨_, rfl, _, rfl, itF ?_⟩
      have ed : ∀ k, S.seated k = if S.seating.lookup n = some k then (S.seated k).erase n else S.seated k := fun k => by rw [hold, if_neg (by intro z; cases z)]
      obtain ⟨q1, q2, q3⟩ := stp H S none hS rfl ed Off.refl
      refine ⟨_, rfl, _, rfl, x.se, _, x.dx, _, _, rfl, hS.at_, T.c_Seats, T.a_Seats_seating, rfl, _, rfl, x.sa, _, rfl, q2, ?_⟩
      refine ⟨_, rfl, x.se, _, x.dx, _, _, rfl, q3.at_, T.c_Seats, T.a_Seats_seated, rfl, _, rfl, x.ta, _, rfl, q3.get hn hm, .inl ⟨rfl, _, sqL (q3.lam m hm)⟩, _, rfl, x.lam m, _, _, rfl, rfl, q3.lam m hm, szL (by rw [List.length_map]; exact Nat.le_trans q1 (by decide)), ?_⟩
      refine fin H S none hS rfl ed Off.refl _ ?_
      rw [List.map_append]
      rfl
    | some old =>
      have hom := ok.min n old hold
      have hin : n ∈ S.seated old := (ok.con old hom n).mpr hold
      obtain ⟨j, j1, j2, j3⟩ := erase_at hin
      refine ⟨_, rfl, _, rfl, itT ?_⟩
      refine ⟨_, rfl, x.se, _, x.dx, _, _, rfl, hS.at_, T.c_Seats, T.a_Seats_seated, rfl, _, rfl, x.ta, _, rfl, hS.get hn hom, .inl ⟨rfl, _, sqL (hS.lam old hom)⟩, _, rfl, x.lam old, _, S.seated old, .str n, n, j, rfl, rfl, hS.lam old hom, ha_strs _, hv_str n, j1, j2, ?_⟩
      have em : ((S.seated old).map V.str).eraseIdx j = ((S.seated old).erase n).map V.str := by rw [← j3, map_eraseIdx]
      rw [em]
      have h1 := hS.putL hom ((S.seated old).erase n)
      have ed : ∀ k, (if k = old then (S.seated old).erase n else S.seated k) = if S.seating.lookup n = some k then (S.seated k).erase n else S.seated k := fun k => by
        rw [hold]
        by_cases e : k = old
        · rw [if_pos e, if_pos (by rw [e]), e]
        · rw [if_neg e, if_neg fun z => e (Option.some.inj z).symm]
      have o1 : Off (x.mut masts) H (upd H (x.lam old) (.lst (((S.seated old).erase n).map V.str))) := Off.refl.upd (.inr ⟨old, hom, rfl⟩)
      obtain ⟨q1, q2, q3⟩ := stp _ _ none h1 rfl ed o1
      refine ⟨_, rfl, _, rfl, x.se, _, x.dx, _, _, rfl, h1.at_, T.c_Seats, T.a_Seats_seating, rfl, _, rfl, x.sa, _, rfl, q2, ?_⟩
      refine ⟨_, rfl, x.se, _, x.dx, _, _, rfl, q3.at_, T.c_Seats, T.a_Seats_seated, rfl, _, rfl, x.ta, _, rfl, q3.get hn hm, .inl ⟨rfl, _, sqL (q3.lam m hm)⟩, _, rfl, x.lam m, _, _, rfl, rfl, q3.lam m hm, szL (by rw [List.length_map]; exact Nat.le_trans q1 (by decide)), ?_⟩
      refine fin _ _ none h1 rfl ed o1 _ ?_
      rw [List.map_append]
      rfl
end
end MC
end
section
set_option Elab.async false
set_option linter.all false
set_option maxRecDepth 100000
set_option maxHeartbeats 4000000
/-! The search for a way, in plain terms. -/
namespace MC
open PySem
theorem sum_sub {f : Str → Nat} : ∀ {l m : List Str}, l.Nodup → (∀ x ∈ l, x ∈ m) → (l.map f).sum ≤ (m.map f).sum
  | [], m, _, _ => Nat.zero_le _
  | a :: l, m, hn, hs => by
    rw [List.nodup_cons] at hn
    have ha : a ∈ m := hs a List.mem_cons_self
    have ih := sum_sub (f := f) (l := l) (m := m.erase a) hn.2 fun x hx => by
      have hne : x ≠ a := fun e => hn.1 (e ▸ hx)
      exact (List.mem_erase_of_ne hne).mpr (hs x (List.mem_cons_of_mem _ hx))
    have hp : (m.map f).sum = f a + ((m.erase a).map f).sum := by
      have := ((List.perm_cons_erase ha).map f).sum_nat
      rw [List.map_cons, List.sum_cons] at this
      exact this
    rw [List.map_cons, List.sum_cons, hp]
    omega
structure WF (masts : List Str) (S : SS) (heard : Str → List Str) (room : Str → Bool) (name : Str) (came : List (Str × Str)) (rest : List Str) : Prop where
  nd : (keysL came).Nodup
  min : ∀ m ∈ keysL came, m ∈ masts
  ch : ∀ pre m o suf, came = pre ++ (m, o) :: suf → o = name ∨ ∃ m' ∈ keysL pre, S.seating.lookup o = some m'
  hr : ∀ c ∈ came, c.1 ∈ heard c.2
  full : ∀ m ∈ keysL came, room m = false
  rs : ∀ o ∈ rest, o = name ∨ ∃ m ∈ keysL came, o ∈ S.seated m
  cl : ∀ o, (o = name ∨ ∃ m ∈ keysL came, o ∈ S.seated m) → o ∈ rest ∨ ∀ m ∈ heard o, m ∈ keysL came
/-- a way that is found: the last mast has room -/
structure Way (masts : List Str) (S : SS) (heard : Str → List Str) (name : Str) (came : List (Str × Str)) : Prop where
  nd : (keysL came).Nodup
  min : ∀ m ∈ keysL came, m ∈ masts
  ch : ∀ pre m o suf, came = pre ++ (m, o) :: suf → o = name ∨ ∃ m' ∈ keysL pre, S.seating.lookup o = some m'
  hr : ∀ c ∈ came, c.1 ∈ heard c.2
/-- no set of full masts that holds all that its calls and name hear -/
def Hall (masts : List Str) (S : SS) (heard : Str → List Str) (room : Str → Bool) (name : Str) : Prop :=
  ¬ ∃ R : List Str, R.Nodup ∧ (∀ m ∈ R, m ∈ masts ∧ room m = false) ∧ (∀ m ∈ R, ∃ o, (o = name ∨ ∃ m' ∈ R, o ∈ S.seated m') ∧ m ∈ heard o) ∧ ∀ o, (o = name ∨ ∃ m ∈ R, o ∈ S.seated m) → ∀ m ∈ heard o, m ∈ R
section
variable {masts : List Str} {S : SS} {heard : Str → List Str} {room : Str → Bool} {name : Str} {came : List (Str × Str)} {rest : List Str}
theorem split_snoc {α : Type} {l pre suf : List α} {a x : α} (h : l ++ [a] = pre ++ x :: suf) : (pre = l ∧ x = a ∧ suf = []) ∨ ∃ suf', l = pre ++ x :: suf' := by
  rcases List.eq_nil_or_concat suf with rfl | ⟨s', b, rfl⟩
  · have := List.append_inj' h rfl
    exact .inl ⟨this.1.symm, (List.cons.inj this.2).1.symm, rfl⟩
  · rw [List.concat_eq_append, ← List.cons_append, ← List.append_assoc] at h
    have := List.append_inj' h rfl
    exact .inr ⟨s', this.1⟩
theorem WF.start : WF masts S heard room name [] [name] := ⟨List.nodup_nil, fun _ h => absurd h List.not_mem_nil, fun pre m o suf h => (by cases pre <;> cases h), fun _ h => absurd h List.not_mem_nil, fun _ h => absurd h List.not_mem_nil, fun o h => .inl (List.mem_singleton.mp h), fun o h => Or.elim h (fun e => .inl (List.mem_singleton.mpr e)) fun ⟨m, hm, _⟩ => absurd hm List.not_mem_nil⟩
theorem keysL_snoc {α : Type} {l : List (Str × α)} {k : Str} {v : α} : keysL (l ++ [(k, v)]) = keysL l ++ [k] := by
  unfold keysL
  rw [List.map_append]
  rfl
theorem chain_snoc (ch : ∀ pre m o suf, came = pre ++ (m, o) :: suf → o = name ∨ ∃ m' ∈ keysL pre, S.seating.lookup o = some m') {m one : Str} (h1 : one = name ∨ ∃ m' ∈ keysL came, S.seating.lookup one = some m') :
    ∀ pre k o suf, came ++ [(m, one)] = pre ++ (k, o) :: suf → o = name ∨ ∃ m' ∈ keysL pre, S.seating.lookup o = some m' := by
  intro pre k o suf h
  rcases split_snoc h with ⟨rfl, e, _⟩ | ⟨suf', e⟩
  · cases e
    exact h1
  · exact ch pre k o suf' e
/-- one more mast, full -/
theorem WF.more (ok : S.Ok masts) (h : WF masts S heard room name came (one :: rest)) {m : Str} (hm : m ∈ masts) (hnew : m ∉ keysL came) (hh : m ∈ heard one) (hf : room m = false) : WF masts S heard room name (came ++ [(m, one)]) (one :: (rest ++ S.seated m)) := by
  have hone := h.rs one List.mem_cons_self
  have hone' : one = name ∨ ∃ m' ∈ keysL came, S.seating.lookup one = some m' := hone.imp id fun ⟨m', h1, h2⟩ => ⟨m', h1, (ok.con m' (h.min m' h1) one).mp h2⟩
  have hk : keysL (came ++ [(m, one)]) = keysL came ++ [m] := keysL_snoc
  refine ⟨?_, ?_, chain_snoc h.ch hone', fun c hc => ?_, ?_, fun o ho => ?_, fun o ho => ?_⟩
  · rw [hk, List.nodup_append]
    exact ⟨h.nd, by simp, fun a ha b hb e => hnew (by rw [← List.mem_singleton.mp hb, ← e]; exact ha)⟩
  · intro k hk'
    rw [hk, List.mem_append, List.mem_singleton] at hk'
    rcases hk' with h' | rfl
    · exact h.min k h'
    · exact hm
  · rw [List.mem_append, List.mem_singleton] at hc
    rcases hc with hc | rfl
    · exact h.hr c hc
    · exact hh
  · intro k hk'
    rw [hk, List.mem_append, List.mem_singleton] at hk'
    rcases hk' with h' | rfl
    · exact h.full k h'
    · exact hf
  · rw [hk]
    rw [List.mem_cons, List.mem_append] at ho
    have old : ∀ o, (o = name ∨ ∃ m ∈ keysL came, o ∈ S.seated m) → o = name ∨ ∃ k ∈ keysL came ++ [m], o ∈ S.seated k := fun o z => z.imp id fun ⟨k, h1, h2⟩ => ⟨k, List.mem_append_left _ h1, h2⟩
    rcases ho with rfl | ho | ho
    · exact old _ hone
    · exact old _ (h.rs o (List.mem_cons_of_mem _ ho))
    · exact .inr ⟨m, List.mem_append_right _ (List.mem_singleton.mpr rfl), ho⟩
  · rw [hk] at ho ⊢
    have old : (o = name ∨ ∃ m ∈ keysL came, o ∈ S.seated m) → o ∈ one :: (rest ++ S.seated m) ∨ ∀ k ∈ heard o, k ∈ keysL came ++ [m] := fun z => by
      rcases h.cl o z with q | q
      · rcases List.mem_cons.mp q with rfl | q
        · exact .inl List.mem_cons_self
        · exact .inl (List.mem_cons_of_mem _ (List.mem_append_left _ q))
      · exact .inr fun k hk => List.mem_append_left _ (q k hk)
    rcases ho with rfl | ⟨k, h1, h2⟩
    · exact old (.inl rfl)
    · rw [List.mem_append, List.mem_singleton] at h1
      rcases h1 with h1 | rfl
      · exact old (.inr ⟨k, h1, h2⟩)
      · exact .inl (List.mem_cons_of_mem _ (List.mem_append_right _ h2))
/-- one more mast, with room -/
theorem WF.found (ok : S.Ok masts) (h : WF masts S heard room name came (one :: rest)) {m : Str} (hm : m ∈ masts) (hnew : m ∉ keysL came) (hh : m ∈ heard one) : Way masts S heard name (came ++ [(m, one)]) := by
  have hone := h.rs one List.mem_cons_self
  have hone' : one = name ∨ ∃ m' ∈ keysL came, S.seating.lookup one = some m' := hone.imp id fun ⟨m', h1, h2⟩ => ⟨m', h1, (ok.con m' (h.min m' h1) one).mp h2⟩
  have hk : keysL (came ++ [(m, one)]) = keysL came ++ [m] := keysL_snoc
  refine ⟨?_, ?_, chain_snoc h.ch hone', fun c hc => ?_⟩
  · rw [hk, List.nodup_append]
    exact ⟨h.nd, by simp, fun a ha b hb e => hnew (by rw [← List.mem_singleton.mp hb, ← e]; exact ha)⟩
  · intro k hk'
    rw [hk, List.mem_append, List.mem_singleton] at hk'
    rcases hk' with h' | rfl
    · exact h.min k h'
    · exact hm
  · rw [List.mem_append, List.mem_singleton] at hc
    rcases hc with hc | rfl
    · exact h.hr c hc
    · exact hh
/-- one is done -/
theorem WF.done (h : WF masts S heard room name came (one :: rest)) (hd : ∀ m ∈ heard one, m ∈ keysL came) : WF masts S heard room name came rest := ⟨h.nd, h.min, h.ch, h.hr, h.full, fun o ho => h.rs o (List.mem_cons_of_mem _ ho), fun o ho => by
  rcases h.cl o ho with q | q
  · rcases List.mem_cons.mp q with rfl | q
    · exact .inr hd
    · exact .inl q
  · exact .inr q⟩
theorem WF.never (ok : S.Ok masts) (h : WF masts S heard room name came []) (hall : Hall masts S heard room name) : False := by
  refine hall ⟨keysL came, h.nd, fun m hm => ⟨h.min m hm, h.full m hm⟩, fun m hm => ?_, fun o ho => (h.cl o ho).resolve_left List.not_mem_nil⟩
  obtain ⟨c, hc, rfl⟩ := List.mem_map.mp hm
  obtain ⟨pre, suf, e⟩ := List.append_of_mem hc
  refine ⟨c.2, ?_, h.hr c hc⟩
  rcases h.ch pre c.1 c.2 suf e with q | ⟨m', h1, h2⟩
  · exact .inl q
  · have hm' : m' ∈ keysL came := by
      rw [e]
      unfold keysL at h1 ⊢
      rw [List.map_append]
      exact List.mem_append_left _ h1
    exact .inr ⟨m', hm', (ok.con m' (h.min m' hm') _).mpr h2⟩
end
end MC
end
section
set_option Elab.async false
set_option linter.all false
set_option maxRecDepth 100000
set_option maxHeartbeats 4000000
/-! The moves along a way, in plain terms. -/
namespace MC
open PySem
/-- the way's moves: mast m (behind pre) is the next to sit down at -/
structure Chn (masts : List Str) (S0 : SS) (heard : Str → List Str) (name : Str) (came : List (Str × Str)) (S : SS) (pre : List (Str × Str)) (m o : Str) (suf : List (Str × Str)) : Prop where
  ok : S.Ok masts
  hrd : ∀ n m, S.seating.lookup n = some m → m ∈ heard n
  at_ : came = pre ++ (m, o) :: suf
  keys : ∀ n, n ∈ keysL S.seating ↔ n ∈ keysL S0.seating
  old : ∀ o, (S0.seating.lookup o = none ∨ ∃ m' ∈ keysL pre, S0.seating.lookup o = some m') → S.seating.lookup o = S0.seating.lookup o
/-- the end -/
structure ChE (masts : List Str) (S0 : SS) (heard : Str → List Str) (name : Str) (S : SS) : Prop where
  ok : S.Ok masts
  hrd : ∀ n m, S.seating.lookup n = some m → m ∈ heard n
  keys : ∀ n, n ∈ keysL S.seating ↔ n = name ∨ n ∈ keysL S0.seating
section
variable {masts : List Str} {S0 S : SS} {heard : Str → List Str} {name : Str} {came pre suf : List (Str × Str)} {m o : Str}
theorem Way.start (w : Way masts S0 heard name (came ++ [(m, o)])) (ok : S0.Ok masts) (hrd : ∀ n m, S0.seating.lookup n = some m → m ∈ heard n) : Chn masts S0 heard name (came ++ [(m, o)]) S0 came m o [] :=
  ⟨ok, hrd, rfl, fun _ => Iff.rfl, fun _ _ => rfl⟩
theorem Chn.get (w : Way masts S0 heard name came) (h : Chn masts S0 heard name came S pre m o suf) : came.lookup m = some o := lookup_nodup w.nd (by rw [h.at_]; exact List.mem_append_right _ List.mem_cons_self)
theorem Chn.mast (w : Way masts S0 heard name came) (h : Chn masts S0 heard name came S pre m o suf) : m ∈ masts := w.min m (List.mem_map.mpr ⟨(m, o), by rw [h.at_]; exact List.mem_append_right _ List.mem_cons_self, rfl⟩)
theorem Chn.hears (w : Way masts S0 heard name came) (h : Chn masts S0 heard name came S pre m o suf) : m ∈ heard o := w.hr (m, o) (by rw [h.at_]; exact List.mem_append_right _ List.mem_cons_self)
theorem Chn.step (w : Way masts S0 heard name came) (hn : name ∉ keysL S0.seating) (h : Chn masts S0 heard name came S pre m o suf) :
    (S.seating.lookup o = none ∧ ChE masts S0 heard name (S.sit o m)) ∨ ∃ m' pre' o' suf', S.seating.lookup o = some m' ∧ pre'.length < pre.length ∧ Chn masts S0 heard name came (S.sit o m) pre' m' o' suf' := by
  have hm := h.mast w
  have hh := h.hears w
  have ok' := SS.sit_ok h.ok (n := o) hm
  have hrd' : ∀ n k, (S.sit o m).seating.lookup n = some k → k ∈ heard n := fun n k q => by
    rw [SS.sit_lookup] at q
    split at q
    · next e =>
      cases q
      rw [e]
      exact hh
    · exact h.hrd n k q
  have hn0 : S0.seating.lookup name = none := lookup_none_iff.mpr hn
  rcases w.ch pre m o suf h.at_ with e | ⟨m', h1, h2⟩
  · left
    have hl : S.seating.lookup o = none := by rw [h.old o (.inl (by rw [e]; exact hn0)), e]; exact hn0
    refine ⟨hl, ok', hrd', fun n => ?_⟩
    rw [SS.sit_keys, h.keys, e]
  · right
    have hl : S.seating.lookup o = some m' := by rw [h.old o (.inr ⟨m', h1, h2⟩)]; exact h2
    obtain ⟨c, hc, ec⟩ := List.mem_map.mp h1
    obtain ⟨p2, s2, ep⟩ := List.append_of_mem hc
    have hat : came = p2 ++ (m', c.2) :: (s2 ++ (m, o) :: suf) := by
      rw [h.at_, ep, ← ec, List.append_assoc]
      rfl
    have hnm : m' ∉ keysL p2 := fun hz => by
      have := w.nd
      rw [hat] at this
      unfold keysL at this hz
      rw [List.map_append, List.nodup_append] at this
      exact this.2.2 m' hz m' List.mem_cons_self rfl
    refine ⟨m', p2, c.2, s2 ++ (m, o) :: suf, hl, by rw [ep, List.length_append, List.length_cons]; omega, ok', hrd', hat, fun n => ?_, fun x hx => ?_⟩
    · rw [SS.sit_keys, h.keys]
      refine ⟨fun z => z.elim (fun e => ?_) id, .inr⟩
      rw [e]
      exact mem_keysL.mpr ⟨_, h2⟩
    · rw [SS.sit_lookup]
      have hxo : x ≠ o := fun e => by
        rw [e, h2] at hx
        rcases hx with q | ⟨k, k1, k2⟩
        · cases q
        · cases k2
          exact hnm k1
      rw [if_neg hxo]
      refine h.old x (hx.imp id fun ⟨k, k1, k2⟩ => ⟨k, ?_, k2⟩)
      rw [ep]
      unfold keysL at k1 ⊢
      rw [List.map_append]
      exact List.mem_append_left _ k1
end
end MC
end
section
set_option Elab.async false
set_option linter.all false
set_option maxRecDepth 100000
set_option maxHeartbeats 4000000
/-! The defs, 15: Seats: has_room, ways_from, add. -/
namespace MC
open PySem PySem.Spec PyProof.Rows L2
def roomB (Sc : Scn) (S : SS) (m : Str) : Bool := decide (((S.seated m).length : Int) < (Sc.chan.lookup m).getD 0)
def heardOf (Sc : Scn) (n : Str) : List Str := (Sc.calls.lookup n).getD []
theorem sum_le {f : Str → Nat} {b : Nat} : ∀ {l : List Str}, (∀ x ∈ l, f x ≤ b) → (l.map f).sum ≤ l.length * b
  | [], _ => Nat.zero_le _
  | a :: l, h => by
    have h1 := h a List.mem_cons_self
    have h2 := sum_le (f := f) (b := b) (l := l) fun x hx => h x (List.mem_cons_of_mem _ hx)
    rw [List.map_cons, List.sum_cons, List.length_cons, Nat.succ_mul]
    omega
/-- how many seats -/
def seatsN (S : SS) (ms : List Str) : Nat := (ms.map fun m => (S.seated m).length).sum
theorem seatsN_snoc {S : SS} {ms : List Str} {m : Str} : seatsN S (ms ++ [m]) = seatsN S ms + (S.seated m).length := by
  unfold seatsN
  rw [List.map_append, List.sum_append]
  simp
theorem _root_.L2.DGet.same {H H' : Hp} {a : Addr} {y : V} {r : Option V} (h : DGet H a y r) (e : Same H H') : DGet H' a y r := by
  rcases h with ⟨kvs, k, h1, h2, h3⟩ | ⟨kvs, k, b, h1, h2, h3, h4⟩
  · exact .inl ⟨kvs, k, e.rd h1, h2, h3⟩
  · exact .inr ⟨kvs, k, b, e.rd h1, h2, e _ _ h3, h4⟩
section
variable {P : Program} {w : World} {K : PySem.W.Frag} {mg : Str → Option Value} {base : Heap}
def spHasRoom (K : PySem.W.Frag) : Sp := fun vs H Q _ => ∃ (x : SAd) (Sc : Scn) (S : SS) (m : Str), vs = [.ref x.se, .str m] ∧ SeatsAt K H x (keysL Sc.chan) S ∧ ChanRd K H x.sc Sc ∧ Sc.Ok ∧ m ∈ keysL Sc.chan ∧
  ∀ H', Same H H' → Q (.bl (roomB Sc S m)) H'
theorem ok_hasRoom (T : Txt P w K mg) : Has P w K mg base CX0 1 (He.fAd K ("Seats", some "has_room")) ["self", "mast"] (spHasRoom K) := by
  obtain ⟨fd, F⟩ := T.d_SeatsHasRoom
  have sc : FnScope ["self", "mast"] ["self", "mast"] (defScope sSeatsHasRoom) := ⟨rfl, rfl, rfl, by decide +kernel, rfl, by decide +kernel, by decide +kernel⟩
  refine ⟨fd, F.ok sc (fun vs H Q E h => ?_) (fun cdv A outer s H vs Q E hr h => ?_), F.bindsN fun _ _ _ _ _ _ us hl => match us, hl with | [_, _], _ => rfl, F.kp⟩
  · obtain ⟨x, Sc, S, m, rfl, _⟩ := h
    rfl
  · obtain ⟨x, Sc, S, m, rfl, hS, hC, ok, hm, k⟩ := h
    refine ⟨_, pss_one (ps_ret (pe_cmpR op_lt (pe_callB call_len_seq (by rfl) T.z_len bt_len (pa_cons (pe_dget (by exact hr.u1) (pe_fld (pv 0) rfl) (pv 1) (fun _ _ => rfl)) pa_nil)) (pe_dget (by exact hr.u1) (pe_fld (pe_fld (pv 0) rfl) rfl) (pv 1) (fun _ _ => rfl)) (nomark _))), ?_⟩
    obtain ⟨dx, ca, la, h1, h2⟩ := hC
    obtain ⟨v, hv⟩ := mem_keysL.mp hm
    have hk := k H (Same.refl _)
    refine ⟨_, rfl, x.se, _, x.dx, _, _, rfl, hS.at_, T.c_Seats, T.a_Seats_seated, rfl, _, rfl, x.ta, _, rfl, hS.get ok.cn hm, x.lam m, _, rfl, .inl (sqL (hS.lam m hm)), ?_⟩
    refine ⟨_, rfl, x.se, _, x.dx, _, _, rfl, hS.at_, T.c_Seats, T.a_Seats_scene, rfl, x.sc, _, dx, _, _, rfl, h1, T.c_Scene, T.a_Scene_channels, rfl, _, rfl, ca, _, rfl, dgetS h2 hv, _, _, rfl, rfl, ?_⟩
    unfold roomB at hk
    rw [hv] at hk
    rw [List.length_map]
    exact hk
/-- the search's loop -/
def WW (x : SAd) (Sc : Scn) (S : SS) (name : Str) (ca re : Addr) (H : Hp) (mu : Nat) (σ : L2.St) (H' : Hp) : Prop := ∃ (came : List (Str × Str)) (rest : List Str) (v4 v5 : Option V), σ = [some (.ref x.se), some (.str name), some (.ref ca), some (.ref re), v4, v5] ∧ Same H H' ∧ H' ca = some (.dK (dV V.str came)) ∧ H' re = some (.lst (rest.map V.str)) ∧
  WF (keysL Sc.chan) S (heardOf Sc) (roomB Sc S) name came rest ∧ mu = rest.length + (seatsN S (keysL Sc.chan) - seatsN S (keysL came)) ∧ mu ≤ 8001
/-- def ways_from(self, name): a way is found -/
def spWaysFrom (K : PySem.W.Frag) : Sp := fun vs H Q _ => ∃ (x : SAd) (Sc : Scn) (S : SS) (name : Str), vs = [.ref x.se, .str name] ∧ SeatsAt K H x (keysL Sc.chan) S ∧ SceneAt K H x.sc Sc ∧ Sc.Ok ∧ S.Ok (keysL Sc.chan) ∧ name ∈ keysL Sc.calls ∧ (∀ n ∈ keysL S.seating, n ∈ keysL Sc.calls) ∧ S.seating.length ≤ 1000 ∧
  Hall (keysL Sc.chan) S (heardOf Sc) (roomB Sc S) name ∧
  ∀ H' q ca came m o, Same H H' → H' q = some (.tup [.ref ca, .str m]) → H ca = none → H' ca = some (.dK (dV V.str (came ++ [(m, o)]))) → Way (keysL Sc.chan) S (heardOf Sc) name (came ++ [(m, o)]) → Q (.ref q) H'
theorem ok_waysFrom (T : Txt P w K mg) : Has P w K mg base CX0 2 (He.fAd K ("Seats", some "ways_from")) ["self", "name"] (spWaysFrom K) := by
  obtain ⟨fd, F⟩ := T.d_SeatsWaysFrom
  obtain ⟨fdR, GR, bR, kR⟩ := ok_hasRoom (base := base) T
  have sc : FnScope ["self", "name", "came", "rest", "one", "mast"] ["self", "name"] (defScope sSeatsWaysFrom) := ⟨rfl, rfl, rfl, by decide +kernel, rfl, by decide +kernel, by decide +kernel⟩
  refine ⟨fd, F.ok sc (fun vs H Q E h => ?_) (fun cdv A outer s H vs Q E hr h => ?_), F.bindsN fun _ _ _ _ _ _ us hl => match us, hl with | [_, _], _ => rfl, F.kp⟩
  · obtain ⟨x, Sc, S, m, rfl, _⟩ := h
    rfl
  · obtain ⟨x, Sc, S, name, rfl, hS, hC, ok, sok, hnm, hsub, hsl, hall, k⟩ := h
    refine ⟨_, PSs.nox (pss_cons (ps_par (i := 2) (j := 3) (by rfl) sc.nd rfl rfl (by decide) rfl rfl (pa_cons pe_dnewK (pa_cons (pe_lst (pa_cons (pv 1) pa_nil)) pa_nil)) (by rfl))
      (pss_cons (ps_while PassesOwn.never (pt_cmpR (op_neT (List Str) (by exact Fit.of hr (by decide))) (pv 3) (pe_lst pa_nil) (nomark _))
        (pss_cons (ps_set (i := 4) sc.nd rfl (Or.inl rfl) (pe_bm PySem.F.plainAttrs_list PySem.F.slot_list_pop PySem.F.type_list_pop mt_popAt (pv 3) (pa_cons pe_int pa_nil)))
        (pss_one (ps_for PassesOwn.never rfl (pi_tup (pe_fld (pe_dget (by exact hr.u1) (pe_fld (pe_fld (pv 0) rfl) rfl) (pv 4) (fun _ _ => rfl)) rfl)) (pg_name (i := 5) sc.nd rfl (Or.inl rfl))
          (pss_one (ps_if (pt_cmp (pc_dnotin (by exact hr.u1) (pv 5) (pv 2)))
            (pss_cons (ps_dput (by exact hr.u1) (pv 2) (pv 5) (pv 4) rfl)
            (pss_cons (ps_if (pt_val (pe_meth (pv 0) T.c_Seats T.m_Seats_has_room GR hr bR .nil pass0 (pa_cons (pv 5) pa_nil))) (pss_one (ps_ret (pe_tup (pa_cons (pv 2) (pa_cons (pv 5) pa_nil))))) pss_nil)
            (pss_one (ps_expr (pe_bm PySem.F.plainAttrs_list PySem.F.slot_list_extend PySem.F.type_list_extend mt_extend (pv 3) (pa_cons (pe_dget (by exact hr.u1) (pe_fld (pv 0) rfl) (pv 5) (fun _ _ => rfl)) pa_nil)))))) pss_nil))))))
      (pss_one ps_never))), ?_⟩
    obtain ⟨dx, sca, la, s1, s2, s3⟩ := id hC
    have hT : seatsN S (keysL Sc.chan) ≤ 8 * 1000 := by
      refine Nat.le_trans (sum_le (b := 1000) fun m hm => Nat.le_trans (hS.len sok hm) hsl) ?_
      have : (keysL Sc.chan).length ≤ 8 := by unfold keysL; rw [List.length_map]; exact ok.cl
      exact Nat.mul_le_mul_right _ this
    refine fun ca hca => ⟨_, rfl, sz1, fun re hre => ⟨_, _, rfl, ?_⟩⟩
    have nre : ca ≠ re := fun e => by rw [← e, upd_same] at hre; cases hre
    have hre0 : H re = none := by rw [upd_ne nre.symm] at hre; exact hre
    refine ⟨WW x Sc S name ca re H, ⟨1 + seatsN S (keysL Sc.chan), [], [name], none, none, rfl, (Same.new hca).upd hre, by rw [upd_ne nre]; exact upd_same, upd_same, WF.start, ?_, ?_⟩, ?_⟩
    · show 1 + _ = 1 + (_ - 0)
      rfl
    · omega
    rintro mu σ H1 ⟨came, rest, v4, v5, rfl, e, hc1, hr1, wf, hmu, hmb⟩
    refine ⟨_, rfl, sz0, fun em hem => ⟨rest, [], hv_list (sqL (by rw [upd_ne (ne_of_none hr1 hem)]; exact hr1)) (ha_strs _), hv_list (sqL upd_same) ha_nil, _, rfl, ?_⟩⟩
    have e1 : Same H1 (upd H1 em (.lst [])) := Same.new hem
    refine itB (fun hc => ?_) fun hc => ?_
    · obtain ⟨one, rest, rfl⟩ : ∃ a r, rest = a :: r := by
        cases rest with
        | nil => simp at hc
        | cons a r => exact ⟨a, r, rfl⟩
      have hr2 := e1 _ _ hr1
      have hc2 := e1 _ _ hc1
      refine ⟨fun σ' H' => ∃ m', m' < mu ∧ WW x Sc S name ca re H m' σ' H', fun σ' H' h => h, ?_⟩
      refine ⟨_, rfl, .inl ⟨rfl, _, sqL hr2⟩, re, _, 0, 0, .str one, rfl, rfl, hr2, by decide, by decide, by rw [List.length_map]; exact seqIx0 _, rfl, ?_⟩
      obtain ⟨H2, eH2⟩ : ∃ H2, H2 = upd (upd H1 em (.lst [])) re (.lst (((one :: rest).map V.str).eraseIdx 0)) := ⟨_, rfl⟩
      have e2 : Same H H2 := by rw [eH2]; exact (e.trans e1).turn hre0
      have h2r : H2 re = some (.lst (rest.map V.str)) := by rw [eH2]; exact upd_same
      have h2c : H2 ca = some (.dK (dV V.str came)) := by rw [eH2, upd_ne nre]; exact hc2
      rw [← eH2]
      have hone : one ∈ keysL Sc.calls := by
        rcases wf.rs one List.mem_cons_self with q | ⟨m', q1, q2⟩
        · rw [q]
          exact hnm
        · exact hsub one (mem_keysL.mpr ⟨_, (sok.con m' (wf.min m' q1) one).mp q2⟩)
      obtain ⟨hs, hlk⟩ := mem_keysL.mp hone
      have hho : heardOf Sc one = hs := by unfold heardOf; rw [hlk]; rfl
      obtain ⟨c, δ, η, g1, g2, g3⟩ := s3.get ok.ln hlk
      have hsm : ∀ m ∈ hs, m ∈ keysL Sc.chan := (ok.lw _ (lookup_mem hlk)).2.2.1
      have hS2 := hS.same e2
      refine ⟨_, rfl, x.se, _, x.dx, _, _, rfl, hS2.at_, T.c_Seats, T.a_Seats_scene, rfl, x.sc, _, dx, _, _, rfl, e2 _ _ s1, T.c_Scene, T.a_Scene_calls, rfl, _, rfl, la, _, rfl, g1.same e2, c, _, δ, _, _, rfl, e2 _ _ g2, T.c_Call, T.a_Call_heard, rfl, η, rfl, ⟨_, sqT (e2 _ _ g3)⟩, ?_⟩
      have hwf0 : WF (keysL Sc.chan) S (heardOf Sc) (roomB Sc S) name came (one :: rest) := wf
      refine for_it (walk_tupM (K := K) (xs := hs) (f := V.str)) (fun i σ' H' => ∃ (came : List (Str × Str)) (rest : List Str) (v5 : Option V), σ' = [some (.ref x.se), some (.str name), some (.ref ca), some (.ref re), some (.str one), v5] ∧ Same H H' ∧ H' ca = some (.dK (dV V.str came)) ∧ H' re = some (.lst (rest.map V.str)) ∧
          WF (keysL Sc.chan) S (heardOf Sc) (roomB Sc S) name came (one :: rest) ∧ (∀ m ∈ hs.take i, m ∈ keysL came) ∧ mu = (one :: rest).length + (seatsN S (keysL Sc.chan) - seatsN S (keysL came)))
        ⟨came, rest, v5, rfl, e2, h2c, h2r, wf, (fun m hm => by simp at hm), hmu⟩ (fun i σ' H' _ ⟨_, _, _, _, e, _⟩ => sqT (e _ _ g3)) ?_ ?_
      · rintro i y σ' H3 H4 hi ⟨came, rest, v5, rfl, e3, hc3, hr3, wf, hdone, hmu⟩ ⟨rfl, hx⟩
        obtain ⟨a, ha⟩ : ∃ a, hs[i]? = some a := ⟨_, List.getElem?_eq_getElem hi⟩
        obtain rfl : y = .str a := by
          rw [List.getElem?_map, ha] at hx
          exact (Option.some.inj hx).symm
        have hah : a ∈ hs := List.mem_of_getElem? ha
        have ham := hsm a hah
        have htk : hs.take (i + 1) = hs.take i ++ [a] := by rw [List.take_add_one, ha] <;> rfl
        have hcl : came.length ≤ 8 := by
          have := nodup_le wf.nd wf.min
          unfold keysL at this
          rw [List.length_map, List.length_map] at this
          have := ok.cl
          omega
        refine ⟨_, rfl, _, rfl, ca, _, rfl, dgetR (k := a) (.inl hc3), _, rfl, ?_⟩
        by_cases hin : a ∈ keysL came
        · obtain ⟨v, hv⟩ := mem_keysL.mp hin
          rw [hv]
          refine itF ⟨came, rest, _, rfl, e3, hc3, hr3, wf, fun m hm => ?_, hmu⟩
          rw [htk, List.mem_append, List.mem_singleton] at hm
          rcases hm with hm | rfl
          · exact hdone m hm
          · exact hin
        · rw [lookup_none_iff.mpr hin]
          have hput : putL came a one = came ++ [(a, one)] := by unfold putL; rw [if_neg hin]
          have hdp := dputL (f := V.str) (k := a) (v := one) hc3 (by omega)
          rw [hput] at hdp
          refine itT ⟨_, rfl, _, rfl, _, rfl, ca, _, rfl, hdp, ?_⟩
          obtain ⟨H5, eH5⟩ : ∃ H5, H5 = upd H4 ca (.dK (dV V.str (came ++ [(a, one)]))) := ⟨_, rfl⟩
          have e5 : Same H H5 := by rw [eH5]; exact e3.turn hca
          have hc5 : H5 ca = some (.dK (dV V.str (came ++ [(a, one)]))) := by rw [eH5]; exact upd_same
          have hr5 : H5 re = some (.lst (rest.map V.str)) := by rw [eH5, upd_ne nre.symm]; exact hr3
          rw [← eH5]
          have hS5 := hS.same e5
          refine ⟨_, rfl, x.se, x.dx, _, rfl, hS5.at_, rfl, _, rfl, x, Sc, S, a, rfl, hS5, (hC.same e5).cr, ok, ham, fun H6 e6 => ⟨_, rfl, itB (fun hb => ?_) fun hb => ?_⟩⟩
          · refine ⟨_, rfl, _, rfl, sz2, fun t ht => ?_⟩
            exact k _ t ca came a one ((e5.trans e6).upd ht) upd_same hca (by rw [upd_ne (ne_of_none (e6 _ _ hc5) ht)]; exact e6 _ _ hc5) (wf.found sok ham hin (by rw [hho]; exact hah))
          · have hr6 := e6 _ _ hr5
            have hc6 := e6 _ _ hc5
            have hS6 := hS5.same e6
            have hll := hS.len sok ham
            refine ⟨_, rfl, .inl ⟨rfl, _, sqL hr6⟩, _, rfl, x.se, _, x.dx, _, _, rfl, hS6.at_, T.c_Seats, T.a_Seats_seated, rfl, _, rfl, x.ta, _, rfl, hS6.get ok.cn ham, re, x.lam a, _, _, rfl, rfl, hr6, hS6.lam a ham, szN (by
              rw [List.length_map, List.length_map]
              rw [List.length_cons] at hmu
              omega), ?_⟩
            have wf' := wf.more sok ham hin (by rw [hho]; exact hah) hb
            refine ⟨came ++ [(a, one)], rest ++ S.seated a, _, rfl, (e5.trans e6).turn hre0, by rw [upd_ne nre]; exact hc6, by rw [upd_same, List.map_append], wf', fun m hm => ?_, ?_⟩
            · rw [keysL_snoc]
              rw [htk, List.mem_append, List.mem_singleton] at hm
              rcases hm with hm | rfl
              · exact List.mem_append_left _ (hdone m hm)
              · exact List.mem_append_right _ (List.mem_singleton.mpr rfl)
            · have hle : seatsN S (keysL (came ++ [(a, one)])) ≤ seatsN S (keysL Sc.chan) := sum_sub wf'.nd wf'.min
              rw [keysL_snoc, seatsN_snoc] at hle ⊢
              rw [List.length_cons] at hmu ⊢
              rw [List.length_append]
              omega
      · rintro σ' H3 ⟨came, rest, v5, rfl, e3, hc3, hr3, wf, hdone, hmu⟩
        rw [List.take_length] at hdone
        refine ⟨_, ?_, came, rest, _, _, rfl, e3, hc3, hr3, wf.done (by rw [hho]; exact hdone), rfl, ?_⟩
        · rw [hmu, List.length_cons]
          omega
        · rw [List.length_cons] at hmu
          omega
    · have : rest = [] := by
        rw [decide_eq_false_iff_not] at hc
        exact Classical.byContradiction fun h => hc h
      rw [this] at wf
      exact (wf.never sok hall).elim
/-- the moves' loop -/
def AW (K : PySem.W.Frag) (x : SAd) (Sc : Scn) (S0 : SS) (name : Str) (came : List (Str × Str)) (ca : Addr) (H : Hp) (mu : Nat) (σ : L2.St) (H' : Hp) : Prop := ∃ (S : SS) (v4 v5 : Option V), Off (x.mut (keysL Sc.chan)) H H' ∧ SeatsAt K H' x (keysL Sc.chan) S ∧ H' ca = some (.dK (dV V.str came)) ∧ (∀ b, x.mut (keysL Sc.chan) b → b ≠ ca) ∧
  ((∃ pre m o suf, σ = [some (.ref x.se), some (.str name), some (.ref ca), some (.str m), v4, v5] ∧ mu = pre.length + 1 ∧ Chn (keysL Sc.chan) S0 (heardOf Sc) name came S pre m o suf) ∨
    (σ = [some (.ref x.se), some (.str name), some (.ref ca), some .non, v4, v5] ∧ mu = 0 ∧ ChE (keysL Sc.chan) S0 (heardOf Sc) name S))
/-- def add(self, name): always done -/
def spAdd (K : PySem.W.Frag) : Sp := fun vs H Q _ => ∃ (x : SAd) (Sc : Scn) (S : SS) (name : Str), vs = [.ref x.se, .str name] ∧ SeatsAt K H x (keysL Sc.chan) S ∧ SceneAt K H x.sc Sc ∧ Sc.Ok ∧ S.Ok (keysL Sc.chan) ∧ name ∈ keysL Sc.calls ∧ (∀ n ∈ keysL S.seating, n ∈ keysL Sc.calls) ∧ S.seating.length ≤ 900 ∧
  name ∉ keysL S.seating ∧ (∀ n m, S.seating.lookup n = some m → m ∈ heardOf Sc n) ∧ Hall (keysL Sc.chan) S (heardOf Sc) (roomB Sc S) name ∧
  ∀ H' S', Off (x.mut (keysL Sc.chan)) H H' → SeatsAt K H' x (keysL Sc.chan) S' → ChE (keysL Sc.chan) S (heardOf Sc) name S' → Q (.bl true) H'
theorem keysL_len {α : Type} {l : List (Str × α)} : (keysL l).length = l.length := List.length_map _
theorem ok_add (T : Txt P w K mg) : Has P w K mg base CX0 3 (He.fAd K ("Seats", some "add")) ["self", "name"] (spAdd K) := by
  obtain ⟨fd, F⟩ := T.d_SeatsAdd
  obtain ⟨fdW, GW, bW, kW⟩ := ok_waysFrom (base := base) T
  obtain ⟨fdS, GS, bS, kS⟩ := ok_sit (base := base) T
  have sc : FnScope ["self", "name", "came", "mast", "one", "before"] ["self", "name"] (defScope sSeatsAdd) := ⟨rfl, rfl, rfl, by decide +kernel, rfl, by decide +kernel, by decide +kernel⟩
  refine ⟨fd, F.ok sc (fun vs H Q E h => ?_) (fun cdv A outer s H vs Q E hr h => ?_), F.bindsN fun _ _ _ _ _ _ us hl => match us, hl with | [_, _], _ => rfl, F.kp⟩
  · obtain ⟨x, Sc, S, name, rfl, _⟩ := h
    rfl
  · obtain ⟨x, Sc, S, name, rfl, hS, hC, ok, sok, hnm, hsub, hsl, hnew, hhd, hall, k⟩ := h
    refine ⟨_, PSs.nox (pss_cons (ps_asg (pe_meth (pv 0) T.c_Seats T.m_Seats_ways_from GW hr bW .nil pass0 (pa_cons (pv 1) pa_nil)) (pg_tup (by rfl) (pgs_cons (pg_name (i := 2) sc.nd rfl (Or.inl rfl)) (pgs_cons (pg_name (i := 3) sc.nd rfl (Or.inl rfl)) pgs_nil))))
      (pss_cons (ps_if (pt_cmp (pc_isN (pv 3))) (pss_one ps_never) pss_nil)
      (pss_cons (ps_while PassesOwn.never (pt_cmp (pc_notN (pv 3)))
        (pss_cons (ps_set (i := 4) sc.nd rfl (Or.inl rfl) (pe_dget (by exact hr.u1) (pv 2) (pv 3) (fun _ _ => rfl)))
        (pss_cons (ps_set (i := 5) sc.nd rfl (Or.inl rfl) (pe_dget1 (by exact hr.u1) (pe_fld (pv 0) rfl) (pv 4) ⟨rfl, rfl, rfl, rfl⟩))
        (pss_cons (ps_expr (pe_meth (pv 0) T.c_Seats T.m_Seats_sit GS (hr.mono (by decide)) bS .nil pass0 (pa_cons (pv 4) (pa_cons (pv 3) pa_nil))))
        (pss_one (ps_set (i := 3) sc.nd rfl (Or.inl rfl) (pv 5)))))))
      (pss_one (ps_ret pe_bl))))), ?_⟩
    refine ⟨_, rfl, x.se, x.dx, _, rfl, hS.at_, rfl, _, rfl, x, Sc, S, name, rfl, hS, hC, ok, sok, hnm, hsub, by omega, hall, fun H1 q ca came m o e1 hq hca hc1 way => ?_⟩
    have hmf : ∀ b, x.mut (keysL Sc.chan) b → b ≠ ca := by
      rintro b (rfl | ⟨m, hm, rfl⟩) e
      · have := hS.sa
        rw [e, hca] at this
        cases this
      · have := hS.lam m hm
        rw [e, hca] at this
        cases this
    refine ⟨q, _, rfl, sqT hq, rfl, _, _, rfl, _, _, rfl, rfl, _, rfl, _, rfl, itF ?_⟩
    refine ⟨AW K x Sc S name (came ++ [(m, o)]) ca H, ⟨came.length + 1, S, none, none, Off.same e1, hS.same e1, hc1, hmf, .inl ⟨came, m, o, [], rfl, rfl, way.start sok hhd⟩⟩, ?_⟩
    rintro mu σ H2 ⟨S2, v4, v5, o2, hS2, hc2, _, ⟨pre, m2, on, suf, rfl, hmu, ch⟩ | ⟨rfl, hmu, ch⟩⟩
    · refine ⟨_, rfl, _, rfl, itT ⟨fun σ' H' => ∃ m', m' < mu ∧ AW K x Sc S name (came ++ [(m, o)]) ca H m' σ' H', fun σ' H' h => h, ?_⟩⟩
      have hlen2 : S2.seating.length ≤ 901 := by
        have q1 := nodup_le ch.ok.nd (m := keysL S.seating) fun n hn => (ch.keys n).mp hn
        rw [keysL_len, keysL_len] at q1
        omega
      refine ⟨_, rfl, _, rfl, ca, _, rfl, dgetS (.inl hc2) (ch.get way), ?_⟩
      refine ⟨_, rfl, x.se, _, x.dx, _, _, rfl, hS2.at_, T.c_Seats, T.a_Seats_seating, rfl, x.sa, rfl, .inl ⟨_, .inl hS2.sa⟩, _, rfl, _, dgetR (k := on) (.inl hS2.sa), ?_⟩
      refine ⟨_, rfl, x.se, x.dx, _, rfl, hS2.at_, rfl, _, rfl, _, rfl, x, keysL Sc.chan, S2, on, m2, rfl, hS2, ch.ok, ok.cn, ch.mast way, by omega, fun H3 o3 hS3 => ?_⟩
      have hc3 := o3 ca _ (fun h => hmf _ h rfl) hc2
      rcases ch.step way hnew with ⟨hl, ce⟩ | ⟨m', pre', o', suf', hl, hlt, ch'⟩
      · rw [hl]
        exact ⟨_, rfl, 0, by omega, _, _, _, o2.trans o3, hS3, hc3, hmf, .inr ⟨rfl, rfl, ce⟩⟩
      · rw [hl]
        exact ⟨_, rfl, pre'.length + 1, by omega, _, _, _, o2.trans o3, hS3, hc3, hmf, .inl ⟨pre', m', o', suf', rfl, rfl, ch'⟩⟩
    · exact ⟨_, rfl, _, rfl, itF (k H2 S2 o2 hS2 ch)⟩
end
end MC
end
section
set_option Elab.async false
set_option linter.all false
set_option maxRecDepth 100000
set_option maxHeartbeats 4000000
/-! The defs, 16: Kept. -/
namespace MC
open PySem PySem.Spec PyProof.Rows L2
/-- every call of the scene finds a seat, however the others sit -/
def Fits (Sc : Scn) : Prop := ∀ (S : SS) (name : Str), S.Ok (keysL Sc.chan) → (∀ n m, S.seating.lookup n = some m → m ∈ heardOf Sc n) → (∀ n ∈ keysL S.seating, n ∈ keysL Sc.calls) → name ∈ keysL Sc.calls → name ∉ keysL S.seating → Hall (keysL Sc.chan) S (heardOf Sc) (roomB Sc S) name
/-- all calls are seated where they are heard -/
structure Full (Sc : Scn) (L : List (Str × Str)) : Prop where
  nd : (keysL L).Nodup
  keys : ∀ n, n ∈ keysL L ↔ n ∈ keysL Sc.calls
  hrd : ∀ n m, L.lookup n = some m → m ∈ heardOf Sc n ∧ m ∈ keysL Sc.chan
section
variable {P : Program} {w : World} {K : PySem.W.Frag} {mg : Str → Option Value} {base : Heap}
def spKeptInit (K : PySem.W.Frag) : Sp := fun vs H Q _ => ∃ (kp dx sc : Addr) (Sc : Scn), vs = [.ref kp, .ref sc] ∧ H kp = some (.ins (He.ga K "Kept") dx []) ∧ SceneAt K H sc Sc ∧ Sc.Ok ∧ Fits Sc ∧
  ∀ H' l D pp L, Off (· = kp) H H' → H' kp = some (.ins (He.ga K "Kept") dx [("lot", l), ("seating", .ref D), ("papers", pp)]) → H' D = some (.dK (dV V.str L)) → Full Sc L → Q .non H'
theorem ok_keptInit (T : Txt P w K mg) : Has P w K mg base CX0 6 (He.fAd K ("Kept", some "__init__")) ["self", "scene"] (spKeptInit K) := by
  obtain ⟨fd, F⟩ := T.d_KeptInit
  obtain ⟨fdI, GI, bI, kI⟩ := ok_seatsInit (base := base) T
  obtain ⟨fdA, GA, bA, kA⟩ := ok_add (base := base) T
  obtain ⟨fdO, GO, bO, kO⟩ := ok_order (base := base) T
  have sc : FnScope ["self", "scene", "seats", "papers", "name"] ["self", "scene"] (defScope sKeptInit) := ⟨rfl, rfl, rfl, by decide +kernel, rfl, by decide +kernel, by decide +kernel⟩
  refine ⟨fd, F.ok sc (fun vs H Q E h => ?_) (fun cdv A outer s H vs Q E hr h => ?_), F.bindsN fun _ _ _ _ _ _ us hl => match us, hl with | [_, _], _ => rfl, F.kp⟩
  · obtain ⟨kp, dx, scn, Sc, rfl, _⟩ := h
    rfl
  · obtain ⟨kp, dx, scn, Sc, rfl, hkp, hC, ok, fits, k⟩ := h
    refine ⟨_, PSs.nox (pss_cons (ps_asg (pe_tup (pa_cons (pe_make T.k_Seats GI (hr.mono (by decide)) (by rfl) T.g_Seats bI .nil pass0 (pa_cons (pv 1) pa_nil)) (pa_cons pe_dnewK pa_nil))) (pg_tup (by rfl) (pgs_cons (pg_name (i := 2) sc.nd rfl (by first | exact Or.inl rfl | exact Or.inr rfl)) (pgs_cons (pg_name (i := 3) sc.nd rfl (by first | exact Or.inl rfl | exact Or.inr rfl)) pgs_nil))))
      (pss_cons (ps_for PassesOwn.never rfl (pi_list (pe_meth0 (pv 1) T.c_Scene T.m_Scene_order GO hr bO .nil pass0)) (pg_name (i := 4) sc.nd rfl (by first | exact Or.inl rfl | exact Or.inr rfl))
        (pss_one (ps_if (pt_not (pt_val (pe_meth (pv 2) T.c_Seats T.m_Seats_add GA (hr.mono (by decide)) bA .nil pass0 (pa_cons (pv 4) pa_nil)))) (pss_one ps_never) pss_nil)))
      (pss_cons (ps_fld (pv 0) (pe_callTy call_tuple_of (by rfl) T.z_tuple bt_tuple (pa_cons (pe_callB (cr_sortedStr (by rfl) (by exact hr.units)) (by rfl) T.z_sorted bt_sorted (pa_cons (pe_fld (pv 2) rfl) pa_nil)) pa_nil)) rfl)
      (pss_cons (ps_fld (pv 0) (pe_dc (own := [("name", 4)]) (tk := tVar 4) (tv := tDGet (tFld K (tVar 2) "seating") (tVar 4)) (by rfl) sc.nd (pi_tup (pe_fld (pv 0) rfl))
          (by exact blk_ok (N := ["self", "scene", "seats", "papers", "name"]) (sc := defScope sKeptInit) (by decide +kernel)) (fun _ _ _ _ _ => pg_name (i := 4) sc.nd rfl (Or.inl rfl)) (fun _ _ _ _ _ => pts_nil) (fun _ _ _ _ _ => pv 4) (fun _ _ _ _ _ => pe_dget (by exact hr.u1) (pe_fld (pv 2) rfl) (pv 4) (fun _ _ => rfl))) rfl)
      (pss_one (ps_fld (pv 0) (pe_dc (own := [("name", 4)]) (tk := tVar 4) (tv := tDeadE) (by rfl) sc.nd (pi_list (pe_callB (cr_sortedStr (by rfl) (by exact hr.units)) (by rfl) T.z_sorted bt_sorted (pa_cons (pv 3) pa_nil)))
          (by exact blk_ok (N := ["self", "scene", "seats", "papers", "name"]) (sc := defScope sKeptInit) (by decide +kernel)) (fun _ _ _ _ _ => pg_name (i := 4) sc.nd rfl (Or.inl rfl)) (fun _ _ _ _ _ => pts_nil) (fun _ _ _ _ _ => pv 4) (fun _ _ _ _ _ => pe_dead)) rfl)))))), ?_⟩
    obtain ⟨dxs, ca, la, s1, s2, s3⟩ := id hC
    refine ⟨_, rfl, fun se dse hse hdse hne => ?_⟩
    have hdse0 : H dse = none := hdse
    have e1 : Same H (upd (upd H dse (.own se)) se (.ins (He.ga K "Seats") dse [])) := (Same.new hdse).upd (by rw [upd_ne hne.symm]; exact hse)
    obtain ⟨H1, eH1⟩ : ∃ H1, H1 = upd (upd H dse (.own se)) se (.ins (He.ga K "Seats") dse []) := ⟨_, rfl⟩
    have h1se : H1 se = some (.ins (He.ga K "Seats") dse []) := by rw [eH1]; exact upd_same
    rw [← eH1] at e1 ⊢
    refine ⟨se, dse, scn, Sc, rfl, h1se, hC.same e1, ok, fun H2 x ex1 ex2 o2 hS2 hfr2 _ => ⟨rfl, ?_⟩⟩
    subst ex1 ex2
    have e2 : Same H H2 := fun b o q => o2 b o (fun hb => by rw [hb, hse] at q; cases q) (e1 _ _ q)
    have hmH : ∀ b, x.mut (keysL Sc.chan) b → H b = none := fun b hb => none_back e1 (hfr2 b hb)
    intro pp hpp
    have hppm : ¬ x.mut (keysL Sc.chan) pp := by
      rintro (h | ⟨m, hm, h⟩)
      · have := hS2.sa
        rw [← h, hpp] at this
        cases this
      · have := hS2.lam m hm
        rw [← h, hpp] at this
        cases this
    refine ⟨sz2, fun t ht => ⟨t, _, rfl, sqT upd_same, rfl, _, _, rfl, _, _, rfl, rfl, ?_⟩⟩
    obtain ⟨H4, eH4⟩ : ∃ H4, H4 = upd (upd H2 pp (.dK [])) t (.tup [.ref x.se, .ref pp]) := ⟨_, rfl⟩
    have e24 : Same H2 H4 := by rw [eH4]; exact (Same.new hpp).upd ht
    have h4pp : H4 pp = some (.dK []) := by rw [eH4, upd_ne (fun e => by rw [← e, upd_same] at ht; cases ht)]; exact upd_same
    rw [← eH4]
    have e4 := e2.trans e24
    refine ⟨_, rfl, x.sc, dxs, _, rfl, e4 _ _ s1, rfl, x.sc, Sc, rfl, hC.same e4, ok.ln, by have := ok.ll; omega, fun H5 q L e5 hq hl hperm => ⟨q, rfl, ⟨_, sqL hl⟩, ?_⟩⟩
    have hS5 := (hS2.same e24).same e5
    have hqm : ¬ x.mut (keysL Sc.chan) q := by
      rintro (h | ⟨m, hm, h⟩)
      · have := (hS2.same e24).sa
        rw [← h, hq] at this
        cases this
      · have := (hS2.same e24).lam m hm
        rw [← h, hq] at this
        cases this
    have hLn : L.Nodup := hperm.nodup_iff.mpr ok.ln
    have hLl : L.length ≤ 100 := by
      rw [hperm.length_eq, keysL_len]
      exact ok.ll
    refine for_it (walk_listM (K := K) (xs := L) (f := V.str)) (fun i σ H' => ∃ (v4 : Option V) (S : SS), σ = [some (.ref kp), some (.ref x.sc), some (.ref x.se), some (.ref pp), v4] ∧ Off (x.mut (keysL Sc.chan)) H5 H' ∧ SeatsAt K H' x (keysL Sc.chan) S ∧ S.Ok (keysL Sc.chan) ∧ (∀ n m, S.seating.lookup n = some m → m ∈ heardOf Sc n) ∧ ∀ n, n ∈ keysL S.seating ↔ n ∈ L.take i)
      ⟨none, SS.empty, rfl, Off.refl, hS5, SS.empty_ok _, (fun n m h => nomatch h), fun n => by simp [SS.empty, keysL]⟩ (fun i σ H' _ ⟨_, _, _, o, _⟩ => sqL (o _ _ hqm hl)) ?_ ?_
    · rintro i y σ H6 H7 hi ⟨v4, S, rfl, o6, hS6, sok, hhd, hkeys⟩ ⟨rfl, hx⟩
      obtain ⟨a, ha⟩ : ∃ a, L[i]? = some a := ⟨_, List.getElem?_eq_getElem hi⟩
      obtain rfl : y = .str a := by
        rw [List.getElem?_map, ha] at hx
        exact (Option.some.inj hx).symm
      have htk : L.take (i + 1) = L.take i ++ [a] := by rw [List.take_add_one, ha] <;> rfl
      have hac : a ∈ keysL Sc.calls := hperm.mem_iff.mp (List.mem_of_getElem? ha)
      have hnew : a ∉ keysL S.seating := fun h => by
        rw [hkeys] at h
        obtain ⟨j, hj, ej⟩ := List.getElem_of_mem h
        rw [List.length_take] at hj
        rw [List.getElem_take] at ej
        rw [List.getElem?_eq_getElem hi] at ha
        have := (List.getElem_inj hLn).mp (ej.trans (Option.some.inj ha).symm)
        omega
      have hsub : ∀ n ∈ keysL S.seating, n ∈ keysL Sc.calls := fun n hn => hperm.mem_iff.mp (List.mem_of_mem_take ((hkeys n).mp hn))
      have hsl : S.seating.length ≤ 100 := by
        have := nodup_le sok.nd (m := L) fun n hn => List.mem_of_mem_take ((hkeys n).mp hn)
        rw [keysL_len] at this
        omega
      have hC6 : SceneAt K H7 x.sc Sc := hC.same (Off.over (e4.trans e5) hmH o6)
      refine ⟨_, rfl, x.se, x.dx, _, rfl, hS6.at_, rfl, _, rfl, x, Sc, S, a, rfl, hS6, hC6, ok, sok, hac, hsub, by omega, hnew, hhd, fits S a sok hhd hsub hac hnew, fun H8 S' o8 hS8 ce => ⟨true, rfl, itF ?_⟩⟩
      refine ⟨_, S', rfl, o6.trans o8, hS8, ce.ok, ce.hrd, fun n => ?_⟩
      rw [ce.keys, hkeys, htk, List.mem_append, List.mem_singleton]
      exact ⟨fun z => z.symm, fun z => z.symm⟩
    rintro σ H6 ⟨v4, S, rfl, o6, hS6, sok, hhd, hkeys⟩
    rw [List.take_length] at hkeys
    have hsl : S.seating.length ≤ 100 := by
      have := nodup_le sok.nd (m := L) fun n hn => (hkeys n).mp hn
      rw [keysL_len] at this
      omega
    have e6 : Same H H6 := Off.over (e4.trans e5) hmH o6
    have h6pp := o6 _ _ hppm (e5 _ _ h4pp)
    have h6kp := e6 _ _ hkp
    have hsl2 := (sortS_perm (keysL S.seating)).length_eq
    rw [keysL_len] at hsl2
    refine ⟨_, rfl, x.se, _, x.dx, _, _, rfl, hS6.at_, T.c_Seats, T.a_Seats_seating, rfl, x.sa, keysL S.seating, rfl, .inr (.inr ⟨_, .inl hS6.sa, dV_keys.symm⟩), by rw [keysL_len]; omega, fun q1 hq1 => ⟨q1, _, rfl, .inl ⟨sqL upd_same, fun t1 ht1 => ?_⟩⟩⟩
    have e67 := (Same.new (o := .lst ((sortS (keysL S.seating)).map V.str)) hq1).upd (o := .tup ((sortS (keysL S.seating)).map V.str)) ht1
    obtain ⟨H7, eH7⟩ : ∃ H7, H7 = upd (upd H6 q1 (.lst ((sortS (keysL S.seating)).map V.str))) t1 (.tup ((sortS (keysL S.seating)).map V.str)) := ⟨_, rfl⟩
    have h7t : H7 t1 = some (.tup ((sortS (keysL S.seating)).map V.str)) := by rw [eH7]; exact upd_same
    rw [← eH7] at e67 ⊢
    refine ⟨_, rfl, kp, _, dx, _, rfl, e67 _ _ h6kp, T.c_Kept, T.a_Kept_lot, (by show 0 < 1000; decide), ?_⟩
    obtain ⟨H8, eH8⟩ : ∃ H8, H8 = upd H7 kp (.ins (He.ga K "Kept") dx (putF "lot" (.ref t1) [])) := ⟨_, rfl⟩
    have o78 : Off (· = kp) H7 H8 := by rw [eH8]; exact Off.upd (A := (· = kp)) Off.refl rfl
    have h8kp : H8 kp = some (.ins (He.ga K "Kept") dx [("lot", .ref t1)]) := by rw [eH8]; exact upd_same
    have nt1 : t1 ≠ kp := fun e => by have := e67 _ _ h6kp; rw [← e, h7t] at this; cases this
    have nse : x.se ≠ kp := fun e => by have := hS6.at_; rw [e, h6kp] at this; injection this with this; injection this with _ _ this; cases this
    have nsa : x.sa ≠ kp := fun e => by have := hS6.sa; rw [e, h6kp] at this; cases this
    have npp : pp ≠ kp := fun e => by rw [e, h6kp] at h6pp; cases h6pp
    have h8t := o78 _ _ nt1 h7t
    have h8se := o78 _ _ nse (e67 _ _ hS6.at_)
    have h8sa := o78 _ _ nsa (e67 _ _ hS6.sa)
    have h8pp := o78 _ _ npp (e67 _ _ h6pp)
    rw [← eH8]
    refine ⟨_, rfl, kp, _, dx, _, _, rfl, h8kp, T.c_Kept, T.a_Kept_lot, rfl, t1, rfl, ⟨_, sqT h8t⟩, fun D hD => ?_⟩
    refine dc_list V.str (sortS (keysL S.seating)) walk_tupM (fun _ => true) id (fun n => (S.seating.lookup n).getD "") hD (by omega) (by rw [List.map_id]; exact (sortS_perm _).nodup_iff.mpr sok.nd) (fun H' e => sqT (e _ _ h8t)) ?_ ?_
    · intro i a y H' H9 ha e _ yy
      obtain ⟨rfl, rfl⟩ := yat_map ha yy
      obtain ⟨v, hv⟩ := mem_keysL.mp ((sortS_perm _).mem_iff.mp (List.mem_of_getElem? ha))
      refine ⟨Same.refl _, fun R S' hR hS => ⟨rfl, yesT ⟨_, rfl, _, rfl, x.se, _, x.dx, _, _, rfl, e _ _ h8se, T.c_Seats, T.a_Seats_seating, rfl, _, rfl, x.sa, _, rfl, dgetS (.inl (e _ _ h8sa)) hv, ?_⟩⟩⟩
      have := hR _ (Same.refl _) rfl
      rw [hv] at this
      exact this
    intro H9 e9 hD9
    rw [List.filter_eq_self.mpr fun _ _ => rfl] at hD9
    have h9kp := e9 _ _ h8kp
    refine ⟨_, rfl, kp, _, dx, _, rfl, h9kp, T.c_Kept, T.a_Kept_seating, (by show 1 < 1000; decide), ?_⟩
    obtain ⟨HA, eHA⟩ : ∃ HA, HA = upd H9 kp (.ins (He.ga K "Kept") dx (putF "seating" (.ref D) [("lot", .ref t1)])) := ⟨_, rfl⟩
    have o9A : Off (· = kp) H9 HA := by rw [eHA]; exact Off.upd (A := (· = kp)) Off.refl rfl
    have hAkp : HA kp = some (.ins (He.ga K "Kept") dx [("lot", .ref t1), ("seating", .ref D)]) := by rw [eHA]; exact upd_same
    have nD : D ≠ kp := fun e => by rw [e, h9kp] at hD9; cases hD9
    have hAD := o9A _ _ nD hD9
    have hApp := o9A _ _ npp (e9 _ _ h8pp)
    rw [← eHA]
    refine ⟨_, rfl, pp, [], rfl, .inr (.inr ⟨[], .inl hApp, rfl⟩), Nat.zero_le _, fun q2 hq2 => ⟨q2, rfl, ⟨_, sqL upd_same⟩, fun D2 hD2 => ?_⟩⟩
    have hnil : sortS [] = [] := List.eq_nil_of_length_eq_zero (sortS_perm []).length_eq
    refine dc_list V.str (sortS []) walk_listM (fun _ => true) id (fun n => "") hD2 (by rw [hnil]; exact Nat.zero_le _) (by rw [hnil]; exact List.nodup_nil) (fun H' e => sqL (e _ _ upd_same)) (fun i a y H' HB ha => by rw [hnil] at ha; cases ha) ?_
    intro HB eB hD2B
    have eAB := (Same.new (o := .lst ((sortS []).map V.str)) hq2).trans eB
    refine ⟨_, rfl, kp, _, dx, _, rfl, eAB _ _ hAkp, T.c_Kept, T.a_Kept_papers, (by show 2 < 1000; decide), ?_⟩
    refine k _ (.ref t1) D (.ref D2) (sortL "" S.seating) ?_ upd_same (by rw [upd_ne nD, eAB _ _ hAD]; rfl) ⟨nodup_sortL sok.nd, fun n => ?_, fun n m h => ?_⟩
    · refine Off.upd (A := (· = kp)) ?_ rfl
      exact (((((Off.same e6).trans (Off.same e67)).trans o78).trans (Off.same e9)).trans o9A).trans (Off.same eAB)
    · rw [mem_sortL, hkeys, hperm.mem_iff]
    · rw [lookup_sortL sok.nd] at h
      exact ⟨hhd n m h, sok.min n m h⟩
end
end MC
end
section
set_option Elab.async false
set_option linter.all false
set_option maxRecDepth 100000
set_option maxHeartbeats 4000000
/-! The defs, 17: Moves: its making, cost. -/
namespace MC
open PySem PySem.Spec PyProof.Rows L2
/-- the moves as they lie -/
structure MvAt (K : PySem.W.Frag) (H : Hp) (mv be : Addr) (x : SAd) (Sc : Scn) (S : SS) (B : List (Str × Str)) : Prop where
  at_ : ∃ dx, H mv = some (.ins (He.ga K "Moves") dx [("scene", .ref x.sc), ("before", .ref be), ("seats", .ref x.se)])
  be : H be = some (.dK (dV V.str B))
  sc : SceneAt K H x.sc Sc
  st : SeatsAt K H x (keysL Sc.chan) S
/-- names sit where they hear -/
structure Sits (Sc : Scn) (S : SS) (L : List (Str × Str)) : Prop where
  ok : S.Ok (keysL Sc.chan)
  hrd : ∀ n m, S.seating.lookup n = some m → m ∈ heardOf Sc n
  keys : ∀ n, n ∈ keysL S.seating ↔ n ∈ keysL L
/-- a scene is no thing that is being made -/
theorem SceneAt.off {K : PySem.W.Frag} {H H' : Hp} {sc a C dx : Addr} {Sc : Scn} (h : SceneAt K H sc Sc) (o : Off (· = a) H H') (ha : H a = some (.ins C dx [])) : SceneAt K H' sc Sc := by
  have off : ∀ {b : Addr} {u : HO}, H b = some u → u ≠ .ins C dx [] → H' b = some u := fun {b u} q hu => o _ _ (fun e => by rw [e, ha] at q; exact hu (Option.some.inj q).symm) q
  obtain ⟨dxs, ca, la, s1, s2, γ, δ, η, g1, g2⟩ := h
  refine ⟨dxs, ca, la, off s1 fun z => ?_, off s2 fun z => (by cases z), γ, δ, η, off g1 fun z => (by cases z), fun c hc => ⟨off (g2 c hc).1 fun z => ?_, off (g2 c hc).2 fun z => (by cases z)⟩⟩
  · injection z with _ _ z
    cases z
  · injection z with _ _ z
    cases z
section
variable {P : Program} {w : World} {K : PySem.W.Frag} {mg : Str → Option Value} {base : Heap}
def spMovesInit (K : PySem.W.Frag) : Sp := fun vs H Q _ => ∃ (mv dx sc sd be : Addr) (Sc : Scn) (L B : List (Str × Str)), vs = [.ref mv, .ref sc, .ref sd, .ref be] ∧ H mv = some (.ins (He.ga K "Moves") dx []) ∧ SceneAt K H sc Sc ∧ Sc.Ok ∧ H sd = some (.dK (dV V.str L)) ∧ H be = some (.dK (dV V.str B)) ∧ Full Sc L ∧
  ∀ H' x S, x.sc = sc → Off (· = mv) H H' → MvAt K H' mv be x Sc S B → Sits Sc S L → (∀ b, x.mut (keysL Sc.chan) b → H b = none) → Q .non H'
theorem ok_movesInit (T : Txt P w K mg) : Has P w K mg base CX0 3 (He.fAd K ("Moves", some "__init__")) ["self", "scene", "seating", "before"] (spMovesInit K) := by
  obtain ⟨fd, F⟩ := T.d_MovesInit
  obtain ⟨fdI, GI, bI, kI⟩ := ok_seatsInit (base := base) T
  obtain ⟨fdS, GS, bS, kS⟩ := ok_sit (base := base) T
  have sc : FnScope ["self", "scene", "seating", "before", "name", "mast"] ["self", "scene", "seating", "before"] (defScope sMovesInit) := ⟨rfl, rfl, rfl, by decide +kernel, rfl, by decide +kernel, by decide +kernel⟩
  refine ⟨fd, F.ok sc (fun vs H Q E h => ?_) (fun cdv A outer s H vs Q E hr h => ?_), F.bindsN fun _ _ _ _ _ _ us hl => match us, hl with | [_, _, _, _], _ => rfl, F.kp⟩
  · obtain ⟨mv, dx, scn, sd, be, Sc, L, B, rfl, _⟩ := h
    rfl
  · obtain ⟨mv, dx, scn, sd, be, Sc, L, B, rfl, hmv, hC, ok, hsd, hbe, full, k⟩ := h
    refine ⟨_, PSs.nox (pss_cons (ps_fld (pv 0) (pv 1) rfl) (pss_cons (ps_fld (pv 0) (pv 3) rfl)
      (pss_cons (ps_fld (pv 0) (pe_make T.k_Seats GI (hr.mono (by decide)) (by rfl) T.g_Seats bI .nil pass0 (pa_cons (pv 1) pa_nil)) rfl)
      (pss_one (ps_lock (ps_for PassesOwn.never rfl (pi_items (pv 2)) (pg_tup (by rfl) (pgs_cons (pg_name (i := 4) sc.nd rfl (Or.inl rfl)) (pgs_cons (pg_name (i := 5) sc.nd rfl (Or.inl rfl)) pgs_nil)))
        (pss_one (ps_expr (pe_meth (pe_fld (pv 0) rfl) T.c_Seats T.m_Seats_sit GS (hr.mono (by decide)) bS .nil pass0 (pa_cons (pv 4) (pa_cons (pv 5) pa_nil))))))))))), ?_⟩
    obtain ⟨dxs, ca, la, s1, s2, s3⟩ := id hC
    refine ⟨_, rfl, _, rfl, mv, _, dx, _, rfl, hmv, T.c_Moves, T.a_Moves_scene, (by show 0 < 1000; decide), ?_⟩
    refine ⟨_, rfl, _, rfl, mv, _, dx, _, rfl, upd_same, T.c_Moves, T.a_Moves_before, (by show 1 < 1000; decide), ?_⟩
    rw [upd_upd]
    obtain ⟨H1, eH1⟩ : ∃ H1, H1 = upd H mv (.ins (He.ga K "Moves") dx (putF "before" (.ref be) (putF "scene" (.ref scn) []))) := ⟨_, rfl⟩
    have o1 : Off (· = mv) H H1 := by rw [eH1]; exact Off.upd (A := (· = mv)) Off.refl rfl
    have h1mv : H1 mv = some (.ins (He.ga K "Moves") dx [("scene", .ref scn), ("before", .ref be)]) := by rw [eH1]; exact upd_same
    rw [← eH1]
    have offS : ∀ {H'' : Hp}, Off (· = mv) H H'' → SceneAt K H'' scn Sc := fun {H''} o => hC.off o hmv
    refine ⟨_, rfl, fun se dse hse hdse hne => ?_⟩
    have e2 : Same H1 (upd (upd H1 dse (.own se)) se (.ins (He.ga K "Seats") dse [])) := (Same.new hdse).upd (by rw [upd_ne hne.symm]; exact hse)
    obtain ⟨H2, eH2⟩ : ∃ H2, H2 = upd (upd H1 dse (.own se)) se (.ins (He.ga K "Seats") dse []) := ⟨_, rfl⟩
    have h2se : H2 se = some (.ins (He.ga K "Seats") dse []) := by rw [eH2]; exact upd_same
    rw [← eH2] at e2 ⊢
    refine ⟨se, dse, scn, Sc, rfl, h2se, (offS o1).same e2, ok, fun H3 x ex1 ex2 o3 hS3 hfr hta => ⟨rfl, ?_⟩⟩
    subst ex1 ex2
    have e3 : Same H1 H3 := fun b o q => o3 b o (fun hb => by rw [hb, hse] at q; cases q) (e2 _ _ q)
    have hm1 : ∀ b, x.mut (keysL Sc.chan) b → H1 b = none := fun b hb => none_back e2 (hfr b hb)
    have ht1 : H1 x.ta = none := none_back e2 hta
    have h3mv := e3 _ _ h1mv
    have nmv1 : mv ≠ x.se := fun e => by rw [e, hse] at h1mv; cases h1mv
    have nmv2 : mv ≠ x.ta := fun e => by rw [e, ht1] at h1mv; cases h1mv
    have nmv3 : ¬ x.mut (keysL Sc.chan) mv := fun h => by rw [hm1 _ h] at h1mv; cases h1mv
    refine ⟨_, rfl, mv, _, dx, _, rfl, h3mv, T.c_Moves, T.a_Moves_seats, (by show 2 < 1000; decide), ?_⟩
    obtain ⟨H4, eH4⟩ : ∃ H4, H4 = upd H3 mv (.ins (He.ga K "Moves") dx (putF "seats" (.ref x.se) [("scene", .ref x.sc), ("before", .ref be)])) := ⟨_, rfl⟩
    have h4mv : H4 mv = some (.ins (He.ga K "Moves") dx [("scene", .ref x.sc), ("before", .ref be), ("seats", .ref x.se)]) := by rw [eH4]; exact upd_same
    have hS4 : SeatsAt K H4 x (keysL Sc.chan) SS.empty := by rw [eH4]; exact hS3.updN nmv1 nmv2 nmv3
    have o4 : Off (· = mv) H H4 := by
      rw [eH4]
      exact Off.upd (A := (· = mv)) (o1.trans (Off.same e3)) rfl
    rw [← eH4]
    have nsdmv : sd ≠ mv := fun e => by rw [e, hmv] at hsd; cases hsd
    have nbemv : be ≠ mv := fun e => by rw [e, hmv] at hbe; cases hbe
    have h4sd := o4 _ _ nsdmv hsd
    have h4be := o4 _ _ nbemv hbe
    have h1sd := o1 _ _ nsdmv hsd
    have h1be := o1 _ _ nbemv hbe
    have nsd1 : sd ≠ x.se := fun e => by rw [e, hse] at h1sd; cases h1sd
    have nsd2 : sd ≠ x.ta := fun e => by rw [e, ht1] at h1sd; cases h1sd
    have nsd3 : ¬ x.mut (keysL Sc.chan) sd := fun h => by rw [hm1 _ h] at h1sd; cases h1sd
    have nbe3 : ¬ x.mut (keysL Sc.chan) be := fun h => by rw [hm1 _ h] at h1be; cases h1be
    refine ⟨sd, _, h4sd, trivial, fun od => ?_⟩
    obtain ⟨HL, eHL⟩ : ∃ HL, HL = upd H4 sd (.frz od (.dK (dV V.str L))) := ⟨_, rfl⟩
    have hLd : HL sd = some (.frz od (.dK (dV V.str L))) := by rw [eHL]; exact upd_same
    have hSL : SeatsAt K HL x (keysL Sc.chan) SS.empty := by rw [eHL]; exact hS4.updN nsd1 nsd2 nsd3
    have hLmv : HL mv = some (.ins (He.ga K "Moves") dx [("scene", .ref x.sc), ("before", .ref be), ("seats", .ref x.se)]) := by rw [eHL, upd_ne nsdmv.symm]; exact h4mv
    rw [← eHL]
    refine ⟨_, rfl, sd, od, _, rfl, hLd, ?_⟩
    have hmH : ∀ b, x.mut (keysL Sc.chan) b → H b = none := fun b hb => by
      cases z : H b with
      | none => rfl
      | some u =>
        by_cases hbm : b = mv
        · rw [hbm] at hb
          exact absurd hb nmv3
        · have := o1 _ _ hbm z
          rw [hm1 b hb] at this
          cases this
    refine for_it walk_itemsL (fun i σ H' => ∃ (v4 v5 : Option V) (S : SS), σ = [some (.ref mv), some (.ref x.sc), some (.ref sd), some (.ref be), v4, v5] ∧ Off (x.mut (keysL Sc.chan)) HL H' ∧ SeatsAt K H' x (keysL Sc.chan) S ∧ S.Ok (keysL Sc.chan) ∧ (∀ n m, S.seating.lookup n = some m → m ∈ heardOf Sc n) ∧ ∀ n, n ∈ keysL S.seating ↔ n ∈ keysL (L.take i))
      ⟨none, none, SS.empty, rfl, Off.refl, hSL, SS.empty_ok _, (fun n m h => nomatch h), fun n => by simp [SS.empty, keysL]⟩ (fun i σ H' _ ⟨_, _, _, _, o, _⟩ => o _ _ nsd3 hLd) ?_ ?_
    · rintro i y σ H5 H6 hi ⟨v4, v5, S, rfl, o5, hS5, sok, hhd, hkeys⟩ ⟨t, c, hc, rfl, ht, rfl⟩
      have htk : L.take (i + 1) = L.take i ++ [c] := by rw [List.take_add_one, hc] <;> rfl
      have hcm := List.mem_of_getElem? hc
      obtain ⟨f1, f2⟩ := full.hrd c.1 c.2 (lookup_nodup full.nd hcm)
      have e6 : Same H5 (upd H5 t (.tup [.str c.1, .str c.2])) := Same.new ht
      have hLl : L.length ≤ 100 := by
        have := nodup_le full.nd (m := keysL Sc.calls) fun n hn => (full.keys n).mp hn
        rw [keysL_len, keysL_len] at this
        have := ok.ll
        omega
      have hsl : S.seating.length ≤ 100 := by
        have := nodup_le sok.nd (m := keysL (L.take i)) fun n hn => (hkeys n).mp hn
        rw [keysL_len, keysL_len, List.length_take] at this
        omega
      refine ⟨t, _, rfl, sqT upd_same, rfl, _, _, rfl, _, _, rfl, rfl, ?_⟩
      refine ⟨_, rfl, _, _, _, _, _, rfl, e6 _ _ (o5 _ _ nmv3 hLmv), T.c_Moves, T.a_Moves_seats, rfl, x.se, x.dx, _, rfl, (hS5.same e6).at_, rfl, _, rfl, _, rfl, x, keysL Sc.chan, S, c.1, c.2, rfl, hS5.same e6, sok, ok.cn, f2, by omega, fun H7 o7 hS7 => ?_⟩
      refine ⟨_, _, S.sit c.1 c.2, rfl, (o5.trans (Off.same e6)).trans o7, hS7, SS.sit_ok sok f2, fun n m hl => ?_, fun n => ?_⟩
      · rw [SS.sit_lookup] at hl
        split at hl
        · next e =>
          cases hl
          rw [e]
          exact f1
        · exact hhd n m hl
      · rw [SS.sit_keys, hkeys, htk]
        unfold keysL
        rw [List.map_append, List.mem_append]
        exact ⟨fun z => z.elim (fun e => .inr (by rw [e]; exact List.mem_singleton.mpr rfl)) .inl, fun z => z.elim .inr fun e => .inl (List.mem_singleton.mp e)⟩
    · rintro σ H5 ⟨v4, v5, S, rfl, o5, hS5, sok, hhd, hkeys⟩
      rw [List.take_length] at hkeys
      refine ⟨o5 _ _ nsd3 hLd, ?_⟩
      have oF : Off (· = mv) H (upd H5 sd (.dK (dV V.str L))) := fun b u hb q => by
        by_cases hbs : b = sd
        · rw [hbs, hsd] at q
          cases q
          rw [hbs]
          exact upd_same
        · rw [upd_ne hbs]
          refine o5 _ _ (fun hm => by rw [hmH b hm] at q; cases q) ?_
          rw [eHL, upd_ne hbs]
          exact o4 _ _ hb q
      refine k _ x S rfl oF ⟨⟨dx, ?_⟩, ?_, hC.off oF hmv, hS5.updN nsd1 nsd2 nsd3⟩ ⟨sok, hhd, hkeys⟩ hmH
      · rw [upd_ne nsdmv.symm]
        exact o5 _ _ nmv3 hLmv
      · exact oF _ _ nbemv hbe
end
end MC
end
section
set_option Elab.async false
set_option linter.all false
set_option maxRecDepth 100000
set_option maxHeartbeats 4000000
/-! sorted(d.items()), d of texts' tuples and of tuples (int, text). -/
namespace MC
open PySem PySem.Spec PyProof.Rows L2 L2.DX
open PySem.W (hideAll of_hideAll hideAll_none hideAll_get EachIs alike alikeAll AllAlike Sortable dataLe Datum DatumOrd)
/-- an entry: the key's texts, the value's int, its text, its address -/
structure Ent where
  key : List Str
  more : Int
  name : Str
  ad : Addr
def entD (e : Ent) : PyData := .tuple [.tuple (e.key.map PyData.str), .tuple [.int e.more, .str e.name]]
def rSortIt2 : List V → Hp → VK → Prop := fun vs H Q => ∃ (p a : Addr) (E : List Ent), vs = [.ref p] ∧ H p = some (itemsO p a) ∧ H a = some (.dT (E.map fun e => (kS e.key, .ref e.ad))) ∧ E.length ≤ 10000 ∧ (∀ e ∈ E, H e.ad = some (.tup [.int e.more, .str e.name])) ∧
  ∀ (H' : Hp) (l : Addr) (ps : List (Addr × Ent)), Same H H' → H l = none → H' l = some (.lst (ps.map fun z => V.ref z.1)) → (ps.map (·.2)).Perm E → (∀ z ∈ ps, ∃ q, H' z.1 = some (.tup [.ref q, .ref z.2.ad]) ∧ H' q = some (.tup (z.2.key.map V.str))) → Q (.ref l) H'
theorem cr_sortedItems2 {X : Cx} (hc : X.calm = true) (hu : X.A.units + 64 < cLine) : CallR X (.builtin "sorted") rSortIt2 := by
  intro pins s σ H xs us Q I r h
  obtain ⟨p, a, E, rfl, hp, ha, hlen, hv, q⟩ := h
  obtain rfl := Vals.ref1 r
  have view : s.heap.IsItemsView p a := (show ObjOk X.prog X.w H s.heap p (itemsO p a) from I.hok p _ hp).1
  obtain ⟨z, hd, xs', rel, o, es, ep, ho, hx, hdat, hes, his, hn⟩ := dt_of I.hok ha
  have l1 : (E.map fun e => (kS e.key, V.ref e.ad)).length = xs'.length := Paired.length rel
  rw [List.length_map] at l1
  have l2 : es.size = xs'.length := size_of_entries hes
  have hh : X.A.handled = none := I.ok.hd hc
  refine DT.sortedI (es := es) (ep := ep) hh view ⟨o, ho, hx, hdat⟩ (by rw [sizeLine_eq]; omega) fun h' tk as hk hlt hl hG => ?_
  have lak : as.length = E.length := by omega
  have nd : as.Nodup := List.Pairwise.imp (fun h => Nat.ne_of_lt h) hG.rise
  have pr : ∀ (j : Nat) (b : Addr), as[j]? = some b → ∃ (e : Ent) (kq : Addr), E[j]? = some e ∧ H kq = some (.tup (e.key.map V.str)) ∧ h'.get? b = some { cls := .type "tuple", data := .seq #[Value.ref kq, Value.ref e.ad] } := by
    intro j b hj
    obtain ⟨en, he, hg⟩ := hG.pairs j b hj
    rw [entry_at hes j] at he
    cases hxj : xs'[j]? with
    | none =>
      rw [hxj] at he
      exact nomatch (show (none : Option DictEntry) = some en from he)
    | some x =>
      rw [hxj] at he
      have een : entryOfKey (tupleKind (mixKind X.prog X.w)) x = en := Option.some.inj he
      obtain ⟨e0, he0, r1, r2, r3⟩ := pget rel hxj
      rw [List.getElem?_map] at he0
      cases hkj : E[j]? with
      | none =>
        rw [hkj] at he0
        exact nomatch (show (none : Option (List L2.Key × V)) = some e0 from he0)
      | some e =>
        rw [hkj] at he0
        have ee : (kS e.key, V.ref e.ad) = e0 := Option.some.inj he0
        rw [← ee] at r2 r3
        have r3' : x.2.2 = Value.ref e.ad := r3
        refine ⟨e, x.2.1, rfl, by rw [← kS_map]; exact r2, ?_⟩
        rw [hg, ← een, ← r3']
        all_goals rfl
  have I1 : Inv X pins σ H { s with heap := h', toks := tk } := I.kept (t' := tk) hk
  obtain ⟨H2, I2, gr, qt⟩ := takeT (P := fun b vs => ∃ (j : Nat) (e : Ent) (kq : Addr), as[j]? = some b ∧ E[j]? = some e ∧ vs = [.ref kq, .ref e.ad] ∧ H kq = some (.tup (e.key.map V.str))) I as _ I1 nd fun b hb => by
    obtain ⟨j, hj⟩ := List.mem_iff_getElem?.mp hb
    obtain ⟨e, kq, he, hkq, hg⟩ := pr j b hj
    have hbl : s.heap.objs.size ≤ b := Nat.le_of_lt (hG.above b hb)
    exact ⟨hbl, I.hok.fresh hbl, [.ref kq, .ref e.ad], ⟨j, e, kq, hj, he, rfl, hkq⟩, fun H3 => ⟨(by rw [sizeLine_eq]; show 2 ≤ 16777216; omega), [Value.ref kq, Value.ref e.ad], .cons rfl (.cons rfl .nil), ⟨_, hg, rfl, 0, rfl⟩⟩⟩
  have facts : ∀ z ∈ as.zip E, ∃ kq, H2 z.1 = some (.tup [.ref kq, .ref z.2.ad]) ∧ H2 kq = some (.tup (z.2.key.map V.str)) ∧ H2 z.2.ad = some (.tup [.int z.2.more, .str z.2.name]) := by
    intro z hz
    obtain ⟨i, hi⟩ := List.mem_iff_getElem?.mp hz
    obtain ⟨i1, i2⟩ := List.getElem?_zip_eq_some.mp hi
    obtain ⟨vs, ⟨j, e, kq, j1, j2, ev, hkq⟩, hH⟩ := qt z.1 (List.mem_of_getElem? i1)
    have eij : i = j := (List.getElem?_inj (List.getElem?_eq_some_iff.mp i1).1 nd).mp (i1.trans j1.symm)
    subst eij
    have ee : e = z.2 := Option.some.inj (j2.symm.trans i2)
    rw [ev, ee] at hH
    rw [ee] at hkq
    exact ⟨kq, hH, gr _ _ hkq, gr _ _ (hv z.2 (List.mem_of_getElem? i2))⟩
  obtain ⟨ps, eps⟩ : ∃ ps : List (V × PyData), ps = (as.zip E).map fun z => (V.ref z.1, entD z.2) := ⟨_, rfl⟩
  have hzl : (as.zip E).length = as.length := by rw [List.length_zip, lak, Nat.min_self]
  have m1 : ps.map (·.1) = as.map V.ref := by
    rw [eps, List.map_map]
    have : (as.zip E).map Prod.fst = as := List.map_fst_zip (by rw [lak]; exact Nat.le_refl _)
    conv => rhs; rw [← this, List.map_map]
    rfl
  have hpsE : ∀ d ∈ ps.map (·.2), ∃ e, d = entD e := fun d hd => by
    rw [eps, List.map_map] at hd
    obtain ⟨z, _, rfl⟩ := List.mem_map.mp hd
    exact ⟨z.2, rfl⟩
  have hal : AllAlike (ps.map (·.2)) := by
    intro d hd d' hd'
    obtain ⟨e, rfl⟩ := hpsE d hd
    obtain ⟨e', rfl⟩ := hpsE d' hd'
    have := alikeAll_strs e.key e'.key
    simp [entD, alike, alikeAll, this]
  have hsk : Sortable (ps.map (·.2)) := .inl fun d hd => by
    obtain ⟨e, rfl⟩ := hpsE d hd
    exact ⟨_, _, rfl⟩
  have hdp : ∀ p ∈ ps, Dp X.K H2 p.1 p.2 := fun p hp => by
    rw [eps] at hp
    obtain ⟨z, hz, rfl⟩ := List.mem_map.mp hp
    obtain ⟨kq, f1, f2, f3⟩ := facts z hz
    exact Dp.tup (sqT f1) (DpAll.cons (Dp.tup (sqT f2) (dpStrs _)) (DpAll.cons (Dp.tup (sqT f3) (DpAll.cons (Dp.int _) (DpAll.cons (Dp.str _) DpAll.nil))) DpAll.nil))
  have hdep : ∀ p ∈ ps, p.2.depth ≤ 8 := fun p hp => by
    obtain ⟨e, he⟩ := hpsE p.2 (List.mem_map_of_mem hp)
    have := depthAll_strs e.key
    rw [he]
    simp [entD, PyData.depth, PyData.depthAll, this]
  have rv : Vals (ps.map (·.1)) (as.map Value.ref) := by
    rw [m1]
    exact vals_maps (fun b : Addr => V.ref b) (fun b => Value.ref b) as fun _ _ => rfl
  have hL : ps.length ≤ sizeLine := by
    have : ps.length = as.length := by rw [eps, List.length_map, hzl]
    rw [sizeLine_eq]
    omega
  have e := each_vals (R := fun _ => True) rv
  have hnew : h'.get? h'.objs.size = none := Heap.get?_none_of_le (Nat.le_refl _)
  have er : EachIs (fun (v : Value) (p : V × PyData) => ∃ cs, Reads (h'.push (seqObj "list" (as.map Value.ref).toArray 0)) v p.2 cs ∧ h'.objs.size ∉ cs) (as.map Value.ref) ps := by
    refine each_and e fun v p hpm rv => ?_
    obtain ⟨cs, rd⟩ := Dp.reads I2 p.2 p.1 v (hdp p hpm) rv
    refine ⟨cs, PyProof.Rows.Reads.keeps (fun b o q => Heap.get?_push_of_some _ q) rd, fun hm => ?_⟩
    obtain ⟨o, ho⟩ := reads_old p.2 v cs (hal _ (List.mem_map.mpr ⟨p, hpm, rfl⟩) _ (List.mem_map.mpr ⟨p, hpm, rfl⟩)) rd _ hm
    rw [hnew] at ho
    cases ho
  refine PySem.W.list_sort_data (A := X.A.in1) (enc := fun p : V × PyData => p.2) (R := fun (u : Value) (p : V × PyData) => RelV p.1 u) (vs := as.map Value.ref) (bs := ps) (s := { s with heap := h'.push (seqObj "list" (as.map Value.ref).toArray 0), toks := tk }) (a := h'.objs.size) (n := 0) (Heap.get?_push_size _ rfl) e er hal hsk hL
    (fun p hpm => by have := hdep p hpm; show X.A.units + 1 + 1 + _ < _; omega) fun out ho eo => ?_
  have vo := vals_each eo
  have hlen2 : (ps.mergeSort (dataLe false (fun p : V × PyData => p.2))).length = ps.length := List.length_mergeSort ..
  obtain ⟨c, hc2⟩ := sortedHeap_at (out := out.toArray) (show (h'.push (seqObj "list" (as.map Value.ref).toArray 0)).get? h'.objs.size = some (seqObj "list" (as.map Value.ref).toArray 0) from Heap.get?_push_size _ rfl)
  obtain ⟨L, p1, p2⟩ := perm_map_inv' (f := fun z : Addr × Ent => (V.ref z.1, entD z.2)) (show (ps.mergeSort (dataLe false (fun p : V × PyData => p.2))).Perm ((as.zip E).map fun z => (V.ref z.1, entD z.2)) by rw [← eps]; exact List.mergeSort_perm _ _)
  have hn2 : H2 h'.objs.size = none := I2.hok.fresh (Nat.le_refl _)
  refine ⟨.ref h'.objs.size, _, I2.laid (a := h'.objs.size) (t' := tk) (o := .lst ((ps.mergeSort (dataLe false (fun p : V × PyData => p.2))).map (·.1))) (fun b o q => ?_) (Nat.le_refl _) ?_, rfl, ?_⟩
  · have hlt : b < h'.objs.size := Heap.lt_size q
    show (PyProof.Rows.sortedHeap (h'.push (seqObj "list" (as.map Value.ref).toArray 0)) h'.objs.size (as.map Value.ref) out.toArray).get? b = some o
    rw [sortedHeap_old (Nat.ne_of_lt hlt) (by rw [Heap.size_push]; exact Nat.lt_succ_of_lt hlt)]
    exact Heap.get?_push_of_some _ q
  · exact ⟨by rw [List.length_map, hlen2]; exact hL, out, c, vo, hc2⟩
  · have gr' : Same H H2 := gr
    refine q _ h'.objs.size L (gr'.upd hn2) (I.hok.fresh (Nat.le_of_lt hlt)) (by rw [upd_same, p2, List.map_map]; rfl) ?_ fun z hz => ?_
    · have e2 := p1.map (·.2)
      have : (as.zip E).map Prod.snd = E := List.map_snd_zip (by rw [lak]; exact Nat.le_refl _)
      rw [this] at e2
      exact e2
    · obtain ⟨kq, f1, f2, f3⟩ := facts z (p1.mem_iff.mp hz)
      exact ⟨kq, by rw [upd_ne (ne_of_none f1 hn2)]; exact f1, by rw [upd_ne (ne_of_none f2 hn2)]; exact f2⟩
end MC
end
section
set_option Elab.async false
set_option linter.all false
set_option maxRecDepth 100000
set_option maxHeartbeats 4000000
/-! The defs, 18: Moves: cost and arcs. -/
namespace MC
open PySem PySem.Spec PyProof.Rows L2 L2.DX
/-- what a seat costs -/
def costOf (B : List (Str × Str)) (n m : Str) : Int := if B.lookup n = some m then 0 else 1
/-- an arc: what it costs more, from, to, who -/
structure ArcOk (Sc : Scn) (S : SS) (B : List (Str × Str)) (w : Int) (m o n : Str) : Prop where
  ok : (S.seating.lookup n = some m ∧ o ∈ heardOf Sc n ∧ o ≠ m ∧ w = costOf B n o - costOf B n m ∧ n ≠ "" ∧ m ∈ keysL Sc.chan ∧ o ∈ keysL Sc.chan) ∨ (m ∈ keysL Sc.chan ∧ o = "" ∧ w = 0 ∧ n = "") ∨ (m = "" ∧ o ∈ keysL Sc.chan ∧ w = 0 ∧ n = "")
structure Arc where
  w : Int
  m : Str
  o : Str
  n : Str
def ArcsAt (H : Hp) (q : Addr) (A : List Arc) : Prop := ∃ bs : List Addr, H q = some (.lst (bs.map V.ref)) ∧ bs.length = A.length ∧ ∀ (i : Nat) (b : Addr) (a : Arc), bs[i]? = some b → A[i]? = some a → H b = some (.tup [.int a.w, .str a.m, .str a.o, .str a.n])
theorem ArcsAt.same {H H' : Hp} {q : Addr} {A : List Arc} (h : ArcsAt H q A) (e : Same H H') : ArcsAt H' q A := by
  obtain ⟨bs, h1, h2, h3⟩ := h
  exact ⟨bs, e _ _ h1, h2, fun i b a hb ha => e _ _ (h3 i b a hb ha)⟩
section
variable {P : Program} {w : World} {K : PySem.W.Frag} {mg : Str → Option Value} {base : Heap}
def spCost (K : PySem.W.Frag) : Sp := fun vs H Q _ => ∃ (mv dx be : Addr) (s e : V) (n m : Str) (B : List (Str × Str)), vs = [.ref mv, .str n, .str m] ∧ H mv = some (.ins (He.ga K "Moves") dx [("scene", s), ("before", .ref be), ("seats", e)]) ∧ Rd H be (.dK (dV V.str B)) ∧ Q (.int (costOf B n m)) H
theorem ok_cost (T : Txt P w K mg) : Has P w K mg base CX0 1 (He.fAd K ("Moves", some "cost")) ["self", "name", "mast"] (spCost K) := by
  obtain ⟨fd, F⟩ := T.d_MovesCost
  have sc : FnScope ["self", "name", "mast"] ["self", "name", "mast"] (defScope sMovesCost) := ⟨rfl, rfl, rfl, by decide +kernel, rfl, by decide +kernel, by decide +kernel⟩
  refine ⟨fd, F.ok sc (fun vs H Q E h => ?_) (fun cdv A outer s H vs Q E hr h => ?_), F.bindsN fun _ _ _ _ _ _ us hl => match us, hl with | [_, _, _], _ => rfl, F.kp⟩
  · obtain ⟨mv, dx, be, s, e, n, m, B, rfl, _⟩ := h
    rfl
  · obtain ⟨mv, dx, be, s, e, n, m, B, rfl, h1, h2, k⟩ := h
    refine ⟨_, pss_one (ps_ret (pe_ifExp (pt_cmpR op_eq (pe_dget1 (by exact hr.u1) (pe_fld (pv 0) rfl) (pv 1) ⟨rfl, rfl, rfl, rfl⟩) (pv 2) (nomark _)) pe_int pe_int)), ?_⟩
    refine ⟨_, rfl, mv, _, dx, _, _, rfl, h1, T.c_Moves, T.a_Moves_before, rfl, be, rfl, .inl ⟨_, h2⟩, _, rfl, _, dgetR (k := n) h2, _, rfl, ?_⟩
    unfold costOf at k
    cases hb : B.lookup n with
    | none =>
      rw [hb, if_neg (by intro z; cases z)] at k
      exact ⟨rfl, false, by simp, itF k⟩
    | some v =>
      rw [hb] at k
      by_cases hv : v = m
      · subst hv
        rw [if_pos rfl] at k
        exact ⟨rfl, true, by simp, itT k⟩
      · rw [if_neg fun z => hv (Option.some.inj z)] at k
        exact ⟨rfl, false, by simp [hv], itF k⟩
/-! ### the arcs' dict -/
abbrev entV (e : Ent) : List L2.Key × V := (kS e.key, .ref e.ad)
theorem ent_val {k : List L2.Key} {v : V} : ∀ {E : List Ent}, valV (E.map entV) k = some v → ∃ e ∈ E, v = .ref e.ad
  | [], h => by cases h
  | e :: E, h => by
    by_cases hk : kS e.key = k
    · rw [List.map_cons, valV_pos hk] at h
      exact ⟨e, List.mem_cons_self, (Option.some.inj h).symm⟩
    · rw [List.map_cons, valV_neg hk] at h
      obtain ⟨e', h1, h2⟩ := ent_val h
      exact ⟨e', List.mem_cons_of_mem _ h1, h2⟩
theorem ent_put (E : List Ent) (n : Ent) : ∃ E' : List Ent, putK (E.map entV) (kS n.key) (.ref n.ad) = E'.map entV ∧ (∀ e ∈ E', e ∈ E ∨ e = n) ∧ E'.length ≤ E.length + 1 := by
  by_cases hn : valV (E.map entV) (kS n.key) = none
  · refine ⟨E ++ [n], ?_, fun e he => ?_, by rw [List.length_append] <;> exact Nat.le_refl _⟩
    · rw [putK_new _ hn, List.map_append]
      rfl
    · rwa [List.mem_append, List.mem_singleton] at he
  · obtain ⟨u, hu⟩ : ∃ u, valV (E.map entV) (kS n.key) = some u := by
      cases q : valV (E.map entV) (kS n.key) with
      | none => exact absurd q hn
      | some u => exact ⟨u, rfl⟩
    have hany : ((E.map entV).any fun kv => decide (kv.1 = kS n.key)) = true := by rw [valV_any, hu]; rfl
    refine ⟨E.map fun e => if e.key = n.key then n else e, ?_, fun e he => ?_, by rw [List.length_map]; omega⟩
    · unfold putK
      rw [if_pos hany, List.map_map, List.map_map]
      refine List.map_congr_left fun e _ => ?_
      show (if kS e.key = kS n.key then (kS e.key, V.ref n.ad) else (kS e.key, .ref e.ad)) = entV (if e.key = n.key then n else e)
      by_cases h : e.key = n.key
      · rw [if_pos h, if_pos (by rw [h]), h]
      · rw [if_neg h, if_neg fun z => h (kS_inj z)]
    · obtain ⟨e0, h0, rfl⟩ := List.mem_map.mp he
      by_cases h : e0.key = n.key
      · rw [if_pos h]
        exact .inr rfl
      · rw [if_neg h]
        exact .inl h0
end
end MC
end
section
set_option Elab.async false
set_option linter.all false
set_option maxRecDepth 100000
set_option maxHeartbeats 4000000
/-! The defs, 19: Moves.arcs. -/
namespace MC
open PySem PySem.Spec PyProof.Rows L2 L2.DX
/-- the dict of arcs in the making -/
structure EntsAt (Sc : Scn) (S : SS) (B : List (Str × Str)) (H : Hp) (fo : Addr) (E : List Ent) : Prop where
  at_ : H fo = some (.dT (E.map entV))
  val : ∀ e ∈ E, H e.ad = some (.tup [.int e.more, .str e.name])
  ok : ∀ e ∈ E, ∃ m o, e.key = [m, o] ∧ ArcOk Sc S B e.more m o e.name
def arcE (e : Ent) : Arc := ⟨e.more, e.key.headD "", e.key.getD 1 "", e.name⟩
theorem atI1 {α : Type} (a b : α) (l : List α) : atI (a :: b :: l) 1 = some b := by
  unfold atI ixN
  rw [if_pos (by decide), if_pos (by simp; omega)]
  rfl
section
variable {P : Program} {w : World} {K : PySem.W.Frag} {mg : Str → Option Value} {base : Heap}
theorem EntsAt.same {Sc : Scn} {S : SS} {B : List (Str × Str)} {H H' : Hp} {fo : Addr} {E : List Ent} (h : EntsAt Sc S B H fo E) (e : Same H H') : EntsAt Sc S B H' fo E := ⟨e _ _ h.at_, fun x hx => e _ _ (h.val x hx), h.ok⟩
/-- found[m, o] = (w, n) -/
theorem EntsAt.put {Sc : Scn} {S : SS} {B : List (Str × Str)} {H : Hp} {fo : Addr} {E : List Ent} (h : EntsAt Sc S B H fo E) {m o n : Str} {w : Int} {t k : Addr} (ht : H t = some (.tup [.int w, .str n])) (hk : H k = some (.tup [.str m, .str o])) (ok : ArcOk Sc S B w m o n) (hl : E.length ≤ 10000) :
    ∃ H' E', DPut H fo (.ref k) (.ref t) H' ∧ EntsAt Sc S B H' fo E' ∧ E'.length ≤ E.length + 1 ∧ ∃ u, H' = L2.upd H fo u := by
  obtain ⟨E', g1, g2, g3⟩ := ent_put E ⟨[m, o], w, n, t⟩
  refine ⟨L2.upd H fo (.dT (putK (E.map entV) (kS [m, o]) (.ref t))), E', .inr ⟨E.map entV, kS [m, o], k, h.at_, rfl, hk, szL (by rw [List.length_map]; omega), rfl⟩, ⟨?_, fun e he => ?_, fun e he => ?_⟩, g3, _, rfl⟩
  · rw [upd_same, ← g1]
  · have q : H e.ad = some (.tup [.int e.more, .str e.name]) := by
      rcases g2 e he with h' | rfl
      · exact h.val e h'
      · exact ht
    rw [upd_ne (fun z => by rw [z, h.at_] at q; cases q)]
    exact q
  · rcases g2 e he with h' | rfl
    · exact h.ok e h'
    · exact ⟨m, o, rfl, ok⟩
theorem EntsAt.updN {Sc : Scn} {S : SS} {B : List (Str × Str)} {H : Hp} {fo d : Addr} {u v : HO} {E : List Ent} (h : EntsAt Sc S B H fo E) (hd : H d = some v) (h1 : ∀ k, v ≠ .dT k) (h2 : ∀ k, v ≠ .tup k) : EntsAt Sc S B (L2.upd H d u) fo E :=
  ⟨by rw [upd_ne (fun e => by have := h.at_; rw [e, hd] at this; exact h1 _ (Option.some.inj this))]; exact h.at_, fun e he => by rw [upd_ne (fun z => by have := h.val e he; rw [z, hd] at this; exact h2 _ (Option.some.inj this))]; exact h.val e he, h.ok⟩
def spArcs (K : PySem.W.Frag) : Sp := fun vs H Q _ => ∃ (mv be : Addr) (x : SAd) (Sc : Scn) (S : SS) (B L : List (Str × Str)), vs = [.ref mv] ∧ MvAt K H mv be x Sc S B ∧ Sc.Ok ∧ Sits Sc S L ∧ (∀ n ∈ keysL L, n ∈ keysL Sc.calls) ∧ S.seating.length ≤ 100 ∧
  ∀ H' q A, Same H H' → H q = none → ArcsAt H' q A → (∀ a ∈ A, ArcOk Sc S B a.w a.m a.o a.n) → A.length ≤ 10000 → Q (.ref q) H'
theorem ok_arcs (T : Txt P w K mg) : Has P w K mg base CX0 2 (He.fAd K ("Moves", some "arcs")) ["self"] (spArcs K) := by
  obtain ⟨fd, F⟩ := T.d_MovesArcs
  obtain ⟨fdC, GC, bC, kC⟩ := ok_cost (base := base) T
  obtain ⟨fdR, GR, bR, kR⟩ := ok_hasRoom (base := base) T
  obtain ⟨tf, hF⟩ := T.free
  have sc : FnScope ["self", "found", "name", "mast", "other", "more", "pair"] ["self"] (defScope sMovesArcs) := ⟨rfl, rfl, rfl, by decide +kernel, rfl, by decide +kernel, by decide +kernel⟩
  refine ⟨fd, F.ok sc (fun vs H Q E h => ?_) (fun cdv A outer s H vs Q E hr h => ?_), F.bindsN fun _ _ _ _ _ _ us hl => match us, hl with | [_], _ => rfl, F.kp⟩
  · obtain ⟨mv, be, x, Sc, S, B, L, rfl, _⟩ := h
    rfl
  · obtain ⟨mv, be, x, Sc, S, B, L, rfl, hM, ok, sit, hsub, hsl, k⟩ := h
    refine ⟨_, PSs.nox (pss_cons (ps_set (i := 1) sc.nd rfl (Or.inl rfl) pe_dnewT)
      (pss_cons (ps_lock (ps_for PassesOwn.never rfl (pi_items (pe_fld (pe_fld (pv 0) rfl) rfl)) (pg_tup (by rfl) (pgs_cons (pg_name (i := 2) sc.nd rfl (Or.inl rfl)) (pgs_cons (pg_name (i := 3) sc.nd rfl (Or.inl rfl)) pgs_nil)))
        (pss_one (ps_for PassesOwn.never rfl (pi_tup (pe_fld (pe_dget (by exact hr.u1) (pe_fld (pe_fld (pv 0) rfl) rfl) (pv 2) (fun _ _ => rfl)) rfl)) (pg_name (i := 4) sc.nd rfl (Or.inl rfl))
          (pss_cons (ps_set (i := 5) sc.nd rfl (Or.inl rfl) (pe_sub (pe_meth (pv 0) T.c_Moves T.m_Moves_cost GC hr bC .nil pass0 (pa_cons (pv 2) (pa_cons (pv 4) pa_nil))) (pe_meth (pv 0) T.c_Moves T.m_Moves_cost GC hr bC .nil pass0 (pa_cons (pv 2) (pa_cons (pv 3) pa_nil)))))
          (pss_one (ps_if (PW.pt (pw_and (pt_cmpR op_ne (pv 4) (pv 3) (nomark _)) (pw_and1 (pt_cmpR op_lt (pv 5) (pe_ix ix_tup (pe_dget2 (by exact hr.u1) (pv 1) (pe_tup (pa_cons (pv 3) (pa_cons (pv 4) pa_nil))) (pe_tup (pa_cons pe_int (pa_cons pe_str pa_nil))) ⟨rfl, rfl, rfl, rfl⟩) pe_int (fun _ _ => rfl)) (nomark _)))))
            (pss_one (ps_dput (by exact hr.u1) (pv 1) (pe_tup (pa_cons (pv 3) (pa_cons (pv 4) pa_nil))) (pe_tup (pa_cons (pv 5) (pa_cons (pv 2) pa_nil))) rfl)) pss_nil)))))))
      (pss_cons (ps_lock (ps_for PassesOwn.never rfl (pi_keys (pe_fld (pe_fld (pv 0) rfl) rfl)) (pg_name (i := 3) sc.nd rfl (Or.inl rfl))
        (pss_cons (ps_if (pt_val (pe_meth (pe_fld (pv 0) rfl) T.c_Seats T.m_Seats_has_room GR hr bR .nil pass0 (pa_cons (pv 3) pa_nil)))
          (pss_one (ps_dput (by exact hr.u1) (pv 1) (pe_tup (pa_cons (pv 3) (pa_cons (pe_glob (v := .str "") (by rfl) hF ⟨_, rfl⟩) pa_nil))) (pe_tup (pa_cons pe_int (pa_cons pe_str pa_nil))) rfl)) pss_nil)
        (pss_one (ps_dput (by exact hr.u1) (pv 1) (pe_tup (pa_cons (pe_glob (v := .str "") (by rfl) hF ⟨_, rfl⟩) (pa_cons (pv 3) pa_nil))) (pe_tup (pa_cons pe_int (pa_cons pe_str pa_nil))) rfl)))))
      (pss_one (ps_ret (pe_lc (own := [("pair", 6), ("more", 5), ("name", 2)]) (g := gTup K 2 (gCons (gName 6) (gCons (gTup K 2 (gCons (gName 5) (gCons (gName 2) gNil))) gNil))) (te := tTup (tCons (tVar 5) (tCons (tOp (rIxT K) (tVar 6) (tC (.int 0))) (tCons (tOp (rIxT K) (tVar 6) (tC (.int 1))) (tCons (tVar 2) tNil))))) (by rfl) sc.nd
          (pi_list (pe_callB (cr_sortedItems2 (by rfl) (by exact hr.units)) (by rfl) T.z_sorted bt_sorted (pa_cons (pe_bm0 PySem.F.plainAttrs_dict PySem.F.slot_dict_items PySem.F.type_dict_items mt_itemsT (pv 1)) pa_nil)))
          (by exact blk_ok (N := ["self", "found", "name", "mast", "other", "more", "pair"]) (sc := defScope sMovesArcs) (by decide +kernel))
          (fun _ _ _ _ _ => pg_tup (by rfl) (pgs_cons (pg_name (i := 6) sc.nd rfl (Or.inl rfl)) (pgs_cons (pg_tup (by rfl) (pgs_cons (pg_name (i := 5) sc.nd rfl (Or.inl rfl)) (pgs_cons (pg_name (i := 2) sc.nd rfl (Or.inl rfl)) pgs_nil))) pgs_nil)))
          (fun _ _ _ _ _ => pts_nil) (fun _ _ _ _ _ => pe_tup (pa_cons (pv 5) (pa_cons (pe_ix ix_tup (pv 6) pe_int (fun _ _ => rfl)) (pa_cons (pe_ix ix_tup (pv 6) pe_int (fun _ _ => rfl)) (pa_cons (pv 2) pa_nil))))))))))), ?_⟩
    obtain ⟨dxm, m1⟩ := hM.at_
    obtain ⟨dxs, ca, la, s1, s2, γ, δ, η, g1, g2⟩ := id hM.sc
    have hsa := hM.st.sa
    intro fo hfo
    have nsf : x.sa ≠ fo := ne_of_none hsa hfo
    refine ⟨x.sa, .dK (dV V.str S.seating), by rw [upd_ne nsf]; exact hsa, trivial, fun od => ?_⟩
    obtain ⟨u, hu⟩ : ∃ u, u = HO.dK (dV V.str S.seating) := ⟨_, rfl⟩
    obtain ⟨HB, eHB⟩ : ∃ HB, HB = upd H x.sa (.frz od u) := ⟨_, rfl⟩
    obtain ⟨HL, eHL⟩ : ∃ HL, HL = upd (upd H fo (.dT [])) x.sa (.frz od u) := ⟨_, rfl⟩
    rw [← hu, ← eHL]
    have fB : HB fo = none := by rw [eHB, upd_ne nsf.symm]; exact hfo
    have eBL : Same HB HL := fun b o q => by
      rw [eHL]
      rw [eHB] at q
      by_cases hb : b = x.sa
      · rw [hb, upd_same] at q ⊢
        exact q
      · rw [upd_ne hb] at q
        rw [upd_ne hb, upd_ne (ne_of_none q hfo)]
        exact q
    have hBd : HB x.sa = some (.frz od u) := by rw [eHB]; exact upd_same
    have hLf : EntsAt Sc S B HL fo [] := ⟨by rw [eHL, upd_ne nsf.symm]; exact upd_same, fun e he => absurd he List.not_mem_nil, fun e he => absurd he List.not_mem_nil⟩
    have hsa' : H x.sa = some u := by rw [hu]; exact hsa
    have atB : ∀ {b : Addr} {o : HO}, H b = some o → o ≠ u → HB b = some o := fun q hne => by rw [eHB]; exact at_lock hsa' q hne
    have bm1 := atB m1 (by rw [hu]; intro z; cases z)
    have bs1 := atB s1 (by rw [hu]; intro z; cases z)
    have bbe : Rd HB be (.dK (dV V.str B)) := by rw [eHB, hu]; exact rd_lock hsa trivial (.inl hM.be)
    have bla : Rd HB la (.dK (dV V.ref (Sc.calls.map fun c => (c.1, γ c.1)))) := by rw [eHB, hu]; exact rd_lock hsa trivial (.inl g1)
    have bg : ∀ c ∈ Sc.calls, HB (γ c.1) = some (.ins (He.ga K "Call") (δ c.1) [("worth", .int 0), ("heard", .ref (η c.1))]) ∧ HB (η c.1) = some (.tup (c.2.map V.str)) := fun c hc => ⟨atB (g2 c hc).1 (by rw [hu]; intro z; cases z), atB (g2 c hc).2 (by rw [hu]; intro z; cases z)⟩
    have bse := atB hM.st.at_ (by rw [hu]; intro z; cases z)
    refine ⟨_, rfl, _, _, _, _, _, rfl, eBL _ _ bm1, T.c_Moves, T.a_Moves_seats, rfl, _, _, _, _, _, rfl, eBL _ _ bse, T.c_Seats, T.a_Seats_seating, rfl, x.sa, od, _, rfl, by rw [← hu]; exact eBL _ _ hBd, ?_⟩
    refine for_it walk_itemsL (fun i σ H' => ∃ (v2 v3 v4 v5 : Option V) (E : List Ent), σ = [some (.ref mv), some (.ref fo), v2, v3, v4, v5, none] ∧ Same HB H' ∧ EntsAt Sc S B H' fo E ∧ E.length ≤ i * 8)
      ⟨none, none, none, none, [], rfl, eBL, hLf, Nat.zero_le _⟩ (fun i σ H' _ ⟨_, _, _, _, _, _, e, _⟩ => by rw [← hu]; exact e _ _ hBd) ?_ ?_
    · rintro i y σ H5 H6 hi ⟨v2, v3, v4, v5, E, rfl, e5, hE, hEl⟩ ⟨t, c, hc, rfl, ht, rfl⟩
      have hcm := List.mem_of_getElem? hc
      have hlk := lookup_nodup sit.ok.nd hcm
      have hnc : c.1 ∈ keysL Sc.calls := hsub _ ((sit.keys c.1).mp (mem_keysL.mpr ⟨_, hlk⟩))
      obtain ⟨hs, hhs⟩ := mem_keysL.mp hnc
      have hho : heardOf Sc c.1 = hs := by unfold heardOf; rw [hhs]; rfl
      have hcc := lookup_mem hhs
      obtain ⟨o1, o2, o3, o4, o5⟩ := ok.lw _ hcc
      obtain ⟨q1, q2⟩ := bg _ hcc
      have hmc := sit.ok.min _ _ hlk
      have hi100 : i < 100 := Nat.lt_of_lt_of_le hi hsl
      have e6 : Same HB (upd H5 t (.tup [.str c.1, .str c.2])) := e5.upd ht
      have hE6 := hE.same (Same.new (o := .tup [.str c.1, .str c.2]) ht)
      obtain ⟨H6, eH6⟩ : ∃ H6, H6 = upd H5 t (.tup [.str c.1, .str c.2]) := ⟨_, rfl⟩
      have h6t : H6 t = some (.tup [.str c.1, .str c.2]) := by rw [eH6]; exact upd_same
      rw [← eH6] at e6 hE6 ⊢
      refine ⟨t, _, rfl, sqT h6t, rfl, _, _, rfl, _, _, rfl, rfl, ?_⟩
      refine ⟨_, rfl, _, _, _, _, _, rfl, e6 _ _ bm1, T.c_Moves, T.a_Moves_scene, rfl, _, _, _, _, _, rfl, e6 _ _ bs1, T.c_Scene, T.a_Scene_calls, rfl, _, rfl, la, _, rfl, dgetS (e6.rd bla) (lookup_nodup (by show (keysL _).Nodup; rw [keysL_map]; exact ok.ln) (List.mem_map.mpr ⟨_, hcc, rfl⟩)), _, _, _, _, _, rfl, e6 _ _ q1, T.c_Call, T.a_Call_heard, rfl, _, rfl, ⟨_, sqT (e6 _ _ q2)⟩, ?_⟩
      refine for_it (walk_tupM (K := K) (xs := hs) (f := V.str)) (fun j σ H' => ∃ (v4 v5 : Option V) (E : List Ent), σ = [some (.ref mv), some (.ref fo), some (.str c.1), some (.str c.2), v4, v5, none] ∧ Same HB H' ∧ EntsAt Sc S B H' fo E ∧ E.length ≤ i * 8 + j)
        ⟨v4, v5, E, rfl, e6, hE6, hEl⟩ (fun i σ H' _ ⟨_, _, _, _, e, _⟩ => sqT (e _ _ q2)) ?_ ?_
      · rintro j y σ H7 H8 hj ⟨v4, v5, E, rfl, e7, hE7, hEl⟩ ⟨rfl, hx⟩
        obtain ⟨a, ha⟩ : ∃ a, hs[j]? = some a := ⟨_, List.getElem?_eq_getElem hj⟩
        obtain rfl : y = .str a := by
          rw [List.getElem?_map, ha] at hx
          exact (Option.some.inj hx).symm
        have hah : a ∈ hs := List.mem_of_getElem? ha
        have hj8 : j < 8 := Nat.lt_of_lt_of_le hj o5
        have nxt : ∀ {H9 : Hp} {E' : List Ent} {v5 : Option V}, Same HB H9 → EntsAt Sc S B H9 fo E' → E'.length ≤ E.length + 1 → ∃ (v4 v5' : Option V) (E : List Ent), ([some (.ref mv), some (.ref fo), some (.str c.1), some (.str c.2), some (.str a), v5, none] : L2.St) = [some (.ref mv), some (.ref fo), some (.str c.1), some (.str c.2), v4, v5', none] ∧ Same HB H9 ∧ EntsAt Sc S B H9 fo E ∧ E.length ≤ i * 8 + (j + 1) := fun e h hl => ⟨_, _, _, rfl, e, h, by omega⟩
        refine ⟨_, rfl, mv, dxm, _, rfl, e7 _ _ bm1, rfl, _, rfl, _, rfl, mv, dxm, be, _, _, c.1, a, B, rfl, e7 _ _ bm1, e7.rd bbe, ?_⟩
        refine ⟨_, rfl, mv, dxm, _, rfl, e7 _ _ bm1, rfl, _, rfl, _, rfl, mv, dxm, be, _, _, c.1, c.2, B, rfl, e7 _ _ bm1, e7.rd bbe, _, _, rfl, rfl, ?_⟩
        refine ⟨_, rfl, _, rfl, rfl, _, rfl, itB (fun hne => ?_) fun _ => itF (nxt e7 hE7 (by omega))⟩
        have hne' : a ≠ c.2 := fun z => by
          rw [z] at hne
          simp at hne
        refine ⟨_, rfl, _, rfl, fo, rfl, .inr ⟨_, .inl hE7.at_⟩, _, rfl, _, rfl, sz2, fun kt hkt => ⟨sz2, fun t9 ht9 => ?_⟩⟩
        obtain ⟨H9, eH9⟩ : ∃ H9, H9 = upd (upd H8 kt (.tup [.str c.2, .str a])) t9 (.tup [.int 9, .str ""]) := ⟨_, rfl⟩
        have e89 : Same H8 H9 := by rw [eH9]; exact (Same.new hkt).upd ht9
        have hE9 := hE7.same e89
        have h9t : H9 t9 = some (.tup [.int 9, .str ""]) := by rw [eH9]; exact upd_same
        have h9k : H9 kt = some (.tup [.str c.2, .str a]) := by rw [eH9, upd_ne (fun e => by rw [← e, upd_same] at ht9; cases ht9)]; exact upd_same
        rw [← eH9]
        have e9 := e7.trans e89
        refine ⟨_, .inr ⟨_, kS [c.2, a], kt, .inl hE9.at_, rfl, h9k, rfl⟩, ?_⟩
        have hval : ∃ (b : Addr) (w' : Int) (n' : Str), (valV (E.map entV) (kS [c.2, a])).getD (.ref t9) = .ref b ∧ H9 b = some (.tup [.int w', .str n']) := by
          cases hv : valV (E.map entV) (kS [c.2, a]) with
          | none => exact ⟨t9, _, _, rfl, h9t⟩
          | some v =>
            obtain ⟨e, he, rfl⟩ := ent_val hv
            exact ⟨e.ad, _, _, rfl, hE9.val e he⟩
        obtain ⟨b, w', n', hb, hH⟩ := hval
        refine ⟨b, _, 0, .int w', hb, rfl, sqT hH, atI0 _ _, _, _, rfl, rfl, _, rfl, itB (fun _ => ?_) fun _ => nxt e9 hE9 (by omega)⟩
        refine ⟨_, rfl, _, rfl, sz2, fun t2 ht2 => ⟨_, rfl, _, rfl, _, rfl, sz2, fun k2 hk2 => ?_⟩⟩
        obtain ⟨HA, eHA⟩ : ∃ HA, HA = upd (upd H9 t2 (.tup [.int (costOf B c.1 a - costOf B c.1 c.2), .str c.1])) k2 (.tup [.str c.2, .str a]) := ⟨_, rfl⟩
        have e9A : Same H9 HA := by rw [eHA]; exact (Same.new ht2).upd hk2
        have hAt : HA t2 = some (.tup [.int (costOf B c.1 a - costOf B c.1 c.2), .str c.1]) := by rw [eHA, upd_ne (fun e => by rw [← e, upd_same] at hk2; cases hk2)]; exact upd_same
        have hAk : HA k2 = some (.tup [.str c.2, .str a]) := by rw [eHA]; exact upd_same
        rw [← eHA]
        have hn0 : c.1 ≠ "" := fun z => by
          have o1' : isNameB c.1 = true := o1
          rw [z] at o1'
          exact absurd o1' (by decide +kernel)
        obtain ⟨HC, E', hput, hE', hlE', u', rfl⟩ := (hE9.same e9A).put hAt hAk ⟨.inl ⟨hlk, by rw [hho]; exact hah, hne', rfl, hn0, hmc, o3 a hah⟩⟩ (by omega)
        exact ⟨fo, _, rfl, hput, nxt ((e9.trans e9A).turn fB) hE' (by omega)⟩
      · rintro σ H7 ⟨v4, v5, E, rfl, e7, hE7, hEl⟩
        have h8 : hs.length ≤ 8 := o5
        exact ⟨_, _, _, _, E, rfl, e7, hE7, by omega⟩
    rintro σ H5 ⟨v2, v3, v4, v5, E, rfl, e5, hE, hEl⟩
    have h5d := e5 _ _ hBd
    refine ⟨h5d, ?_⟩
    have eT : Same H (upd H5 x.sa u) := same_lock hsa' (by rw [← eHB]; exact e5)
    have hET : EntsAt Sc S B (upd H5 x.sa u) fo E := hE.updN h5d (fun k z => by cases z) (fun k z => by cases z)
    obtain ⟨H6, eH6⟩ : ∃ H6, H6 = upd H5 x.sa u := ⟨_, rfl⟩
    rw [← eH6] at eT hET ⊢
    have hE8 : E.length ≤ 800 := by omega
    clear eH6 hE e5 h5d bg bla bbe bs1 bm1 bse hLf eBL fB hBd hEl
    -- the rooms
    have h6ca := eT _ _ s2
    have ncf : ca ≠ fo := ne_of_none s2 hfo
    refine ⟨ca, .dK (dV V.int Sc.chan), h6ca, trivial, fun od2 => ?_⟩
    obtain ⟨HB2, eHB2⟩ : ∃ HB2, HB2 = upd H ca (.frz od2 (.dK (dV V.int Sc.chan))) := ⟨_, rfl⟩
    obtain ⟨HL2, eHL2⟩ : ∃ HL2, HL2 = upd H6 ca (.frz od2 (.dK (dV V.int Sc.chan))) := ⟨_, rfl⟩
    rw [← eHL2]
    have fB2 : HB2 fo = none := by rw [eHB2, upd_ne ncf.symm]; exact hfo
    have eBL2 : Same HB2 HL2 := fun b o q => by
      rw [eHL2]
      rw [eHB2] at q
      by_cases hb : b = ca
      · rw [hb, upd_same] at q ⊢
        exact q
      · rw [upd_ne hb] at q ⊢
        exact eT _ _ q
    have hBc : HB2 ca = some (.frz od2 (.dK (dV V.int Sc.chan))) := by rw [eHB2]; exact upd_same
    have hEL : EntsAt Sc S B HL2 fo E := by rw [eHL2]; exact hET.updN h6ca (fun k z => by cases z) (fun k z => by cases z)
    have cm1 : HB2 mv = some (.ins (He.ga K "Moves") dxm [("scene", .ref x.sc), ("before", .ref be), ("seats", .ref x.se)]) := by rw [eHB2]; exact at_lock s2 m1 (by intro z; cases z)
    have cs1 : HB2 x.sc = some (.ins (He.ga K "Scene") dxs [("channels", .ref ca), ("calls", .ref la)]) := by rw [eHB2]; exact at_lock s2 s1 (by intro z; cases z)
    have hCR : ChanRd K HB2 x.sc Sc := ⟨dxs, ca, la, cs1, by rw [eHB2]; exact rd_lock s2 trivial (.inl s2)⟩
    have hSB : Sc.chan ≠ [] → SeatsAt K HB2 x (keysL Sc.chan) S := fun hne => by
      obtain ⟨c0, r0, hcr⟩ : ∃ c r, Sc.chan = c :: r := by
        cases hh : Sc.chan with
        | nil => exact absurd hh hne
        | cons c r => exact ⟨c, r, rfl⟩
      rw [eHB2]
      refine hM.st.updN (fun e => ?_) (fun e => ?_) ?_
      · rw [e, hM.st.at_] at s2
        cases s2
      · rw [e, hM.st.ta, hcr] at s2
        injection s2 with s2
        injection s2 with s2
        injection s2 with s2
        injection s2 with _ s2
        cases s2
      · rintro (e | ⟨m, hm, e⟩)
        · rw [e, hM.st.sa, hcr] at s2
          injection s2 with s2
          injection s2 with s2
          cases hss : S.seating with
          | nil => rw [hss] at s2; cases s2
          | cons c1 r1 =>
            rw [hss] at s2
            injection s2 with s2
            injection s2 with _ s2
            cases s2
        · rw [e, hM.st.lam m hm] at s2
          cases s2
    refine ⟨_, rfl, _, _, _, _, _, rfl, eBL2 _ _ cm1, T.c_Moves, T.a_Moves_scene, rfl, _, _, _, _, _, rfl, eBL2 _ _ cs1, T.c_Scene, T.a_Scene_channels, rfl, ca, od2, rfl, .inl ⟨_, eBL2 _ _ hBc, ?_⟩⟩
    refine for_it walk_keysL (fun i σ H' => ∃ (v3 : Option V) (E : List Ent), σ = [some (.ref mv), some (.ref fo), v2, v3, v4, v5, none] ∧ Same HB2 H' ∧ EntsAt Sc S B H' fo E ∧ E.length ≤ 800 + i * 2)
      ⟨v3, E, rfl, eBL2, hEL, by omega⟩ (fun i σ H' _ ⟨_, _, _, e, _⟩ => e _ _ hBc) ?_ ?_
    · rintro i y σ H7 H8 hi ⟨v3, E, rfl, e7, hE7, hEl⟩ ⟨rfl, c, hc, rfl⟩
      have hcm := List.mem_of_getElem? hc
      have hck : c.1 ∈ keysL Sc.chan := List.mem_map.mpr ⟨c, hcm, rfl⟩
      have hi8 : i < 8 := Nat.lt_of_lt_of_le hi ok.cl
      have hS8 := (hSB (fun z => by rw [z] at hcm; cases hcm)).same e7
      refine ⟨_, rfl, mv, _, dxm, _, _, rfl, e7 _ _ cm1, T.c_Moves, T.a_Moves_seats, rfl, x.se, x.dx, _, rfl, hS8.at_, rfl, _, rfl, x, Sc, S, c.1, rfl, hS8, ?_, ok, hck, fun H9 e9 => ⟨_, rfl, ?_⟩⟩
      · obtain ⟨d1, d2, d3, d4, d5⟩ := hCR
        exact ⟨d1, d2, d3, e7 _ _ d4, e7.rd d5⟩
      have e9' := e7.trans e9
      have hE9 := hE7.same e9
      refine itB (fun _ => ?_) fun _ => ?_
      · skip
        refine ⟨sz2, fun t2 ht2 => ⟨_, rfl, _, rfl, sz2, fun k2 hk2 => ?_⟩⟩
        obtain ⟨HA, eHA⟩ : ∃ HA, HA = upd (upd H9 t2 (.tup [.int 0, .str ""])) k2 (.tup [.str c.1, .str ""]) := ⟨_, rfl⟩
        have e9A : Same H9 HA := by rw [eHA]; exact (Same.new ht2).upd hk2
        have hAt : HA t2 = some (.tup [.int 0, .str ""]) := by rw [eHA, upd_ne (fun e => by rw [← e, upd_same] at hk2; cases hk2)]; exact upd_same
        have hAk : HA k2 = some (.tup [.str c.1, .str ""]) := by rw [eHA]; exact upd_same
        rw [← eHA]
        obtain ⟨HC, E', hput, hE', hlE', u', hC⟩ := (hE9.same e9A).put hAt hAk ⟨.inr (.inl ⟨hck, rfl, rfl, rfl⟩)⟩ (by omega)
        have eC : Same HB2 HC := by rw [hC]; exact (e9'.trans e9A).turn fB2
        refine ⟨fo, HC, rfl, hput, ?_⟩
        clear hAt hAk hput eHA e9A hC
        refine ⟨sz2, fun t3 ht3 => ⟨_, rfl, _, rfl, sz2, fun k3 hk3 => ?_⟩⟩
        obtain ⟨HX, eHX⟩ : ∃ HX, HX = upd (upd HC t3 (.tup [.int 0, .str ""])) k3 (.tup [.str "", .str c.1]) := ⟨_, rfl⟩
        have e9X : Same HC HX := by rw [eHX]; exact (Same.new ht3).upd hk3
        have hAt : HX t3 = some (.tup [.int 0, .str ""]) := by rw [eHX, upd_ne (fun e => by rw [← e, upd_same] at hk3; cases hk3)]; exact upd_same
        have hAk : HX k3 = some (.tup [.str "", .str c.1]) := by rw [eHX]; exact upd_same
        rw [← eHX]
        obtain ⟨HD, E2, hput2, hE2, hlE2, u2, hD⟩ := (hE'.same e9X).put hAt hAk ⟨.inr (.inr ⟨rfl, hck, rfl, rfl⟩)⟩ (by omega)
        exact ⟨fo, HD, rfl, hput2, _, E2, rfl, by rw [hD]; exact (eC.trans e9X).turn fB2, hE2, by omega⟩
      · skip
        refine ⟨sz2, fun t2 ht2 => ⟨_, rfl, _, rfl, sz2, fun k2 hk2 => ?_⟩⟩
        obtain ⟨HA, eHA⟩ : ∃ HA, HA = upd (upd H9 t2 (.tup [.int 0, .str ""])) k2 (.tup [.str "", .str c.1]) := ⟨_, rfl⟩
        have e9A : Same H9 HA := by rw [eHA]; exact (Same.new ht2).upd hk2
        have hAt : HA t2 = some (.tup [.int 0, .str ""]) := by rw [eHA, upd_ne (fun e => by rw [← e, upd_same] at hk2; cases hk2)]; exact upd_same
        have hAk : HA k2 = some (.tup [.str "", .str c.1]) := by rw [eHA]; exact upd_same
        rw [← eHA]
        obtain ⟨HD, E2, hput2, hE2, hlE2, u2, hD⟩ := (hE9.same e9A).put hAt hAk ⟨.inr (.inr ⟨rfl, hck, rfl, rfl⟩)⟩ (by omega)
        exact ⟨fo, HD, rfl, hput2, _, E2, rfl, by rw [hD]; exact (e9'.trans e9A).turn fB2, hE2, by omega⟩
    rintro σ H7 ⟨v3, E, rfl, e7, hE7, hEl⟩
    have h7d := e7 _ _ hBc
    refine ⟨h7d, ?_⟩
    have eF : Same H (upd H7 ca (.dK (dV V.int Sc.chan))) := same_lock s2 (by rw [← eHB2]; exact e7)
    have hEF : EntsAt Sc S B (upd H7 ca (.dK (dV V.int Sc.chan))) fo E := hE7.updN h7d (fun k z => by cases z) (fun k z => by cases z)
    obtain ⟨H8, eH8⟩ : ∃ H8, H8 = upd H7 ca (.dK (dV V.int Sc.chan)) := ⟨_, rfl⟩
    rw [← eH8] at eF hEF ⊢
    have hE9 : E.length ≤ 900 := by
      have := ok.cl
      omega
    -- the list
    refine ⟨_, rfl, .inr (.inr (.inl ⟨rfl, .inr ⟨_, hEF.at_⟩⟩)), fo, E.map entV, rfl, rfl, hEF.at_, fun p hp => ⟨p, fo, E, rfl, upd_same, by rw [upd_ne (ne_of_none hEF.at_ hp)]; exact hEF.at_, by omega, fun e he => by rw [upd_ne (ne_of_none (hEF.val e he) hp)]; exact hEF.val e he, fun H9 l ps e9 hl0 hl hperm hps => ⟨l, rfl, ⟨_, sqL hl⟩, fun D hD => ?_⟩⟩⟩
    have e89 : Same H8 H9 := (Same.new hp).trans e9
    have hE9' := hEF.same e89
    have hpl : ps.length ≤ 900 := by
      have := hperm.length_eq
      rw [List.length_map] at this
      omega
    refine lc_it (walk_listM (K := K) (xs := ps) (f := fun z => V.ref z.1)) (fun i H' => Same H9 H' ∧ ∃ bs : List Addr, H' D = some (.lst (bs.map V.ref)) ∧ bs.length = i ∧ ∀ (j : Nat) (b : Addr) (z : Addr × Ent), bs[j]? = some b → ps[j]? = some z → H' b = some (.tup [.int (arcE z.2).w, .str (arcE z.2).m, .str (arcE z.2).o, .str (arcE z.2).n]))
      ⟨Same.new hD, [], upd_same, rfl, fun j b z h => by cases h⟩ (fun i H' _ q => sqL (q.1 _ _ hl)) ?_ ?_
    · rintro i y HX HY hi ⟨eX, bs, hbD, hbl, hbt⟩ ⟨rfl, hx⟩
      obtain ⟨z, hz⟩ : ∃ z, ps[i]? = some z := ⟨_, List.getElem?_eq_getElem hi⟩
      obtain rfl : y = .ref z.1 := by
        rw [List.getElem?_map, hz] at hx
        exact (Option.some.inj hx).symm
      have hzm := List.mem_of_getElem? hz
      have hzE : z.2 ∈ E := hperm.mem_iff.mp (List.mem_map_of_mem hzm)
      obtain ⟨q, f1, f2⟩ := hps z hzm
      obtain ⟨m, o, hk, _⟩ := hEF.ok z.2 hzE
      have f3 := eX _ _ (hE9'.val z.2 hzE)
      have f1 := eX _ _ f1
      have f2 := eX _ _ f2
      rw [hk] at f2
      refine ⟨z.1, _, rfl, sqT f1, rfl, _, _, rfl, _, _, rfl, ⟨z.2.ad, _, rfl, sqT f3, rfl, _, _, rfl, _, _, rfl, rfl, ?_⟩⟩
      refine ⟨rfl, rfl, yesT (itT ⟨_, rfl, _, rfl, q, _, 0, .str m, rfl, rfl, sqT f2, atI0 _ _, _, rfl, q, _, 1, .str o, rfl, rfl, sqT f2, atI1 _ _ _, _, rfl, sz4, fun t ht => ⟨_, ?_, szL (n := (bs.map V.ref).length) (by rw [List.length_map]; omega), (eX.upd ht).turn hD, bs ++ [t], by rw [upd_same, List.map_append]; rfl, by rw [List.length_append, hbl]; rfl, fun j b z' hb hz' => ?_⟩⟩)⟩
      · rw [upd_ne (ne_of_none hbD ht)]
        exact hbD
      · have nDt : D ≠ t := ne_of_none hbD ht
        by_cases hj : j < bs.length
        · rw [List.getElem?_append_left hj] at hb
          have q := hbt j b z' hb hz'
          rw [upd_ne (fun e => by rw [e, hbD] at q; cases q), upd_ne (ne_of_none q ht)]
          exact q
        · have hj2 : j = i := by
            have := (List.getElem?_eq_some_iff.mp hb).1
            rw [List.length_append, List.length_singleton] at this
            omega
          rw [hj2, ← hbl, List.getElem?_append_right (Nat.le_refl _), Nat.sub_self] at hb
          cases hb
          rw [hj2, hz] at hz'
          cases hz'
          rw [upd_ne nDt.symm, upd_same]
          unfold arcE
          rw [hk]
          rfl
    · rintro HX ⟨eX, bs, hbD, hbl, hbt⟩
      have eAll : Same H HX := (eF.trans e89).trans eX
      refine k HX D (ps.map fun z => arcE z.2) eAll (none_back (eF.trans e89) hD) ⟨bs, hbD, by rw [hbl, List.length_map], fun i b a hb ha => ?_⟩ (fun a ha => ?_) (by rw [List.length_map]; omega)
      · rw [List.getElem?_map] at ha
        obtain ⟨z, hz, rfl⟩ := Option.map_eq_some_iff.mp ha
        exact hbt i b z hb hz
      · obtain ⟨z, hz, rfl⟩ := List.mem_map.mp ha
        obtain ⟨m, o, hk, aok⟩ := hEF.ok z.2 (hperm.mem_iff.mp (List.mem_map_of_mem hz))
        unfold arcE
        rw [hk]
        exact aok
end
end MC
end
section
set_option Elab.async false
set_option linter.all false
set_option maxRecDepth 100000
set_option maxHeartbeats 4000000
/-! The rounds over the arcs, in plain terms. -/
namespace MC
open PySem
def dOf (least : List (Str × Int)) (v : Str) : Int := (least.lookup v).getD 0
structure BF (V : List Str) (A : List Arc) (least : List (Str × Int)) (last : List (Str × (Str × Str))) (rd tau : Str → Nat) (clk k j : Nat) : Prop where
  lk : ∀ v, v ∈ keysL least ↔ v ∈ V
  lnd : (keysL least).Nodup
  nd : (keysL last).Nodup
  lv : ∀ v ∈ keysL last, v ∈ V
  arc : ∀ v u n, last.lookup v = some (u, n) → u ∈ V ∧ ∃ a ∈ A, a.m = u ∧ a.o = v ∧ a.n = n ∧ dOf least u + a.w ≤ dOf least v ∧ (tau v < tau u → dOf least u + a.w < dOf least v)
  tle : ∀ v, tau v ≤ clk
  tpos : ∀ v, v ∈ keysL last → 0 < tau v
  tinj : ∀ u v, tau u = tau v → 0 < tau u → u = v
  rpos : ∀ v, 0 < rd v → v ∈ keysL last
  rle : ∀ v, rd v ≤ k + 1
  chain : ∀ v u n, last.lookup v = some (u, n) → rd v ≤ rd u + 1
  done : ∀ (i : Nat) (a : Arc), i < j → A[i]? = some a → dOf least a.o ≤ dOf least a.m + a.w ∨ k + 1 ≤ rd a.m
  todo : ∀ (i : Nat) (a : Arc), j ≤ i → A[i]? = some a → k = 0 ∨ dOf least a.o ≤ dOf least a.m + a.w ∨ k ≤ rd a.m
section
variable {V : List Str} {A : List Arc} {least : List (Str × Int)} {last : List (Str × (Str × Str))} {rd tau : Str → Nat} {clk k j : Nat}
theorem dOf_put {v x : Str} {i : Int} : dOf (putL least x i) v = if v = x then i else dOf least v := by
  unfold dOf
  rw [lookup_putL]
  split <;> rfl
theorem BF.start (h0 : ∀ v, v ∈ keysL least ↔ v ∈ V) (hn : (keysL least).Nodup) (A : List Arc) : BF V A least [] (fun _ => 0) (fun _ => 0) 0 0 0 :=
  ⟨h0, hn, List.nodup_nil, fun _ h => absurd h List.not_mem_nil, fun _ _ _ h => (by cases h), fun _ => Nat.le_refl _, fun _ h => absurd h List.not_mem_nil, fun _ _ _ h => absurd h (Nat.lt_irrefl _), fun _ h => absurd h (Nat.lt_irrefl _), fun _ => Nat.zero_le _, fun _ _ _ h => (by cases h), fun _ _ h => absurd h (Nat.not_lt_zero _), fun _ _ _ _ => .inl rfl⟩
/-- nothing to better -/
theorem BF.skip (h : BF V A least last rd tau clk k j) {a : Arc} (ha : A[j]? = some a) (hc : dOf least a.o ≤ dOf least a.m + a.w) : BF V A least last rd tau clk k (j + 1) :=
  { h with
    done := fun i b hi hb => by
      rcases Nat.lt_or_ge i j with hlt | hge
      · exact h.done i b hlt hb
      · have : i = j := by omega
        rw [this, ha] at hb
        cases hb
        exact .inl hc
    todo := fun i b hi hb => h.todo i b (by omega) hb }
/-- a better price -/
theorem BF.relax (h : BF V A least last rd tau clk k j) {a : Arc} (ha : A[j]? = some a) (hm : a.m ∈ V) (ho : a.o ∈ V) (hne : a.m ≠ a.o) (hc : dOf least a.m + a.w < dOf least a.o) :
    BF V A (putL least a.o (dOf least a.m + a.w)) (putL last a.o (a.m, a.n)) (fun v => if v = a.o then k + 1 else rd v) (fun v => if v = a.o then clk + 1 else tau v) (clk + 1) k (j + 1) := by
  have haA : a ∈ A := List.mem_of_getElem? ha
  refine ⟨fun v => ?_, nodup_putL h.lnd, nodup_putL h.nd, fun v hv => ?_, fun v u n hl => ?_, fun v => ?_, fun v hv => ?_, fun u v he hp => ?_, fun v hv => ?_, fun v => ?_, fun v u n hl => ?_, fun i b hi hb => ?_, fun i b hi hb => ?_⟩
  · rw [mem_keys_putL, h.lk]
    exact ⟨fun z => z.elim (fun e => e ▸ ho) id, .inr⟩
  · rcases mem_keys_putL.mp hv with rfl | hv
    · exact ho
    · exact h.lv v hv
  · rw [lookup_putL] at hl
    by_cases hv : v = a.o
    · rw [if_pos hv] at hl
      cases hl
      refine ⟨hm, a, haA, rfl, hv.symm, rfl, ?_, fun ht => ?_⟩
      · rw [dOf_put, dOf_put, if_pos hv, if_neg hne]
        exact Int.le_refl _
      · skip
        rw [if_pos hv, if_neg hne] at ht
        have := h.tle a.m
        omega
    · rw [if_neg hv] at hl
      obtain ⟨h1, b, hb, b1, b2, b3, b4, b5⟩ := h.arc v u n hl
      refine ⟨h1, b, hb, b1, b2, b3, ?_, fun ht => ?_⟩
      · rw [dOf_put, dOf_put, if_neg hv]
        split
        · next e => rw [e] at b4; omega
        · exact b4
      · skip
        rw [if_neg hv] at ht
        rw [dOf_put, dOf_put, if_neg hv]
        split
        · next e => rw [e] at b4; omega
        · next e =>
          rw [if_neg e] at ht
          exact b5 ht
  · skip
    split
    · exact Nat.le_refl _
    · have := h.tle v
      omega
  · skip
    split
    · omega
    · next e => exact h.tpos v ((mem_keys_putL.mp hv).resolve_left e)
  · skip
    have t1 := h.tle u
    have t2 := h.tle v
    split at he <;> split at he
    · next e1 e2 => rw [e1, e2]
    · omega
    · omega
    · next e1 e2 =>
      rw [if_neg e1] at hp
      exact h.tinj u v he hp
  · skip
    rw [mem_keys_putL]
    split at hv
    · next e => exact .inl e
    · exact .inr (h.rpos v hv)
  · skip
    split
    · exact Nat.le_refl _
    · exact h.rle v
  · rw [lookup_putL] at hl
    by_cases hv : v = a.o
    · rw [if_pos hv] at hl
      cases hl
      rw [if_pos hv, if_neg hne]
      rcases h.todo j a (Nat.le_refl _) ha with q | q | q
      · omega
      · omega
      · omega
    · rw [if_neg hv] at hl ⊢
      have := h.chain v u n hl
      split
      · next e =>
        have := h.rle u
        rw [← e] at *
        have := h.rle v
        omega
      · exact this
  · skip
    rw [dOf_put, dOf_put]
    rcases Nat.lt_or_ge i j with hlt | hge
    · by_cases e1 : b.m = a.o
      · rw [if_pos e1]
        exact .inr (by rw [if_pos e1] <;> exact Nat.le_refl _)
      · rw [if_neg e1, if_neg e1]
        rcases h.done i b hlt hb with q | q
        · left
          split
          · next e => rw [e] at q; omega
          · exact q
        · exact .inr q
    · have : i = j := by omega
      rw [this, ha] at hb
      cases hb
      rw [if_pos rfl, if_neg hne]
      exact .inl (Int.le_refl _)
  · skip
    rw [dOf_put, dOf_put]
    by_cases e1 : b.m = a.o
    · rw [if_pos e1]
      exact .inr (.inr (by rw [if_pos e1]; exact Nat.le_succ _))
    · rw [if_neg e1, if_neg e1]
      rcases h.todo i b (by omega) hb with q | q | q
      · exact .inl q
      · right; left
        split
        · next e => rw [e] at q; omega
        · exact q
      · exact .inr (.inr q)
/-- the next round -/
theorem BF.next (h : BF V A least last rd tau clk k A.length) : BF V A least last rd tau clk (k + 1) 0 :=
  { h with
    rle := fun v => Nat.le_succ_of_le (h.rle v)
    done := fun i a hi => absurd hi (Nat.not_lt_zero _)
    todo := fun i a _ ha => .inr (by
      have := (List.getElem?_eq_some_iff.mp ha).1
      exact h.done i a this ha) }
end
end MC
end
section
set_option Elab.async false
set_option linter.all false
set_option maxRecDepth 100000
set_option maxHeartbeats 4000000
/-! The ring behind the rounds, in plain terms. -/
namespace MC
open PySem
/-- where one comes from -/
def fromL (last : List (Str × (Str × Str))) (v : Str) : Str := ((last.lookup v).getD (v, "")).1
def itL (last : List (Str × (Str × Str))) : Nat → Str → Str
  | 0, v => v
  | t + 1, v => fromL last (itL last t v)
section
variable {last : List (Str × (Str × Str))}
theorem itL_add (a b : Nat) (v : Str) : itL last (a + b) v = itL last a (itL last b v) := by
  induction a with
  | zero => rw [Nat.zero_add]; rfl
  | succ a ih => rw [Nat.succ_add]; show fromL last _ = fromL last _; rw [ih]
theorem pigeon {g : Nat → Str} {l : List Str} {m : Nat} (hg : ∀ i, i ≤ m → g i ∈ l) (hl : l.length ≤ m) : ∃ i j, i < j ∧ j ≤ m ∧ g i = g j := by
  refine Classical.byContradiction fun hn => ?_
  have hnd : ((List.range (m + 1)).map g).Nodup := by
    unfold List.Nodup
    rw [List.pairwise_map]
    refine List.Pairwise.imp_of_mem (fun {a b} ha hb hlt e => ?_) (List.pairwise_lt_range (n := m + 1))
    have hb' := List.mem_range.mp hb
    exact hn ⟨a, b, hlt, by omega, e⟩
  have := nodup_le hnd (m := l) fun x hx => by
    obtain ⟨i, hi, rfl⟩ := List.mem_map.mp hx
    exact hg i (by have := List.mem_range.mp hi; omega)
  rw [List.length_map, List.length_range] at this
  omega
theorem least_nat {P : Nat → Prop} : ∀ n, P n → ∃ m, m ≤ n ∧ P m ∧ ∀ k, k < m → ¬ P k := by
  intro n
  induction n using Nat.strongRecOn with
  | ind n ih =>
    intro h
    by_cases hex : ∃ k, k < n ∧ P k
    · obtain ⟨k, hk, hp⟩ := hex
      obtain ⟨m, m1, m2, m3⟩ := ih k hk hp
      exact ⟨m, by omega, m2, m3⟩
    · exact ⟨n, Nat.le_refl _, h, fun k hk hp => hex ⟨k, hk, hp⟩⟩
/-- once met again, always the same -/
theorem per_all {x : Str} {i p : Nat} (h : itL last (i + p) x = itL last i x) (r : Nat) : itL last (i + r + p) x = itL last (i + r) x := by
  have e1 : i + r + p = r + (i + p) := by omega
  have e2 : i + r = r + i := by omega
  rw [e1, e2, itL_add r (i + p), itL_add r i, h]
end
section
variable {V : List Str} {A : List Arc} {least : List (Str × Int)} {last : List (Str × (Str × Str))} {rd tau : Str → Nat} {clk j : Nat} {x : Str}
theorem BF.get {k : Nat} (h : BF V A least last rd tau clk k j) {v : Str} (hv : v ∈ keysL last) : ∃ n, last.lookup v = some (fromL last v, n) ∧ fromL last v ∈ V := by
  obtain ⟨⟨u, n⟩, hl⟩ := mem_keysL.mp hv
  have e : fromL last v = u := by unfold fromL; rw [hl]; rfl
  rw [e]
  exact ⟨n, hl, (h.arc v u n hl).1⟩
/-- behind as many rounds as there are places, one more: the way back never ends -/
theorem BF.back (h : BF V A least last rd tau clk V.length j) (hx : rd x = V.length + 1) : ∀ t, itL last t x ∈ keysL last := by
  have h1 : ∀ t, t ≤ V.length → V.length + 1 ≤ rd (itL last t x) + t := by
    intro t
    induction t with
    | zero => intro _; show _ ≤ rd x + 0; omega
    | succ t ih =>
      intro ht
      have q := ih (by omega)
      have hp : itL last t x ∈ keysL last := h.rpos _ (by omega)
      obtain ⟨n, hl, _⟩ := h.get hp
      have := h.chain _ _ _ hl
      show _ ≤ rd (fromL last (itL last t x)) + (t + 1)
      omega
  have h2 : ∀ t, t ≤ V.length → itL last t x ∈ keysL last := fun t ht => h.rpos _ (by have := h1 t ht; omega)
  obtain ⟨i, j', hij, hj, he⟩ := pigeon (g := fun t => itL last t x) (l := V) (m := V.length) (fun t ht => h.lv _ (h2 t ht)) (Nat.le_refl _)
  obtain ⟨p, rfl⟩ : ∃ p, j' = i + p := ⟨j' - i, by omega⟩
  intro t
  induction t using Nat.strongRecOn with
  | ind t ih =>
    by_cases ht : t ≤ V.length
    · exact h2 t ht
    · have := per_all he.symm (t - p - i)
      have e1 : i + (t - p - i) + p = t := by omega
      have e2 : i + (t - p - i) = t - p := by omega
      rw [e1, e2] at this
      rw [this]
      exact ih (t - p) (by omega)
def sumN (f : Nat → Int) : Nat → Int
  | 0 => 0
  | p + 1 => sumN f p + f p
theorem sumN_le {f g : Nat → Int} {p : Nat} (h : ∀ t, t < p → f t ≤ g t) : sumN f p ≤ sumN g p := by
  induction p with
  | zero => exact Int.le_refl _
  | succ p ih =>
    have := ih fun t ht => h t (by omega)
    have := h p (by omega)
    show sumN f p + f p ≤ sumN g p + g p
    omega
theorem sumN_lt {f g : Nat → Int} {p t : Nat} (h : ∀ t, t < p → f t ≤ g t) (ht : t < p) (hs : f t < g t) : sumN f p < sumN g p := by
  induction p with
  | zero => omega
  | succ p ih =>
    have h0 := h p (by omega)
    show sumN f p + f p < sumN g p + g p
    by_cases e : t = p
    · subst e
      have := sumN_le (f := f) (g := g) (p := t) fun t ht => h t (by omega)
      omega
    · have := ih (fun t ht => h t (by omega)) (by omega)
      omega
theorem sumN_tele {d : Nat → Int} (p : Nat) : sumN (fun t => d t - d (t + 1)) p = d 0 - d p := by
  induction p with
  | zero => show (0 : Int) = _; omega
  | succ p ih => show sumN _ p + (d p - d (p + 1)) = _; rw [ih]; omega
theorem sumN_list (f : Nat → Int) (p : Nat) : ((List.range p).map f).sum = sumN f p := by
  induction p with
  | zero => rfl
  | succ p ih =>
    rw [List.range_succ, List.map_append, List.sum_append, ih]
    show sumN f p + _ = sumN f p + f p
    simp
/-- the ring: its places, its arcs -/
structure RingF (A : List Arc) (last : List (Str × (Str × Str))) (s : Str) (p : Nat) (W : Nat → Arc) : Prop where
  pos : 0 < p
  clo : itL last p s = s
  new : ∀ t, 0 < t → t < p → itL last t s ≠ s
  get : ∀ t, last.lookup (itL last t s) = some (itL last (t + 1) s, (W t).n)
  inA : ∀ t, W t ∈ A
  m : ∀ t, (W t).m = itL last (t + 1) s
  o : ∀ t, (W t).o = itL last t s
  neg : sumN (fun t => (W t).w) p < 0
  few : p ≤ last.length
theorem BF.ring (h : BF V A least last rd tau clk V.length j) (hx : rd x = V.length + 1) (hA : ∀ a ∈ A, a.m ≠ a.o) : ∃ p W, RingF A last (itL last (last.length + 1) x) p W := by
  have hb := h.back hx
  obtain ⟨i, j', hij, hj, he⟩ := pigeon (g := fun t => itL last t x) (l := keysL last) (m := last.length) (fun t _ => hb t) (by unfold keysL; rw [List.length_map]; exact Nat.le_refl _)
  obtain ⟨p0, rfl⟩ : ∃ p, j' = i + p := ⟨j' - i, by omega⟩
  obtain ⟨s, es⟩ : ∃ s, s = itL last (last.length + 1) x := ⟨_, rfl⟩
  rw [← es]
  have hit : ∀ t, itL last t s ∈ keysL last := fun t => by rw [es, ← itL_add]; exact hb _
  have hper : itL last p0 s = s := by
    have := per_all he.symm (last.length + 1 - i)
    have e2 : i + (last.length + 1 - i) = last.length + 1 := by omega
    rw [e2] at this
    rw [es, ← itL_add, Nat.add_comm]
    exact this
  obtain ⟨p, p1, ⟨p2, p3⟩, p4⟩ := least_nat (P := fun p => 0 < p ∧ itL last p s = s) p0 ⟨by omega, hper⟩
  have harc : ∀ t, ∃ a ∈ A, a.m = itL last (t + 1) s ∧ a.o = itL last t s ∧ last.lookup (itL last t s) = some (itL last (t + 1) s, a.n) ∧ dOf least (itL last (t + 1) s) + a.w ≤ dOf least (itL last t s) ∧ (tau (itL last t s) < tau (itL last (t + 1) s) → dOf least (itL last (t + 1) s) + a.w < dOf least (itL last t s)) := fun t => by
    obtain ⟨n, hl, _⟩ := h.get (hit t)
    obtain ⟨_, a, ha, a1, a2, a3, a4, a5⟩ := h.arc _ _ _ hl
    exact ⟨a, ha, a1, a2, by rw [a3]; exact hl, a4, a5⟩
  have hex : ∃ W : Nat → Arc, ∀ t, W t ∈ A ∧ (W t).m = itL last (t + 1) s ∧ (W t).o = itL last t s ∧ last.lookup (itL last t s) = some (itL last (t + 1) s, (W t).n) ∧ dOf least (itL last (t + 1) s) + (W t).w ≤ dOf least (itL last t s) ∧ (tau (itL last t s) < tau (itL last (t + 1) s) → dOf least (itL last (t + 1) s) + (W t).w < dOf least (itL last t s)) :=
    ⟨fun t => Classical.choose (harc t), fun t => Classical.choose_spec (harc t)⟩
  obtain ⟨W, hW⟩ := hex
  refine ⟨p, W, p2, p3, fun t t1 t2 e => p4 t t2 ⟨t1, e⟩, fun t => (hW t).2.2.2.1, fun t => (hW t).1, fun t => (hW t).2.1, fun t => (hW t).2.2.1, ?_, by omega⟩
  have htel := sumN_tele (d := fun t => dOf least (itL last t s)) p
  have hz : sumN (fun t => dOf least (itL last t s) - dOf least (itL last (t + 1) s)) p = 0 := by
    rw [htel, p3]
    show dOf least s - dOf least s = 0
    omega
  have hle : ∀ t, t < p → (W t).w ≤ dOf least (itL last t s) - dOf least (itL last (t + 1) s) := fun t _ => by
    have := (hW t).2.2.2.2.1
    omega
  by_cases hst : ∃ t, t < p ∧ tau (itL last t s) < tau (itL last (t + 1) s)
  · obtain ⟨t, ht, hts⟩ := hst
    have hs : (W t).w < dOf least (itL last t s) - dOf least (itL last (t + 1) s) := by
      have := (hW t).2.2.2.2.2 hts
      omega
    have := sumN_lt hle ht hs
    omega
  · have hdn : ∀ t, t < p → tau (itL last (t + 1) s) ≤ tau (itL last t s) := fun t ht => Nat.le_of_not_lt fun z => hst ⟨t, ht, z⟩
    have hle1 : ∀ t, t < p → tau (itL last (t + 1) s) ≤ tau (itL last 1 s) := by
      intro t
      induction t with
      | zero => intro _; exact Nat.le_refl _
      | succ t ih => intro ht; exact Nat.le_trans (hdn (t + 1) ht) (ih (by omega))
    have q := hle1 (p - 1) (by omega)
    have ep : p - 1 + 1 = p := by omega
    rw [ep, p3] at q
    have q0 : tau (itL last 1 s) ≤ tau s := hdn 0 p2
    have heq : itL last 1 s = s := h.tinj _ _ (by omega) (h.tpos _ (hit 1))
    exfalso
    refine hA (W 0) (hW 0).1 ?_
    rw [(hW 0).2.1, (hW 0).2.2.1]
    exact heq
/-- its places are apart -/
theorem RingF.inj {s : Str} {p : Nat} {W : Nat → Arc} (h : RingF A last s p W) {a b : Nat} (hab : a < b) (hb : b < p) : itL last a s ≠ itL last b s := fun e => by
  have := congrArg (itL last (p - b)) e
  rw [← itL_add, ← itL_add] at this
  have e1 : p - b + b = p := by omega
  rw [e1, h.clo] at this
  exact h.new (p - b + a) (by omega) (by omega) this
end
end MC
end
section
set_option Elab.async false
set_option linter.all false
set_option maxRecDepth 100000
set_option maxHeartbeats 4000000
/-! The defs, 20: Moves.ring. -/
namespace MC
open PySem PySem.Spec PyProof.Rows L2
def LastAt (H : Hp) (ld : Addr) (last : List (Str × (Str × Str))) : Prop := ∃ ρ : Str → Addr, H ld = some (.dK (dV V.ref (last.map fun c => (c.1, ρ c.1)))) ∧ ∀ c ∈ last, H (ρ c.1) = some (.tup [.str c.2.1, .str c.2.2])
def RingAt (H : Hp) (q : Addr) (p : Nat) (W : Nat → Arc) : Prop := ∃ bs : List Addr, H q = some (.lst (bs.map V.ref)) ∧ bs.length = p ∧ ∀ (t : Nat) (b : Addr), bs[t]? = some b → H b = some (.tup [.str (W t).n, .str (W t).o])
theorem LastAt.same {H H' : Hp} {ld : Addr} {last : List (Str × (Str × Str))} (h : LastAt H ld last) (e : Same H H') : LastAt H' ld last := by
  obtain ⟨ρ, h1, h2⟩ := h
  exact ⟨ρ, e _ _ h1, fun c hc => e _ _ (h2 c hc)⟩
theorem LastAt.get {H : Hp} {ld : Addr} {last : List (Str × (Str × Str))} (h : LastAt H ld last) (hn : (keysL last).Nodup) {v u n : Str} (hl : last.lookup v = some (u, n)) : ∃ b, DGet H ld (.str v) (some (.ref b)) ∧ H b = some (.tup [.str u, .str n]) := by
  obtain ⟨ρ, h1, h2⟩ := h
  have hm := lookup_mem hl
  exact ⟨ρ v, dgetS (.inl h1) (lookup_nodup (by show (keysL _).Nodup; rw [keysL_map]; exact hn) (List.mem_map.mpr ⟨_, hm, rfl⟩)), h2 _ hm⟩
theorem ha_pairs {K : PySem.W.Frag} {H : Hp} {f g : Nat → Str} : ∀ (bs : List Addr) (k : Nat), (∀ (t : Nat) (b : Addr), bs[t]? = some b → H b = some (.tup [.str (f (k + t)), .str (g (k + t))])) → ∃ ls : List (Str × Str), Ha K H (bs.map V.ref) ls ∧ ls.length = bs.length
  | [], _, _ => ⟨[], ha_nil, rfl⟩
  | b :: bs, k, h => by
    obtain ⟨ls, h1, h2⟩ := ha_pairs (f := f) (g := g) bs (k + 1) fun t c hc => by
      have := h (t + 1) c (by rw [List.getElem?_cons_succ]; exact hc)
      rw [show k + (t + 1) = k + 1 + t by omega] at this
      exact this
    exact ⟨(f k, g k) :: ls, ha_cons (hv_pair (sqT (h 0 b rfl)) (hv_str _) (hv_str _)) h1, by rw [List.length_cons, List.length_cons, h2]⟩
section
variable {P : Program} {w : World} {K : PySem.W.Frag} {mg : Str → Option Value} {base : Heap}
def RgW (mv ld fo : Addr) (s : Str) (last : List (Str × (Str × Str))) (p : Nat) (W : Nat → Arc) (H : Hp) (mu : Nat) (σ : L2.St) (H' : Hp) : Prop := ∃ (t : Nat) (v3 v6 v7 : Option V) (bs : List Addr), σ = [some (.ref mv), some (.ref ld), some (.str s), v3, some (.ref fo), some (.str (itL last t s)), v6, v7] ∧ Same H H' ∧ H' fo = some (.lst (bs.map V.ref)) ∧ bs.length = t ∧
  (∀ (i : Nat) (b : Addr), bs[i]? = some b → H' b = some (.tup [.str (W i).n, .str (W i).o])) ∧ t ≤ p ∧ mu = p - t
def spRing (K : PySem.W.Frag) : Sp := fun vs H Q _ => ∃ (mv ld : Addr) (x : Str) (last : List (Str × (Str × Str))) (A : List Arc) (p : Nat) (W : Nat → Arc), vs = [.ref mv, .ref ld, .str x] ∧ LastAt H ld last ∧ (keysL last).Nodup ∧ last.length ≤ 1000 ∧ (∀ t, itL last t x ∈ keysL last) ∧ RingF A last (itL last (last.length + 1) x) p W ∧
  ∀ H' q, Same H H' → H q = none → RingAt H' q p W → Q (.ref q) H'
theorem ok_ring (T : Txt P w K mg) : Has P w K mg base CX0 1 (He.fAd K ("Moves", some "ring")) ["self", "last", "mast"] (spRing K) := by
  obtain ⟨fd, F⟩ := T.d_MovesRing
  have sc : FnScope ["self", "last", "mast", "turn", "found", "here", "before", "name"] ["self", "last", "mast"] (defScope sMovesRing) := ⟨rfl, rfl, rfl, by decide +kernel, rfl, by decide +kernel, by decide +kernel⟩
  refine ⟨fd, F.ok sc (fun vs H Q E h => ?_) (fun cdv A outer s H vs Q E hr h => ?_), F.bindsN fun _ _ _ _ _ _ us hl => match us, hl with | [_, _, _], _ => rfl, F.kp⟩
  · obtain ⟨mv, ld, x, last, A, p, W, rfl, _⟩ := h
    rfl
  · obtain ⟨mv, ld, x, last, A, p, W, rfl, hL, hn, hll, hin, ring, k⟩ := h
    refine ⟨_, PSs.nox (pss_cons (ps_for PassesOwn.never rfl (pi_range1 (by rfl) T.z_range (pa_cons (pe_add (pe_callB call_lenD (by rfl) T.z_len bt_len (pa_cons (pv 1) pa_nil)) pe_int) pa_nil)) (pg_name (i := 3) sc.nd rfl (Or.inl rfl))
        (pss_one (ps_set (i := 2) sc.nd rfl (Or.inl rfl) (pe_ix ix_tup (pe_dget (by exact hr.u1) (pv 1) (pv 2) (fun _ _ => rfl)) pe_int (fun _ _ => rfl)))))
      (pss_cons (ps_par (i := 4) (j := 5) (by rfl) sc.nd rfl rfl (by decide) rfl rfl (pa_cons (pe_lst pa_nil) (pa_cons (pv 2) pa_nil)) (by rfl))
      (pss_cons (ps_while PassesOwn.never (PW.pt (pw_or (pt_cmpR (op_eqT (List (Str × Str)) (by exact Fit.of hr (by decide))) (pv 4) (pe_lst pa_nil) (nomark _)) (pw_or1 (pt_cmpR op_ne (pv 5) (pv 2) (nomark _)))))
        (pss_cons (ps_asg (pe_dget (by exact hr.u1) (pv 1) (pv 5) (fun _ _ => rfl)) (pg_tup (by rfl) (pgs_cons (pg_name (i := 6) sc.nd rfl (Or.inl rfl)) (pgs_cons (pg_name (i := 7) sc.nd rfl (Or.inl rfl)) pgs_nil))))
        (pss_cons (ps_expr (pe_bm PySem.F.plainAttrs_list PySem.F.slot_list_append PySem.F.type_list_append mt_append (pv 4) (pa_cons (pe_tup (pa_cons (pv 7) (pa_cons (pv 5) pa_nil))) pa_nil)))
        (pss_one (ps_set (i := 5) sc.nd rfl (Or.inl rfl) (pv 6))))))
      (pss_one (ps_ret (pv 4)))))), ?_⟩
    obtain ⟨ρ, r1, r2⟩ := id hL
    refine ⟨_, rfl, ld, _, rfl, r1, last.length, 1, by rw [dV_len, List.length_map], rfl, ?_⟩
    refine ⟨_, rfl, by omega, by omega, ?_⟩
    have htn : ((last.length : Int) + 1).toNat = last.length + 1 := by omega
    refine for_it (walk_range (lo := 0) (n := ((last.length : Int) + 1).toNat)) (fun i σ H' => ∃ v3, σ = [some (.ref mv), some (.ref ld), some (.str (itL last i x)), v3, none, none, none, none] ∧ H' = H) ⟨none, rfl, rfl⟩ (fun _ _ _ _ _ => trivial) ?_ ?_
    · rintro i y σ H1 H2 hi ⟨v3, rfl, rfl⟩ ⟨rfl, rfl⟩
      obtain ⟨⟨u, n⟩, hl⟩ := mem_keysL.mp (hin i)
      obtain ⟨b, b1, b2⟩ := hL.get hn hl
      have e : itL last (i + 1) x = u := by
        show fromL last (itL last i x) = u
        unfold fromL
        rw [hl]
        rfl
      rw [e]
      exact ⟨_, rfl, _, rfl, ld, _, rfl, b1, b, _, 0, .str u, rfl, rfl, sqT b2, atI0 _ _, _, rfl, rfl⟩
    rintro σ H1 ⟨v3, rfl, rfl⟩
    rw [htn]
    obtain ⟨s, es⟩ : ∃ s, s = itL last (last.length + 1) x := ⟨_, rfl⟩
    rw [← es] at ring ⊢
    refine ⟨sz0, fun fo hfo => ⟨_, rfl, _, _, rfl, ?_⟩⟩
    refine ⟨RgW mv ld fo s last p W H1, ⟨p, 0, _, none, none, [], rfl, Same.new hfo, upd_same, rfl, (fun i b h => by cases h), Nat.zero_le _, by omega⟩, ?_⟩
    rintro mu σ H2 ⟨t, v3', v6, v7, bs, rfl, e2, hf2, hbl, hbt, htp, hmu⟩
    refine ⟨_, rfl, sz0, fun em hem => ?_⟩
    obtain ⟨H3, eH3⟩ : ∃ H3, H3 = upd H2 em (.lst []) := ⟨_, rfl⟩
    have e23 : Same H2 H3 := by rw [eH3]; exact Same.new hem
    have h3em : H3 em = some (.lst []) := by rw [eH3]; exact upd_same
    rw [← eH3]
    have e3 := e2.trans e23
    have hf3 := e23 _ _ hf2
    have hbt3 : ∀ (i : Nat) (b : Addr), bs[i]? = some b → H3 b = some (.tup [.str (W i).n, .str (W i).o]) := fun i b hb => e23 _ _ (hbt i b hb)
    obtain ⟨ls, l1, l2⟩ := ha_pairs (K := K) (H := H3) (f := fun t => (W t).n) (g := fun t => (W t).o) bs 0 fun t b hb => by rw [Nat.zero_add]; exact hbt3 t b hb
    have hpl : p ≤ 1000 := Nat.le_trans ring.few hll
    obtain ⟨b, b1, b2⟩ := (hL.same e3).get hn (ring.get t)
    refine ⟨ls, ([] : List (Str × Str)), hv_list (sqL hf3) l1, hv_list (sqL h3em) ha_nil, _, rfl, ?_⟩
    by_cases ht0 : t = 0
    · have hp0 := ring.pos
      have : ls = [] := List.eq_nil_of_length_eq_zero (by rw [l2, hbl, ht0])
      rw [decide_eq_true this]
      refine itT (itT ?_)
      refine ⟨fun σ' H' => ∃ m', m' < mu ∧ RgW mv ld fo s last p W H1 m' σ' H', fun σ' H' h => h, ?_⟩
      refine ⟨_, rfl, _, rfl, ld, _, rfl, b1, b, _, rfl, sqT b2, rfl, _, _, rfl, _, _, rfl, rfl, ?_⟩
      refine ⟨_, rfl, .inl ⟨rfl, _, sqL hf3⟩, _, rfl, _, rfl, sz2, fun tt htt => ⟨fo, _, _, rfl, rfl, by rw [upd_ne (ne_of_none hf3 htt)]; exact hf3, szL (by rw [List.length_map]; omega), ?_⟩⟩
      refine ⟨_, rfl, p - (t + 1), by omega, t + 1, _, _, _, bs ++ [tt], rfl, (e3.upd htt).turn hfo, by rw [upd_same, List.map_append]; rfl, by rw [List.length_append, hbl]; rfl, fun i c hc => ?_, by omega, rfl⟩
      by_cases hi : i < bs.length
      · rw [List.getElem?_append_left hi] at hc
        have q := hbt3 i c hc
        rw [upd_ne (fun e => by rw [e, hf3] at q; cases q), upd_ne (ne_of_none q htt)]
        exact q
      · have hi2 : i = t := by
          have := (List.getElem?_eq_some_iff.mp hc).1
          rw [List.length_append, List.length_singleton] at this
          omega
        rw [hi2, ← hbl, List.getElem?_append_right (Nat.le_refl _), Nat.sub_self] at hc
        cases hc
        rw [upd_ne (ne_of_none hf3 htt).symm, upd_same, hi2, ring.o t]
    · have hne : ls ≠ [] := fun e => by
        rw [e] at l2
        simp at l2
        omega
      rw [decide_eq_false hne]
      refine itF ⟨_, rfl, _, rfl, rfl, _, rfl, ?_⟩
      by_cases htp2 : t = p
      · have hs : itL last t s = s := by rw [htp2]; exact ring.clo
        rw [hs, decide_eq_true rfl]
        refine itF ⟨_, rfl, k H3 fo e3 (none_back (Same.refl _) hfo) ⟨bs, hf3, by rw [hbl, htp2], hbt3⟩⟩
      · have hs : V.str (itL last t s) ≠ V.str s := fun e => ring.new t (by omega) (by omega) (V.str.inj e)
        rw [decide_eq_false hs]
        refine itT ?_
        refine ⟨fun σ' H' => ∃ m', m' < mu ∧ RgW mv ld fo s last p W H1 m' σ' H', fun σ' H' h => h, ?_⟩
        refine ⟨_, rfl, _, rfl, ld, _, rfl, b1, b, _, rfl, sqT b2, rfl, _, _, rfl, _, _, rfl, rfl, ?_⟩
        refine ⟨_, rfl, .inl ⟨rfl, _, sqL hf3⟩, _, rfl, _, rfl, sz2, fun tt htt => ⟨fo, _, _, rfl, rfl, by rw [upd_ne (ne_of_none hf3 htt)]; exact hf3, szL (by rw [List.length_map]; omega), ?_⟩⟩
        refine ⟨_, rfl, p - (t + 1), by omega, t + 1, _, _, _, bs ++ [tt], rfl, (e3.upd htt).turn hfo, by rw [upd_same, List.map_append]; rfl, by rw [List.length_append, hbl]; rfl, fun i c hc => ?_, by omega, rfl⟩
        by_cases hi : i < bs.length
        · rw [List.getElem?_append_left hi] at hc
          have q := hbt3 i c hc
          rw [upd_ne (fun e => by rw [e, hf3] at q; cases q), upd_ne (ne_of_none q htt)]
          exact q
        · have hi2 : i = t := by
            have := (List.getElem?_eq_some_iff.mp hc).1
            rw [List.length_append, List.length_singleton] at this
            omega
          rw [hi2, ← hbl, List.getElem?_append_right (Nat.le_refl _), Nat.sub_self] at hc
          cases hc
          rw [upd_ne (ne_of_none hf3 htt).symm, upd_same, hi2, ring.o t]
end
end MC
end
section
set_option Elab.async false
set_option linter.all false
set_option maxRecDepth 100000
set_option maxHeartbeats 4000000
/-! The defs, 21: Moves.prices. -/
namespace MC
open PySem PySem.Spec PyProof.Rows L2
/-- a ring of moves that lowers the cost -/
structure RingOk (Sc : Scn) (S : SS) (B : List (Str × Str)) (p : Nat) (W : Nat → Arc) : Prop where
  few : p ≤ 1000
  ok : ∀ t, ArcOk Sc S B (W t).w (W t).m (W t).o (W t).n
  inj : ∀ a b, a < b → b < p → (W a).m ≠ (W b).m
  neg : sumN (fun t => (W t).w) p < 0
theorem RingF.ok {Sc : Scn} {S : SS} {B : List (Str × Str)} {A : List Arc} {last : List (Str × (Str × Str))} {s : Str} {p : Nat} {W : Nat → Arc} (h : RingF A last s p W) (hA : ∀ a ∈ A, ArcOk Sc S B a.w a.m a.o a.n) (hl : last.length ≤ 1000) : RingOk Sc S B p W :=
  ⟨Nat.le_trans h.few hl, fun t => hA _ (h.inA t), fun a b hab hb e => by
    rw [h.m, h.m] at e
    by_cases hb2 : b + 1 = p
    · rw [hb2, h.clo] at e
      exact h.new (a + 1) (by omega) (by omega) e
    · exact h.inj (by omega) (by omega) e, h.neg⟩
theorem putL_map {α β : Type} (g : Str → β) (g' : Str → β) {l : List (Str × α)} {v : Str} {a : α} {b : β} (hg : ∀ k, k ≠ v → g' k = g k) (hb : g' v = b) : putL (l.map fun c => (c.1, g c.1)) v b = (putL l v a).map fun c => (c.1, g' c.1) := by
  have hk : keysL (l.map fun c => (c.1, g c.1)) = keysL l := keysL_map _ _
  unfold putL
  rw [hk]
  by_cases h : v ∈ keysL l
  · rw [if_pos h, if_pos h, List.map_map, List.map_map]
    refine List.map_congr_left fun c _ => ?_
    show (if c.1 = v then (v, b) else (c.1, g c.1)) = ((if c.1 = v then (v, a) else c).1, g' (if c.1 = v then (v, a) else c).1)
    by_cases e : c.1 = v
    · rw [if_pos e, if_pos e, hb]
    · rw [if_neg e, if_neg e, hg _ e]
  · rw [if_neg h, if_neg h, List.map_append]
    have : (l.map fun c => (c.1, g' c.1)) = l.map fun c => (c.1, g c.1) := List.map_congr_left fun c hc => by rw [hg _ fun e => h (e ▸ List.mem_map_of_mem hc)]
    rw [this]
    show _ = _ ++ [(v, g' v)]
    rw [hb]
theorem LastAt.put {H : Hp} {ld t : Addr} {last : List (Str × (Str × Str))} {v u n : Str} (h : LastAt H ld last) (ht : H t = some (.tup [.str u, .str n])) (hl : last.length ≤ 1000) : ∃ H', DPut H ld (.str v) (.ref t) H' ∧ LastAt H' ld (putL last v (u, n)) ∧ ∃ o, H' = L2.upd H ld o := by
  obtain ⟨ρ, h1, h2⟩ := h
  have hp := dputL (f := V.ref) (k := v) (v := t) h1 (by rw [List.length_map]; omega)
  refine ⟨_, hp, ⟨fun k => if k = v then t else ρ k, ?_, fun c hc => ?_⟩, _, rfl⟩
  · rw [upd_same, putL_map ρ (fun k => if k = v then t else ρ k) (fun k hk => if_neg hk) (if_pos rfl)]
  · have q : H (if c.1 = v then t else ρ c.1) = some (.tup [.str c.2.1, .str c.2.2]) := by
      by_cases e : c.1 = v
      · rw [if_pos e, ht]
        unfold putL at hc
        split at hc
        · obtain ⟨c0, h0, e0⟩ := List.mem_map.mp hc
          by_cases e1 : c0.1 = v
          · rw [if_pos e1] at e0
            rw [← e0]
          · rw [if_neg e1] at e0
            rw [e0] at e1
            exact absurd e e1
        · next hn =>
          rw [List.mem_append, List.mem_singleton] at hc
          rcases hc with hc | rfl
          · exact absurd (e ▸ List.mem_map_of_mem hc) hn
          · rfl
      · rw [if_neg e]
        unfold putL at hc
        split at hc
        · obtain ⟨c0, h0, e0⟩ := List.mem_map.mp hc
          by_cases e1 : c0.1 = v
          · rw [if_pos e1] at e0
            rw [← e0] at e
            exact absurd rfl e
          · rw [if_neg e1] at e0
            rw [← e0]
            exact h2 c0 h0
        · rw [List.mem_append, List.mem_singleton] at hc
          rcases hc with hc | rfl
          · exact h2 c hc
          · exact absurd rfl e
    show L2.upd H ld _ (if c.1 = v then t else ρ c.1) = _
    rw [upd_ne (fun e => by rw [e, h1] at q; cases q)]
    exact q
theorem LastAt.updN {H : Hp} {ld d : Addr} {u : HO} {last : List (Str × (Str × Str))} {kvs : List (Key × V)} (h : LastAt H ld last) (hd : H d = some (.dK kvs)) (hne : ld ≠ d) : LastAt (L2.upd H d u) ld last := by
  obtain ⟨ρ, h1, h2⟩ := h
  exact ⟨ρ, by rw [upd_ne hne]; exact h1, fun c hc => by rw [upd_ne (fun e => by have := h2 c hc; rw [e, hd] at this; cases this)]; exact h2 c hc⟩
theorem ArcsAt.updN {H : Hp} {q d : Addr} {u : HO} {A : List Arc} {kvs : List (Key × V)} (h : ArcsAt H q A) (hd : H d = some (.dK kvs)) : ArcsAt (L2.upd H d u) q A := by
  obtain ⟨bs, h1, h2, h3⟩ := h
  exact ⟨bs, by rw [upd_ne (fun e => by rw [e, hd] at h1; cases h1)]; exact h1, h2, fun i b a hb ha => by rw [upd_ne (fun e => by have := h3 i b a hb ha; rw [e, hd] at this; cases this)]; exact h3 i b a hb ha⟩
/-- .. at known places -/
def ArcsB (H : Hp) (q : Addr) (bs : List Addr) (A : List Arc) : Prop := H q = some (.lst (bs.map V.ref)) ∧ bs.length = A.length ∧ ∀ (i : Nat) (b : Addr) (a : Arc), bs[i]? = some b → A[i]? = some a → H b = some (.tup [.int a.w, .str a.m, .str a.o, .str a.n])
theorem ArcsB.updN {H : Hp} {q d : Addr} {u : HO} {bs : List Addr} {A : List Arc} {kvs : List (Key × V)} (h : ArcsB H q bs A) (hd : H d = some (.dK kvs)) : ArcsB (L2.upd H d u) q bs A := by
  obtain ⟨h1, h2, h3⟩ := h
  exact ⟨by rw [upd_ne (fun e => by rw [e, hd] at h1; cases h1)]; exact h1, h2, fun i b a hb ha => by rw [upd_ne (fun e => by have := h3 i b a hb ha; rw [e, hd] at this; cases this)]; exact h3 i b a hb ha⟩
theorem ArcsB.same {H H' : Hp} {q : Addr} {bs : List Addr} {A : List Arc} (h : ArcsB H q bs A) (e : Same H H') : ArcsB H' q bs A := ⟨e _ _ h.1, h.2.1, fun i b a hb ha => e _ _ (h.2.2 i b a hb ha)⟩
theorem LastAt.dk {H : Hp} {ld : Addr} {last : List (Str × (Str × Str))} (h : LastAt H ld last) : ∃ kvs, H ld = some (.dK kvs) := by
  obtain ⟨ρ, h1, _⟩ := h
  exact ⟨_, h1⟩
theorem ArcOk.ends {Sc : Scn} {S : SS} {B : List (Str × Str)} {a : Arc} (ok : Sc.Ok) (h : ArcOk Sc S B a.w a.m a.o a.n) : a.m ∈ ("" : Str) :: keysL Sc.chan ∧ a.o ∈ ("" : Str) :: keysL Sc.chan ∧ a.m ≠ a.o := by
  have hne : ∀ m ∈ keysL Sc.chan, m ≠ "" := fun m hm e => by
    obtain ⟨c, hc, rfl⟩ := List.mem_map.mp hm
    have o1 := (ok.cw c hc).1
    have o1' : isNameB c.1 = true := o1
    rw [e] at o1'
    exact absurd o1' (by decide +kernel)
  rcases h.ok with ⟨_, _, h3, _, _, h6, h7⟩ | ⟨h1, h2, _, _⟩ | ⟨h1, h2, _, _⟩
  · exact ⟨List.mem_cons_of_mem _ h6, List.mem_cons_of_mem _ h7, fun e => h3 e.symm⟩
  · exact ⟨List.mem_cons_of_mem _ h1, by rw [h2]; exact List.mem_cons_self, fun e => hne _ h1 (e.trans h2)⟩
  · exact ⟨by rw [h1]; exact List.mem_cons_self, List.mem_cons_of_mem _ h2, fun e => hne _ h2 (e.symm.trans h1)⟩
section
variable {P : Program} {w : World} {K : PySem.W.Frag} {mg : Str → Option Value} {base : Heap}
def spPrices (K : PySem.W.Frag) : Sp := fun vs H Q _ => ∃ (mv be : Addr) (x : SAd) (Sc : Scn) (S : SS) (B L : List (Str × Str)), vs = [.ref mv] ∧ MvAt K H mv be x Sc S B ∧ Sc.Ok ∧ Sits Sc S L ∧ (∀ n ∈ keysL L, n ∈ keysL Sc.calls) ∧ S.seating.length ≤ 100 ∧
  (∀ H' q l, Same H H' → H' q = some (.tup [l, .non]) → Q (.ref q) H') ∧ (∀ H' q l r p W, Same H H' → H' q = some (.tup [l, .ref r]) → H r = none → RingAt H' r p W → RingOk Sc S B p W → Q (.ref q) H')
theorem ok_prices (T : Txt P w K mg) : Has P w K mg base CX0 3 (He.fAd K ("Moves", some "prices")) ["self"] (spPrices K) := by
  obtain ⟨fd, F⟩ := T.d_MovesPrices
  obtain ⟨fdA, GA, bA, kA⟩ := ok_arcs (base := base) T
  obtain ⟨fdR, GR, bR, kR⟩ := ok_ring (base := base) T
  obtain ⟨tf, hF⟩ := T.free
  have sc : FnScope ["self", "least", "last", "steps", "turn", "changed", "more", "mast", "other", "name"] ["self"] (defScope sMovesPrices) := ⟨rfl, rfl, rfl, by decide +kernel, rfl, by decide +kernel, by decide +kernel⟩
  refine ⟨fd, F.ok sc (fun vs H Q E h => ?_) (fun cdv A outer s H vs Q E hr h => ?_), F.bindsN fun _ _ _ _ _ _ us hl => match us, hl with | [_], _ => rfl, F.kp⟩
  · obtain ⟨mv, be, x, Sc, S, B, L, rfl, _⟩ := h
    rfl
  · obtain ⟨mv, be, x, Sc, S, B, L, rfl, hM, ok, sit, hsub, hsl, kN, kR'⟩ := h
    refine ⟨_, PSs.nox (pss_cons (ps_setDc (i := 1) (own := [("mast", 7)]) (tk := tVar 7) (tv := tC (.int 0)) (by rfl) sc.nd rfl rfl (swd_true rfl rfl rfl rfl) (pi_tup (pe_tup (pa_cons (pe_glob (v := .str "") (by rfl) hF ⟨_, rfl⟩) (pa_starD (by rfl) (pe_fld (pe_fld (pv 0) rfl) rfl) pa_nil))))
          (by exact blk_ok (N := ["self", "least", "last", "steps", "turn", "changed", "more", "mast", "other", "name"]) (sc := defScope sMovesPrices) (by decide +kernel)) (fun _ _ _ _ _ => pg_name (i := 7) sc.nd rfl (Or.inl rfl)) (fun _ _ _ _ _ => pts_nil) (fun _ _ _ _ _ => pv 7) (fun _ _ _ _ _ => pe_int))
      (pss_cons (ps_par (i := 2) (j := 3) (by rfl) sc.nd rfl rfl (by decide) rfl rfl (pa_cons pe_dnewK (pa_cons (pe_meth0 (pv 0) T.c_Moves T.m_Moves_arcs GA hr bA .nil pass0) pa_nil)) (by rfl))
      (pss_cons (ps_for PassesOwn.never rfl (pi_range1 (by rfl) T.z_range (pa_cons (pe_add (pe_callB call_lenD (by rfl) T.z_len bt_len (pa_cons (pv 1) pa_nil)) pe_int) pa_nil)) (pg_name (i := 4) sc.nd rfl (Or.inl rfl))
        (pss_cons (ps_set (i := 5) sc.nd rfl (Or.inl rfl) pe_non)
        (pss_cons (ps_for PassesOwn.never rfl (pi_list (pv 3)) (pg_tup (by rfl) (pgs_cons (pg_name (i := 6) sc.nd rfl (Or.inl rfl)) (pgs_cons (pg_name (i := 7) sc.nd rfl (Or.inl rfl)) (pgs_cons (pg_name (i := 8) sc.nd rfl (Or.inl rfl)) (pgs_cons (pg_name (i := 9) sc.nd rfl (Or.inl rfl)) pgs_nil)))))
          (pss_one (ps_if (pt_cmpR op_lt (pe_add (pe_dget (by exact hr.u1) (pv 1) (pv 7) (fun _ _ => rfl)) (pv 6)) (pe_dget (by exact hr.u1) (pv 1) (pv 8) (fun _ _ => rfl)) (nomark _))
            (pss_cons (ps_dput (by exact hr.u1) (pv 1) (pv 8) (pe_add (pe_dget (by exact hr.u1) (pv 1) (pv 7) (fun _ _ => rfl)) (pv 6)) rfl)
            (pss_cons (ps_dput (by exact hr.u1) (pv 2) (pv 8) (pe_tup (pa_cons (pv 7) (pa_cons (pv 9) pa_nil))) rfl)
            (pss_one (ps_set (i := 5) sc.nd rfl (Or.inl rfl) (pv 8))))) pss_nil)))
        (pss_one (ps_if (pt_cmp (pc_isN (pv 5))) (pss_one (ps_ret (pe_tup (pa_cons (pv 1) (pa_cons pe_non pa_nil))))) pss_nil)))))
      (pss_one (ps_ret (pe_tup (pa_cons (pv 1) (pa_cons (pe_meth (pv 0) T.c_Moves T.m_Moves_ring GR (hr.mono (by decide)) bR .nil pass0 (pa_cons (pv 2) (pa_cons (pv 5) pa_nil))) pa_nil)))))))), ?_⟩
    obtain ⟨dxm, m1⟩ := hM.at_
    obtain ⟨dxs, ca, la, s1, s2, s3⟩ := id hM.sc
    obtain ⟨Vs, eVs⟩ : ∃ Vs, Vs = ("" : Str) :: keysL Sc.chan := ⟨_, rfl⟩
    have hVl : Vs.length ≤ 9 := by
      rw [eVs, List.length_cons, keysL_len]
      have := ok.cl
      omega
    have hVn : Vs.Nodup := by
      rw [eVs, List.nodup_cons]
      refine ⟨fun h => ?_, ok.cn⟩
      obtain ⟨c, hc, e⟩ := List.mem_map.mp h
      have o1 : isNameB c.1 = true := (ok.cw c hc).1
      rw [e] at o1
      exact absurd o1 (by decide +kernel)
    refine ⟨_, rfl, _, _, _, _, _, rfl, m1, T.c_Moves, T.a_Moves_scene, rfl, _, _, _, _, _, rfl, s1, T.c_Scene, T.a_Scene_channels, rfl, ca, _, rfl, s2, ?_⟩
    have hlist : (V.str "" :: ((dV V.int Sc.chan).map (fun kv => kV kv.1) ++ [])) = Vs.map V.str := by rw [dV_keys, List.append_nil, eVs]; rfl
    refine ⟨szN ?_, fun t0 ht0 => ?_⟩
    · have := congrArg List.length hlist
      rw [List.length_map] at this
      exact Nat.le_trans (Nat.le_of_eq this) (by omega)
    rw [hlist]
    refine ⟨t0, rfl, ⟨_, sqT upd_same⟩, fun D hD => ?_⟩
    have e0 : Same H (upd H t0 (.tup (Vs.map V.str))) := Same.new ht0
    refine dc_list V.int Vs walk_tupM (fun _ => true) id (fun _ => 0) hD (by omega) (by rw [List.map_id]; exact hVn) (fun H' e => sqT (e _ _ upd_same)) ?_ ?_
    · intro i a y H' H2 ha e _ yy
      obtain ⟨rfl, rfl⟩ := yat_map ha yy
      exact ⟨Same.refl _, fun R S' hR hS => ⟨rfl, yesT (itT ⟨_, rfl, hR _ (Same.refl _) rfl⟩)⟩⟩
    intro H1 e1 hD1
    rw [List.filter_eq_self.mpr fun _ _ => rfl] at hD1
    have e01 := e0.trans e1
    have hDH : H D = none := none_back e0 hD
    obtain ⟨l0, el0⟩ : ∃ l0 : List (Str × Int), l0 = Vs.map fun a => (id a, 0) := ⟨_, rfl⟩
    rw [← el0] at hD1
    have hk0 : keysL l0 = Vs := by
      rw [el0]
      unfold keysL
      rw [List.map_map]
      exact List.map_id _
    intro ld hld
    have nDl : D ≠ ld := ne_of_none hD1 hld
    have hldH : H ld = none := none_back e01 hld
    have e2 : Same H1 (upd H1 ld (.dK [])) := Same.new hld
    have e02 := e01.trans e2
    have hM2 : MvAt K (upd H1 ld (.dK [])) mv be x Sc S B := ⟨⟨dxm, e02 _ _ m1⟩, e02 _ _ hM.be, hM.sc.same e02, hM.st.same e02⟩
    refine ⟨_, rfl, mv, dxm, _, rfl, e02 _ _ m1, rfl, mv, be, x, Sc, S, B, L, rfl, hM2, ok, sit, hsub, hsl, fun H3 q A e3 hq hA hAok hAl => ⟨_, _, rfl, ?_⟩⟩
    have e03 := e02.trans e3
    have h3D := e3 _ _ (e2 _ _ hD1)
    have h3l : H3 ld = some (.dK []) := e3 _ _ upd_same
    have hL3 : LastAt H3 ld [] := ⟨fun _ => 0, h3l, fun c hc => absurd hc List.not_mem_nil⟩
    have hln : (dV V.int l0).length = Vs.length := by rw [dV_len, ← keysL_len, hk0]
    refine ⟨_, rfl, D, _, rfl, h3D, Vs.length, 1, by rw [hln], rfl, ?_⟩
    refine ⟨_, rfl, by omega, by omega, ?_⟩
    have htn : ((Vs.length : Int) + 1).toNat = Vs.length + 1 := by omega
    have hBF0 : BF Vs A l0 [] (fun _ => 0) (fun _ => 0) 0 0 0 := BF.start (fun v => by rw [hk0]) (by rw [hk0]; exact hVn) A
    refine for_it (walk_range (lo := 0) (n := ((Vs.length : Int) + 1).toNat)) (fun i σ H' => ∃ (v4 v5 v6 v7 v8 v9 : Option V) (least : List (Str × Int)) (last : List (Str × (Str × Str))) (rd tau : Str → Nat) (clk : Nat), σ = [some (.ref mv), some (.ref D), some (.ref ld), some (.ref q), v4, v5, v6, v7, v8, v9] ∧ Same H H' ∧ ArcsAt H' q A ∧ H' D = some (.dK (dV V.int least)) ∧ LastAt H' ld last ∧
        ((i = 0 ∧ BF Vs A least last rd tau clk 0 0) ∨ ∃ k z, i = k + 1 ∧ BF Vs A least last rd tau clk k A.length ∧ v5 = some (.str z) ∧ rd z = k + 1))
      ⟨none, none, none, none, none, none, l0, [], _, _, 0, rfl, e03, hA, h3D, hL3, .inl ⟨rfl, hBF0⟩⟩ (fun _ _ _ _ _ => trivial) ?_ ?_
    · rintro i y σ H4 H5 hi ⟨v4, v5, v6, v7, v8, v9, least, last, rd, tau, clk, rfl, e4, hA4, hD4, hL4, hbf⟩ ⟨rfl, rfl⟩
      have hbf' : BF Vs A least last rd tau clk i 0 := by
        rcases hbf with ⟨rfl, h⟩ | ⟨k, z, rfl, h, _⟩
        · exact h
        · exact h.next
      obtain ⟨bs, hAB⟩ : ∃ bs, ArcsB H5 q bs A := hA4
      refine ⟨_, rfl, q, rfl, ⟨_, sqL hAB.1⟩, ?_⟩
      refine for_it (walk_listM (K := K) (xs := bs) (f := V.ref)) (fun j σ H' => ∃ (v5 v6 v7 v8 v9 : Option V) (least : List (Str × Int)) (last : List (Str × (Str × Str))) (rd tau : Str → Nat) (clk : Nat), σ = [some (.ref mv), some (.ref D), some (.ref ld), some (.ref q), some (.int (0 + i)), v5, v6, v7, v8, v9] ∧ Same H H' ∧ ArcsB H' q bs A ∧ H' D = some (.dK (dV V.int least)) ∧ LastAt H' ld last ∧
          BF Vs A least last rd tau clk i j ∧ (v5 = some .non ∨ ∃ z, v5 = some (.str z) ∧ rd z = i + 1))
        ⟨_, v6, v7, v8, v9, least, last, rd, tau, clk, rfl, e4, hAB, hD4, hL4, hbf', .inl rfl⟩ (fun _ _ _ _ ⟨_, _, _, _, _, _, _, _, _, _, _, _, h, _⟩ => sqL h.1) ?_ ?_
      · rintro j y σ H6 H7 hj ⟨v5, v6, v7, v8, v9, least, last, rd, tau, clk, rfl, e6, hA6, hD6, hL6, bf, hch⟩ ⟨rfl, hx⟩
        have hbj : bs[j]? = some bs[j] := List.getElem?_eq_getElem hj
        have hja : j < A.length := hA6.2.1 ▸ hj
        have haj : A[j]? = some A[j] := List.getElem?_eq_getElem hja
        obtain rfl : y = .ref bs[j] := by
          rw [List.getElem?_map, hbj] at hx
          exact (Option.some.inj hx).symm
        obtain ⟨a, ea⟩ : ∃ a, a = A[j] := ⟨_, rfl⟩
        rw [← ea] at haj
        have hbt := hA6.2.2 j _ a hbj haj
        obtain ⟨am, ao, ane⟩ := (hAok a (List.mem_of_getElem? haj)).ends ok
        rw [← eVs] at am ao
        have hlm : least.lookup a.m = some (dOf least a.m) := by
          obtain ⟨v, hv⟩ := mem_keysL.mp ((bf.lk _).mpr am)
          unfold dOf
          rw [hv]
          rfl
        have hlo : least.lookup a.o = some (dOf least a.o) := by
          obtain ⟨v, hv⟩ := mem_keysL.mp ((bf.lk _).mpr ao)
          unfold dOf
          rw [hv]
          rfl
        have hll : least.length ≤ 9 := by
          have := nodup_le bf.lnd (m := Vs) fun v hv => (bf.lk v).mp hv
          rw [keysL_len] at this
          omega
        have hla : last.length ≤ 9 := by
          have := nodup_le bf.nd (m := Vs) bf.lv
          rw [keysL_len] at this
          omega
        have gm := dgetS (f := V.int) (.inl hD6) hlm
        have go := dgetS (f := V.int) (.inl hD6) hlo
        refine ⟨bs[j], _, rfl, sqT hbt, rfl, _, _, rfl, _, _, rfl, _, _, rfl, _, _, rfl, rfl, ?_⟩
        refine ⟨_, rfl, _, rfl, D, _, rfl, gm, _, rfl, _, _, rfl, rfl, _, rfl, _, rfl, D, _, rfl, go, _, _, rfl, rfl, _, rfl, itB (fun hc => ?_) fun hc => ?_⟩
        · have hlt := of_decide_eq_true hc
          have hdp := dputL (f := V.int) (k := a.o) (v := dOf least a.m + a.w) hD6 (by omega)
          refine ⟨_, rfl, _, rfl, D, _, rfl, gm, _, rfl, _, _, rfl, rfl, _, rfl, _, rfl, D, _, rfl, hdp, ?_⟩
          obtain ⟨kl, hkl⟩ := hL6.dk
          have nlD : ld ≠ D := nDl.symm
          have hL7 := hL6.updN (u := .dK (dV V.int (putL least a.o (dOf least a.m + a.w)))) hD6 nlD
          have hA7 := hA6.updN (u := .dK (dV V.int (putL least a.o (dOf least a.m + a.w)))) hD6
          have e7 := e6.turn (o := .dK (dV V.int (putL least a.o (dOf least a.m + a.w)))) hDH
          obtain ⟨H8, eH8⟩ : ∃ H8, H8 = upd H7 D (.dK (dV V.int (putL least a.o (dOf least a.m + a.w)))) := ⟨_, rfl⟩
          have hD8 : H8 D = some (.dK (dV V.int (putL least a.o (dOf least a.m + a.w)))) := by rw [eH8]; exact upd_same
          rw [← eH8] at hL7 hA7 e7 ⊢
          refine ⟨_, rfl, _, rfl, sz2, fun t ht => ?_⟩
          have e9 := Same.new (H := H8) (p := t) (o := .tup [.str a.m, .str a.n]) ht
          obtain ⟨HX, hput, hLX, o, eHX⟩ := (hL7.same e9).put (v := a.o) (u := a.m) (n := a.n) upd_same (by omega)
          obtain ⟨k2, hk2⟩ := (hL7.same e9).dk
          refine ⟨_, rfl, _, rfl, ld, HX, rfl, hput, ?_⟩
          refine ⟨_, rfl, _, _, _, _, _, _, _, _, _, _, rfl, ?_, ?_, ?_, hLX, bf.relax haj am ao ane hlt, .inr ⟨a.o, rfl, if_pos rfl⟩⟩
          · rw [eHX]
            exact (e7.upd ht).turn hldH
          · rw [eHX]
            exact (hA7.same e9).updN hk2
          · rw [eHX, upd_ne nDl]
            exact e9 _ _ hD8
        · have hge := of_decide_eq_false hc
          exact ⟨_, _, _, _, _, least, last, rd, tau, clk, rfl, e6, hA6, hD6, hL6, bf.skip haj (by omega), hch⟩
      · rintro σ H6 ⟨v5, v6, v7, v8, v9, least, last, rd, tau, clk, rfl, e6, hA6, hD6, hL6, bf, hch⟩
        rw [hA6.2.1] at bf
        rcases hch with rfl | ⟨z, rfl, hz⟩
        · refine ⟨_, rfl, _, rfl, itT ⟨_, rfl, sz2, fun t ht => kN _ t (.ref D) (e6.upd ht) upd_same⟩⟩
        · exact ⟨_, rfl, _, rfl, itF ⟨_, _, _, _, _, _, least, last, rd, tau, clk, rfl, e6, ⟨bs, hA6⟩, hD6, hL6, .inr ⟨i, z, rfl, bf, rfl, hz⟩⟩⟩
    · rintro σ H4 ⟨v4, v5, v6, v7, v8, v9, least, last, rd, tau, clk, rfl, e4, hA4, hD4, hL4, hbf⟩
      rw [htn] at hbf
      rcases hbf with ⟨h0, _⟩ | ⟨k, z, hk, bf, rfl, hz⟩
      · cases h0
      · obtain rfl : k = Vs.length := by omega
        have hAne : ∀ a ∈ A, a.m ≠ a.o := fun a ha => ((hAok a ha).ends ok).2.2
        obtain ⟨p, W, ring⟩ := bf.ring hz hAne
        have hla : last.length ≤ 9 := by
          have := nodup_le bf.nd (m := Vs) bf.lv
          rw [keysL_len] at this
          omega
        refine ⟨_, rfl, _, rfl, mv, dxm, _, rfl, e4 _ _ m1, rfl, _, rfl, _, rfl, mv, ld, z, last, A, p, W, rfl, hL4, bf.nd, by omega, bf.back hz, ring, fun H5 r e5 hr0 hR => ⟨sz2, fun t ht => ?_⟩⟩
        have hRt : RingAt (upd H5 t (.tup [.ref D, .ref r])) r p W := by
          obtain ⟨bs, c1, c2, c3⟩ := hR
          exact ⟨bs, by rw [upd_ne (ne_of_none c1 ht)]; exact c1, c2, fun t' b hb => by rw [upd_ne (ne_of_none (c3 t' b hb) ht)]; exact c3 t' b hb⟩
        exact kR' _ t (.ref D) r p W ((e4.trans e5).upd ht) upd_same (none_back e4 hr0) hRt (ring.ok hAok (by omega))
end
end MC
end
section
set_option Elab.async false
set_option linter.all false
set_option maxRecDepth 100000
set_option maxHeartbeats 4000000
/-! What a ring's moves cost, in plain terms. -/
namespace MC
open PySem
def costL (B l : List (Str × Str)) : Int := (l.map fun c => costOf B c.1 c.2).sum
theorem costOf_nn (B : List (Str × Str)) (n m : Str) : 0 ≤ costOf B n m := by
  unfold costOf
  split <;> decide
theorem costL_nn (B : List (Str × Str)) : ∀ l, 0 ≤ costL B l
  | [] => Int.le_refl _
  | c :: l => by
    have h1 := costOf_nn B c.1 c.2
    have h2 := costL_nn B l
    unfold costL at h2 ⊢
    rw [List.map_cons, List.sum_cons]
    omega
theorem costL_put {B : List (Str × Str)} {n m m0 : Str} : ∀ {l : List (Str × Str)}, (keysL l).Nodup → l.lookup n = some m0 → costL B (putL l n m) = costL B l - costOf B n m0 + costOf B n m
  | [], _, h => by cases h
  | c :: l, hn, h => by
    have hk : n ∈ keysL (c :: l) := mem_keysL.mpr ⟨_, h⟩
    unfold keysL at hn
    rw [List.map_cons, List.nodup_cons] at hn
    unfold putL
    rw [if_pos hk]
    by_cases e : c.1 = n
    · have hm0 : c.2 = m0 := by
        have := lookup_nodup (l := c :: l) (by rw [List.map_cons, List.nodup_cons]; exact hn) (List.mem_cons_self (a := c))
        rw [e, h] at this
        exact (Option.some.inj this).symm
      have hrest : (l.map fun c => if c.1 = n then (n, m) else c) = l := by
        conv => rhs; rw [← List.map_id l]
        refine List.map_congr_left fun d hd => ?_
        rw [if_neg fun z => hn.1 (by rw [e, ← z]; exact List.mem_map_of_mem hd)]
        rfl
      rw [List.map_cons, if_pos e, hrest]
      unfold costL
      rw [List.map_cons, List.sum_cons, List.map_cons, List.sum_cons, e, hm0]
      dsimp only
      omega
    · have hl : l.lookup n = some m0 := by
        rw [List.lookup_cons] at h
        have : (n == c.1) = false := beq_eq_false_iff_ne.mpr fun z => e z.symm
        rw [this] at h
        exact h
      have ih := costL_put (B := B) (m := m) hn.2 hl
      unfold putL at ih
      rw [if_pos (mem_keysL.mpr ⟨_, hl⟩)] at ih
      rw [List.map_cons, if_neg e]
      unfold costL at ih ⊢
      rw [List.map_cons, List.sum_cons, List.map_cons, List.sum_cons, ih]
      omega
/-- the seats behind t moves of a ring -/
structure Moved (Sc : Scn) (S0 S : SS) (B L : List (Str × Str)) (W : Nat → Arc) (p t : Nat) : Prop where
  sit : Sits Sc S L
  un : ∀ i, t ≤ i → i < p → (W i).n ≠ "" → S.seating.lookup (W i).n = some (W i).m
  cost : costL B S.seating = costL B S0.seating + sumN (fun i => (W i).w) t
section
variable {Sc : Scn} {S0 S : SS} {B L : List (Str × Str)} {W : Nat → Arc} {p t : Nat}
theorem arc_name (ok : Sc.Ok) {w : Int} {m o n : Str} (h : ArcOk Sc S0 B w m o n) (hn : n ≠ "") : S0.seating.lookup n = some m ∧ o ∈ heardOf Sc n ∧ w = costOf B n o - costOf B n m ∧ o ∈ keysL Sc.chan ∧ o ≠ "" := by
  rcases h.ok with ⟨h1, h2, _, h4, _, _, h7⟩ | ⟨_, _, _, h4⟩ | ⟨_, _, _, h4⟩
  · refine ⟨h1, h2, h4, h7, fun e => ?_⟩
    obtain ⟨c, hc, ec⟩ := List.mem_map.mp h7
    have o1 : isNameB c.1 = true := (ok.cw c hc).1
    rw [ec, e] at o1
    exact absurd o1 (by decide +kernel)
  · exact absurd h4 hn
  · exact absurd h4 hn
theorem arc_none {w : Int} {m o : Str} (h : ArcOk Sc S0 B w m o "") : w = 0 := by
  rcases h.ok with ⟨_, _, _, _, h5, _, _⟩ | ⟨_, _, h3, _⟩ | ⟨_, _, h3, _⟩
  · exact absurd rfl h5
  · exact h3
  · exact h3
theorem Moved.start (ok : Sc.Ok) (r : RingOk Sc S0 B p W) (hs : Sits Sc S0 L) : Moved Sc S0 S0 B L W p 0 :=
  ⟨hs, fun i _ _ hn => (arc_name ok (r.ok i) hn).1, by show _ = _ + 0; omega⟩
theorem Moved.skip (h : Moved Sc S0 S B L W p t) (r : RingOk Sc S0 B p W) (hn : (W t).n = "") : Moved Sc S0 S B L W p (t + 1) :=
  ⟨h.sit, fun i hi => h.un i (by omega), by
    have := r.ok t
    rw [hn] at this
    have := arc_none this
    show _ = _ + (sumN _ t + (W t).w)
    rw [h.cost, this]
    omega⟩
theorem Moved.go (ok : Sc.Ok) (h : Moved Sc S0 S B L W p t) (r : RingOk Sc S0 B p W) (ht : t < p) (hn : (W t).n ≠ "") : Moved Sc S0 (S.sit (W t).n (W t).o) B L W p (t + 1) := by
  obtain ⟨a1, a2, a3, a4, a5⟩ := arc_name ok (r.ok t) hn
  have hl := h.un t (Nat.le_refl _) ht hn
  refine ⟨⟨SS.sit_ok h.sit.ok a4, fun n m q => ?_, fun n => ?_⟩, fun i hi hip hni => ?_, ?_⟩
  · rw [SS.sit_lookup] at q
    split at q
    · next e =>
      cases q
      rw [e]
      exact a2
    · exact h.sit.hrd n m q
  · rw [SS.sit_keys, h.sit.keys]
    refine ⟨fun z => z.elim (fun e => ?_) id, .inr⟩
    rw [e]
    exact (h.sit.keys _).mp (mem_keysL.mpr ⟨_, hl⟩)
  · obtain ⟨b1, _⟩ := arc_name ok (r.ok i) hni
    rw [SS.sit_lookup, if_neg]
    · exact h.un i (by omega) hip hni
    · intro e
      rw [e, a1] at b1
      exact r.inj t i (by omega) hip (Option.some.inj b1)
  · have hc := costL_put (B := B) (m := (W t).o) h.sit.ok.nd hl
    show costL B (putL S.seating (W t).n (W t).o) = _ + (sumN _ t + (W t).w)
    rw [hc, h.cost, a3]
    omega
end
end MC
end
section
set_option Elab.async false
set_option linter.all false
set_option maxRecDepth 100000
set_option maxHeartbeats 4000000
/-! The defs, 22: Moves.better, reseated, moves_of. -/
namespace MC
open PySem PySem.Spec PyProof.Rows L2
section
variable {P : Program} {w : World} {K : PySem.W.Frag} {mg : Str → Option Value} {base : Heap}
def spBetter (K : PySem.W.Frag) : Sp := fun vs H Q _ => ∃ (mv be : Addr) (x : SAd) (Sc : Scn) (S : SS) (B L : List (Str × Str)), vs = [.ref mv] ∧ MvAt K H mv be x Sc S B ∧ Sc.Ok ∧ Sits Sc S L ∧ (∀ n ∈ keysL L, n ∈ keysL Sc.calls) ∧ L.length ≤ 100 ∧
  (∀ H', Same H H' → Q (.bl false) H') ∧ (∀ H' S', Off (x.mut (keysL Sc.chan)) H H' → SeatsAt K H' x (keysL Sc.chan) S' → Sits Sc S' L → costL B S'.seating < costL B S.seating → Q (.bl true) H')
theorem Sits.len {Sc : Scn} {S : SS} {L : List (Str × Str)} (h : Sits Sc S L) : S.seating.length ≤ L.length := by
  have := nodup_le h.ok.nd (m := keysL L) fun n hn => (h.keys n).mp hn
  rw [keysL_len, keysL_len] at this
  exact this
theorem ok_better (T : Txt P w K mg) : Has P w K mg base CX0 4 (He.fAd K ("Moves", some "better")) ["self"] (spBetter K) := by
  obtain ⟨fd, F⟩ := T.d_MovesBetter
  obtain ⟨fdP, GP, bP, kP⟩ := ok_prices (base := base) T
  obtain ⟨fdS, GS, bS, kS⟩ := ok_sit (base := base) T
  obtain ⟨tf, hF⟩ := T.free
  have sc : FnScope ["self", "ring", "name", "mast"] ["self"] (defScope sMovesBetter) := ⟨rfl, rfl, rfl, by decide +kernel, rfl, by decide +kernel, by decide +kernel⟩
  refine ⟨fd, F.ok sc (fun vs H Q E h => ?_) (fun cdv A outer s H vs Q E hr h => ?_), F.bindsN fun _ _ _ _ _ _ us hl => match us, hl with | [_], _ => rfl, F.kp⟩
  · obtain ⟨mv, be, x, Sc, S, B, L, rfl, _⟩ := h
    rfl
  · obtain ⟨mv, be, x, Sc, S, B, L, rfl, hM, ok, sit, hsub, hll, kN, kY⟩ := h
    refine ⟨_, PSs.nox (pss_cons (ps_set (i := 1) sc.nd rfl (Or.inl rfl) (pe_ix ix_tup (pe_meth0 (pv 0) T.c_Moves T.m_Moves_prices GP hr bP .nil pass0) pe_int (fun _ _ => rfl)))
      (pss_cons (ps_if (pt_cmp (pc_isN (pv 1))) (pss_one (ps_ret pe_bl)) pss_nil)
      (pss_cons (ps_for PassesOwn.never rfl (pi_list (pv 1)) (pg_tup (by rfl) (pgs_cons (pg_name (i := 2) sc.nd rfl (Or.inl rfl)) (pgs_cons (pg_name (i := 3) sc.nd rfl (Or.inl rfl)) pgs_nil)))
        (pss_one (ps_if (PW.pt (pw_and (pt_cmpR op_ne (pv 2) pe_str (nomark _)) (pw_and1 (pt_cmpR op_ne (pv 3) (pe_glob (v := .str "") (by rfl) hF ⟨_, rfl⟩) (nomark _)))))
          (pss_one (ps_expr (pe_meth (pe_fld (pv 0) rfl) T.c_Seats T.m_Seats_sit GS (hr.mono (by decide)) bS .nil pass0 (pa_cons (pv 2) (pa_cons (pv 3) pa_nil))))) pss_nil)))
      (pss_one (ps_ret pe_bl))))), ?_⟩
    obtain ⟨dxm, m1⟩ := hM.at_
    have hsl := sit.len
    refine ⟨_, rfl, mv, dxm, _, rfl, m1, rfl, mv, be, x, Sc, S, B, L, rfl, hM, ok, sit, hsub, by omega, fun H1 q l e1 hq => ?_, fun H1 q l r p W e1 hq hr0 hR ring => ?_⟩
    · refine ⟨q, _, 1, .non, rfl, rfl, sqT hq, atI1 _ _ _, _, rfl, _, rfl, itT (kN _ e1)⟩
    · refine ⟨q, _, 1, .ref r, rfl, rfl, sqT hq, atI1 _ _ _, _, rfl, _, rfl, itF ?_⟩
      obtain ⟨bs, c1, c2, c3⟩ := hR
      have hS1 := hM.st.same e1
      have nr : ¬ x.mut (keysL Sc.chan) r := by
        rintro (e | ⟨m, hm, e⟩)
        · have := hM.st.sa
          rw [← e, hr0] at this
          cases this
        · have := hM.st.lam m hm
          rw [← e, hr0] at this
          cases this
      have nb : ∀ {t : Nat} {b : Addr}, bs[t]? = some b → ¬ x.mut (keysL Sc.chan) b := fun {t b} hb => by
        have h3 := c3 t b hb
        rintro (e | ⟨m, hm, e⟩)
        · rw [e, hS1.sa] at h3
          cases h3
        · rw [e, hS1.lam m hm] at h3
          cases h3
      have nm : ¬ x.mut (keysL Sc.chan) mv := by
        rintro (e | ⟨m, hm, e⟩)
        · have := hM.st.sa
          rw [← e, m1] at this
          cases this
        · have := hM.st.lam m hm
          rw [← e, m1] at this
          cases this
      refine ⟨_, rfl, r, rfl, ⟨_, sqL c1⟩, ?_⟩
      refine for_it (walk_listM (K := K) (xs := bs) (f := V.ref)) (fun t σ H' => ∃ (v2 v3 : Option V) (S' : SS), σ = [some (.ref mv), some (.ref r), v2, v3] ∧ Off (x.mut (keysL Sc.chan)) H1 H' ∧ SeatsAt K H' x (keysL Sc.chan) S' ∧ Moved Sc S S' B L W p t)
        ⟨none, none, S, rfl, Off.refl, hS1, Moved.start ok ring sit⟩ (fun _ _ _ _ ⟨_, _, _, _, o, _⟩ => sqL (o _ _ nr c1)) ?_ ?_
      · rintro t y σ H2 H3 ht ⟨v2, v3, S', rfl, o2, hS2, mo⟩ ⟨rfl, hx⟩
        have hbt : bs[t]? = some bs[t] := List.getElem?_eq_getElem ht
        obtain rfl : y = .ref bs[t] := by
          rw [List.getElem?_map, hbt] at hx
          exact (Option.some.inj hx).symm
        have htp : t < p := c2 ▸ ht
        have h3 := o2 _ _ (nb hbt) (c3 t _ hbt)
        refine ⟨bs[t], _, rfl, sqT h3, rfl, _, _, rfl, _, _, rfl, rfl, ?_⟩
        refine ⟨_, rfl, rfl, _, rfl, itB (fun hn => ?_) fun hn => ?_⟩
        · have hn' : (W t).n ≠ "" := fun e => by
            rw [e] at hn
            simp at hn
          obtain ⟨a1, a2, a3, a4, a5⟩ := arc_name ok (ring.ok t) hn'
          have ho : V.str (W t).o ≠ V.str "" := fun e => a5 (V.str.inj e)
          refine ⟨_, rfl, rfl, _, rfl, ?_⟩
          rw [decide_eq_false ho]
          refine itT ⟨_, rfl, _, _, _, _, _, rfl, o2 _ _ nm (e1 _ _ m1), T.c_Moves, T.a_Moves_seats, rfl, x.se, x.dx, _, rfl, hS2.at_, rfl, _, rfl, _, rfl, x, keysL Sc.chan, S', (W t).n, (W t).o, rfl, hS2, mo.sit.ok, ok.cn, a4, by have := mo.sit.len; omega, fun H4 o4 hS4 => ?_⟩
          exact ⟨_, _, _, rfl, o2.trans o4, hS4, mo.go ok ring htp hn'⟩
        · have hn' : (W t).n = "" := by
            cases hd : decide (V.str (W t).n = V.str "") with
            | true => exact V.str.inj (of_decide_eq_true hd)
            | false => rw [hd] at hn; cases hn
          exact itF ⟨_, _, S', rfl, o2, hS2, mo.skip ring hn'⟩
      · rintro σ H2 ⟨v2, v3, S', rfl, o2, hS2, mo⟩
        rw [c2] at mo
        have hc := mo.cost
        have hneg := ring.neg
        exact kY H2 S' (fun b o hb q => o2 b o hb (e1 b o q)) hS2 mo.sit (by omega)
end
end MC
end
section
set_option Elab.async false
set_option linter.all false
set_option maxRecDepth 100000
set_option maxHeartbeats 4000000
/-! The defs, 23: reseated, moves_of. -/
namespace MC
open PySem PySem.Spec PyProof.Rows L2
section
variable {P : Program} {w : World} {K : PySem.W.Frag} {mg : Str → Option Value} {base : Heap}
def RsW (K : PySem.W.Frag) (sc sd be mv : Addr) (x : SAd) (Sc : Scn) (B L : List (Str × Str)) (H : Hp) (mu : Nat) (σ : L2.St) (H' : Hp) : Prop := ∃ S : SS, σ = [some (.ref sc), some (.ref sd), some (.ref be), some (.ref mv), none] ∧ Same H H' ∧ MvAt K H' mv be x Sc S B ∧ Sits Sc S L ∧ mu = (costL B S.seating).toNat
def spReseated (K : PySem.W.Frag) : Sp := fun vs H Q _ => ∃ (sc sd be : Addr) (Sc : Scn) (L B : List (Str × Str)), vs = [.ref sc, .ref sd, .ref be] ∧ SceneAt K H sc Sc ∧ Sc.Ok ∧ H sd = some (.dK (dV V.str L)) ∧ H be = some (.dK (dV V.str B)) ∧ Full Sc L ∧
  ∀ H' q R, Same H H' → H q = none → H' q = some (.dK (dV V.str R)) → Full Sc R → Q (.ref q) H'
theorem ok_reseated (T : Txt P w K mg) : Has P w K mg base CX0 5 (He.fAd K ("reseated", none)) ["scene", "seating", "before"] (spReseated K) := by
  obtain ⟨fd, F⟩ := T.d_Reseated
  obtain ⟨fdI, GI, bI, kI⟩ := ok_movesInit (base := base) T
  obtain ⟨fdB, GB, bB, kB⟩ := ok_better (base := base) T
  have sc : FnScope ["scene", "seating", "before", "moves", "name"] ["scene", "seating", "before"] (defScope sReseated) := ⟨rfl, rfl, rfl, by decide +kernel, rfl, by decide +kernel, by decide +kernel⟩
  refine ⟨fd, F.ok sc (fun vs H Q E h => ?_) (fun cdv A outer s H vs Q E hr h => ?_), F.bindsN fun _ _ _ _ _ _ us hl => match us, hl with | [_, _, _], _ => rfl, F.kp⟩
  · obtain ⟨scn, sd, be, Sc, L, B, rfl, _⟩ := h
    rfl
  · obtain ⟨scn, sd, be, Sc, L, B, rfl, hC, ok, hsd, hbe, full, k⟩ := h
    refine ⟨_, PSs.nox (pss_cons (ps_set (i := 3) sc.nd rfl (by first | exact Or.inl rfl | exact Or.inr rfl) (pe_make T.k_Moves GI hr (by rfl) T.g_Moves bI .nil pass0 (pa_cons (pv 0) (pa_cons (pv 1) (pa_cons (pv 2) pa_nil)))))
      (pss_cons (ps_while PassesOwn.never (pt_val (pe_meth0 (pv 3) T.c_Moves T.m_Moves_better GB hr bB .nil pass0)) (pss_one ps_continue))
      (pss_one (ps_ret (pe_dc (own := [("name", 4)]) (tk := tVar 4) (tv := tDGet (tFld K (tFld K (tVar 3) "seats") "seating") (tVar 4)) (by rfl) sc.nd (pi_list (pe_callB (cr_sortedStr (by rfl) (by exact hr.units)) (by rfl) T.z_sorted bt_sorted (pa_cons (pe_fld (pe_fld (pv 3) rfl) rfl) pa_nil)))
          (by exact blk_ok (N := ["scene", "seating", "before", "moves", "name"]) (sc := defScope sReseated) (by decide +kernel)) (fun _ _ _ _ _ => pg_name (i := 4) sc.nd rfl (Or.inl rfl)) (fun _ _ _ _ _ => pts_nil) (fun _ _ _ _ _ => pv 4) (fun _ _ _ _ _ => pe_dget (by exact hr.u1) (pe_fld (pe_fld (pv 3) rfl) rfl) (pv 4) (fun _ _ => rfl))))))), ?_⟩
    have hLl : L.length ≤ 100 := by
      have := nodup_le full.nd (m := keysL Sc.calls) fun n hn => (full.keys n).mp hn
      rw [keysL_len, keysL_len] at this
      have := ok.ll
      omega
    refine ⟨_, rfl, _, rfl, _, rfl, fun mv dx hmv hdx hne => ?_⟩
    have e1 : Same H (upd (upd H dx (.own mv)) mv (.ins (He.ga K "Moves") dx [])) := (Same.new hdx).upd (by rw [upd_ne hne.symm]; exact hmv)
    obtain ⟨H1, eH1⟩ : ∃ H1, H1 = upd (upd H dx (.own mv)) mv (.ins (He.ga K "Moves") dx []) := ⟨_, rfl⟩
    have h1mv : H1 mv = some (.ins (He.ga K "Moves") dx []) := by rw [eH1]; exact upd_same
    rw [← eH1] at e1 ⊢
    refine ⟨mv, dx, scn, sd, be, Sc, L, B, rfl, h1mv, hC.same e1, ok, e1 _ _ hsd, e1 _ _ hbe, full, fun H2 x S ex o2 hM2 sit hfr => ⟨rfl, ?_⟩⟩
    subst ex
    have e2 : Same H H2 := fun b o q => o2 b o (fun hb => by rw [hb, hmv] at q; cases q) (e1 _ _ q)
    have hmH : ∀ b, x.mut (keysL Sc.chan) b → H b = none := fun b hb => none_back e1 (hfr b hb)
    refine ⟨RsW K x.sc sd be mv x Sc B L H, ⟨_, S, rfl, e2, hM2, sit, rfl⟩, ?_⟩
    rintro mu σ H3 ⟨S3, rfl, e3, hM3, sit3, hmu⟩
    obtain ⟨dxm, m1⟩ := hM3.at_
    have nbe : ¬ x.mut (keysL Sc.chan) be := fun h => by rw [hmH be h] at hbe; cases hbe
    refine ⟨_, rfl, mv, dxm, _, rfl, m1, rfl, mv, be, x, Sc, S3, B, L, rfl, hM3, ok, sit3, fun n hn => (full.keys n).mp hn, hLl, fun H4 e4 => ?_, fun H4 S4 o4 hS4 sit4 hlt => ?_⟩
    · refine ⟨_, rfl, itF ?_⟩
      have hS4 := hM3.st.same e4
      have eA := e3.trans e4
      have hsl := sit3.len
      have hsl2 := (sortS_perm (keysL S3.seating)).length_eq
      rw [keysL_len] at hsl2
      refine ⟨_, rfl, mv, _, dxm, _, _, rfl, e4 _ _ m1, T.c_Moves, T.a_Moves_seats, rfl, x.se, _, x.dx, _, _, rfl, hS4.at_, T.c_Seats, T.a_Seats_seating, rfl, x.sa, keysL S3.seating, rfl, .inr (.inr ⟨_, .inl hS4.sa, dV_keys.symm⟩), by rw [keysL_len]; omega, fun q hq => ⟨q, rfl, ⟨_, sqL upd_same⟩, fun D hD => ?_⟩⟩
      have e5 : Same H4 (upd H4 q (.lst ((sortS (keysL S3.seating)).map V.str))) := Same.new hq
      refine dc_list V.str (sortS (keysL S3.seating)) walk_listM (fun _ => true) id (fun n => (S3.seating.lookup n).getD "") hD (by omega) (by rw [List.map_id]; exact (sortS_perm _).nodup_iff.mpr sit3.ok.nd) (fun H' e => sqL (e _ _ upd_same)) ?_ ?_
      · intro i a y H' H9 ha e _ yy
        obtain ⟨rfl, rfl⟩ := yat_map ha yy
        obtain ⟨v, hv⟩ := mem_keysL.mp ((sortS_perm _).mem_iff.mp (List.mem_of_getElem? ha))
        have e6 := e5.trans e
        refine ⟨Same.refl _, fun R S' hR hS => ⟨rfl, yesT ⟨_, rfl, _, rfl, mv, _, dxm, _, _, rfl, e6 _ _ (e4 _ _ m1), T.c_Moves, T.a_Moves_seats, rfl, x.se, _, x.dx, _, _, rfl, e6 _ _ hS4.at_, T.c_Seats, T.a_Seats_seating, rfl, _, rfl, x.sa, _, rfl, dgetS (.inl (e6 _ _ hS4.sa)) hv, ?_⟩⟩⟩
        have := hR _ (Same.refl _) rfl
        rw [hv] at this
        exact this
      intro H9 e9 hD9
      rw [List.filter_eq_self.mpr fun _ _ => rfl] at hD9
      refine k H9 D (sortL "" S3.seating) ((eA.trans e5).trans e9) (none_back (eA.trans e5) hD) hD9 ⟨nodup_sortL sit3.ok.nd, fun n => ?_, fun n m h => ?_⟩
      · rw [mem_sortL, sit3.keys, full.keys]
      · rw [lookup_sortL sit3.ok.nd] at h
        exact ⟨sit3.hrd n m h, sit3.ok.min n m h⟩
    · refine ⟨_, rfl, itT ⟨fun σ' H' => ∃ m', m' < mu ∧ RsW K x.sc sd be mv x Sc B L H m' σ' H', fun σ' H' h => h, ?_⟩⟩
      have nm : ¬ x.mut (keysL Sc.chan) mv := by
        rintro (e | ⟨m, hm, e⟩)
        · have := hM3.st.sa
          rw [← e, m1] at this
          cases this
        · have := hM3.st.lam m hm
          rw [← e, m1] at this
          cases this
      have hnn := costL_nn B S4.seating
      exact ⟨_, by rw [hmu]; omega, S4, rfl, Off.over e3 hmH o4, ⟨⟨dxm, o4 _ _ nm m1⟩, o4 _ _ nbe hM3.be, hC.same (Off.over e3 hmH o4), hS4⟩, sit4, rfl⟩
/-- what moves_of tells is not looked at but for its names -/
def spMovesOf (K : PySem.W.Frag) : Sp := fun vs H Q _ => ∃ (sd be : Addr) (R B : List (Str × Str)), vs = [.ref sd, .ref be] ∧ H sd = some (.dK (dV V.str R)) ∧ H be = some (.dK (dV V.str B)) ∧ (keysL R).Nodup ∧ R.length ≤ 1000 ∧
  ∀ H' q (M : List Str), Same H H' → H q = none → H' q = some (.tup (M.map V.str)) → M.length ≤ 1000 → Q (.ref q) H'
theorem ok_movesOf (T : Txt P w K mg) : Has P w K mg base CX0 1 (He.fAd K ("moves_of", none)) ["seating", "before"] (spMovesOf K) := by
  obtain ⟨fd, F⟩ := T.d_MovesOf
  have sc : FnScope ["seating", "before", "name"] ["seating", "before"] (defScope sMovesOf) := ⟨rfl, rfl, rfl, by decide +kernel, rfl, by decide +kernel, by decide +kernel⟩
  refine ⟨fd, F.ok sc (fun vs H Q E h => ?_) (fun cdv A outer s H vs Q E hr h => ?_), F.bindsN fun _ _ _ _ _ _ us hl => match us, hl with | [_, _], _ => rfl, F.kp⟩
  · obtain ⟨sd, be, R, B, rfl, _⟩ := h
    rfl
  · obtain ⟨sd, be, R, B, rfl, hsd, hbe, hn, hl, k⟩ := h
    refine ⟨_, pss_one (ps_ret (pe_callTy call_tuple_of (by rfl) T.z_tuple bt_tuple (pa_cons (pe_lc (own := [("name", 2)]) (tt := tTest (tOp rNe (tDGet1 (tVar 1) (tVar 2)) (tDGet (tVar 0) (tVar 2)))) (by rfl) sc.nd (pi_list (pe_callB (cr_sortedStr (by rfl) (by exact hr.units)) (by rfl) T.z_sorted bt_sorted (pa_cons (pv 0) pa_nil)))
      (by exact blk_ok (N := ["seating", "before", "name"]) (sc := defScope sMovesOf) (by decide +kernel)) (fun _ _ _ _ _ => pg_name (i := 2) sc.nd rfl (Or.inl rfl)) (fun _ _ _ _ _ => pts_one (pt_cmpR op_ne (pe_dget1 (by exact hr.u1) (pv 1) (pv 2) ⟨rfl, rfl, rfl, rfl⟩) (pe_dget (by exact hr.u1) (pv 0) (pv 2) (fun _ _ => rfl)) (nomark _))) (fun _ _ _ _ _ => pv 2)) pa_nil))), ?_⟩
    have hsl2 := (sortS_perm (keysL R)).length_eq
    rw [keysL_len] at hsl2
    refine ⟨_, rfl, sd, keysL R, rfl, .inr (.inr ⟨_, .inl hsd, dV_keys.symm⟩), by rw [keysL_len]; omega, fun q hq => ⟨q, rfl, ⟨_, sqL upd_same⟩, fun D hD => ?_⟩⟩
    have e5 : Same H (upd H q (.lst ((sortS (keysL R)).map V.str))) := Same.new hq
    refine lc_list (sortS (keysL R)) walk_listM (fun n => decide (B.lookup n ≠ R.lookup n)) V.str hD (by omega) (fun H' e => sqL (e _ _ upd_same)) ?_ ?_
    · intro i a y H' H2 ha e yy
      obtain ⟨rfl, rfl⟩ := yat_map ha yy
      obtain ⟨v, hv⟩ := mem_keysL.mp ((sortS_perm _).mem_iff.mp (List.mem_of_getElem? ha))
      have e6 := e5.trans e
      refine ⟨Same.refl _, fun Rr S' hR hS => ⟨rfl, _, rfl, be, rfl, .inl ⟨_, .inl (e6 _ _ hbe)⟩, _, rfl, _, dgetR (k := a) (.inl (e6 _ _ hbe)), _, rfl, _, rfl, sd, _, rfl, dgetS (.inl (e6 _ _ hsd)) hv, ?_⟩⟩
      have ed : decide (B.lookup a ≠ R.lookup a) = !decide (((B.lookup a).map V.str).getD .non = V.str v) := by
        rw [hv]
        cases B.lookup a with
        | none => simp
        | some u => simp
      have hsc : scal (((B.lookup a).map V.str).getD .non) (V.str v) = true := by
        cases B.lookup a with
        | none => rfl
        | some u => rfl
      refine ⟨hsc, _, rfl, itB (fun hc => ⟨_, rfl, hR _ (Same.refl _) (by rw [ed]; exact hc)⟩) fun hc => hS _ (Same.refl _) (by rw [ed]; exact hc)⟩
    · intro H1 e hDl
      refine ⟨D, _, rfl, .inl ⟨sqL hDl, fun t ht => k _ t _ ((e5.trans e).upd ht) (none_back (e5.trans e) ht) upd_same ?_⟩⟩
      have := List.length_filter_le (fun n => decide (B.lookup n ≠ R.lookup n)) (sortS (keysL R))
      omega
end
end MC
end
section
set_option Elab.async false
set_option linter.all false
set_option maxRecDepth 100000
set_option maxHeartbeats 4000000
/-! The defs, 8: ways_into. -/
namespace MC
open PySem PySem.Spec PyProof.Rows L2
open PySem.W (alike alikeAll AllAlike Sortable)
/-- a zone to be kept: its masts up are all of M -/
def Plan.goalB (p : Plan) (down M : List Str) (z : Str) : Bool := decide (p.up down z ≠ []) && (p.up down z).all fun m => decide (m ∈ M)
def Plan.goals (p : Plan) (down M : List Str) : List Str := p.zones.filter (p.goalB down M)
/-- a call's zone leads to such a zone -/
def Plan.hit (p : Plan) (down M : List Str) (z : Str) : Prop := ∃ y ∈ p.goals down M, Rch p.roads z y
open Classical in
noncomputable def Plan.hitB (p : Plan) (down M : List Str) (c : Str × Str) : Bool := decide (p.hit down M c.2)
/-- a dict of texts -/
def DTx (R : Hp → Addr → HO → Prop) (H : Hp) (a : Addr) (ps : List (Str × Str)) : Prop := R H a (.dK (dV V.str ps))
/-- what is asked of the places -/
structure PlOk (p : Plan) (ps : List (Str × Str)) : Prop where
  nd : (ps.map (·.1)).Nodup
  zin : ∀ c ∈ ps, c.2 ∈ p.zones
  len : ps.length ≤ 100
/-- the texts that the addresses hold -/
theorem ha_tups {K : PySem.W.Frag} {H : Hp} {τ : Str → Addr} : ∀ {Y : List Str}, (∀ y ∈ Y, ∃ l : List Str, H (τ y) = some (.tup (l.map V.str))) → ∃ ls : List (PySem.W.Tup Str), Ha K H (Y.map fun y => V.ref (τ y)) ls ∧ ls.length = Y.length
  | [], _ => ⟨[], ha_nil, rfl⟩
  | y :: Y, h => by
    obtain ⟨ls, h1, h2⟩ := ha_tups fun z hz => h z (List.mem_cons_of_mem _ hz)
    obtain ⟨l, hl⟩ := h y List.mem_cons_self
    exact ⟨PySem.W.Tup.mk l :: ls, ha_cons (hv_tup (sqT hl) (ha_strs _)) h1, by rw [List.length_cons, List.length_cons, h2]⟩
open Classical in
/-- a call's zone, by its name, leads there -/
noncomputable def Plan.hitN (p : Plan) (down M : List Str) (ps : List (Str × Str)) (c : Str) : Bool := decide (∃ z, ps.lookup c = some z ∧ p.hit down M z)
theorem hits_len {p : Plan} {down M : List Str} {ps : List (Str × Str)} (hn : (ps.map (·.1)).Nodup) : ((sortS (ps.map (·.1))).filter (p.hitN down M ps)).length = (ps.filter (p.hitB down M)).length := by
  rw [((sortS_perm _).filter _).length_eq, List.filter_map, List.length_map]
  congr 1
  refine List.filter_congr fun c hc => ?_
  show p.hitN down M ps c.1 = _
  unfold Plan.hitN Plan.hitB
  rw [lookup_nodup hn hc]
  refine decide_eq_decide.mpr ⟨fun ⟨z, h1, h2⟩ => ?_, fun h => ⟨_, rfl, h⟩⟩
  cases h1
  exact h2
theorem Plan.zlen {p : Plan} (ok : p.Ok) : p.zones.length ≤ 8 := by
  unfold Plan.zones
  rw [List.length_map]
  exact ok.hsz
theorem Plan.glen {p : Plan} (ok : p.Ok) (down M : List Str) : (p.goals down M).length ≤ 8 := Nat.le_trans (List.length_filter_le _ _) (Plan.zlen ok)
section
variable {P : Program} {w : World} {K : PySem.W.Frag} {mg : Str → Option Value} {base : Heap}
def spWaysInto (K : PySem.W.Frag) : Sp := fun vs H Q _ => ∃ (pl pa mm dn : Addr) (p : Plan) (ps : List (Str × Str)) (M down : List Str), vs = [.ref pl, .ref pa, .ref mm, .ref dn] ∧ PlanAt K H pl p ∧ p.Ok ∧ DTx Rd H pa ps ∧ PlOk p ps ∧ SqT K H mm (M.map V.str) ∧ SqT K H dn (down.map V.str) ∧ down.length ≤ 1000 ∧ M.length ≤ 1000 ∧
  ∀ H' q (L : List (Str × Addr)), Same H H' → H q = none → H' q = some (.dK (dS (L.map fun c => (c.1, .ref c.2)))) → L.length = (ps.filter (p.hitB down M)).length → Q (.ref q) H'
theorem ok_waysInto (T : Txt P w K mg) : Has P w K mg base CX0 5 (He.fAd K ("ways_into", none)) ["town", "places", "masts", "down"] (spWaysInto K) := by
  obtain ⟨fd, F⟩ := T.d_WaysInto
  obtain ⟨fdU, GU, bU, kU⟩ := ok_upMasts (base := base) T
  obtain ⟨fdR, GR, bR, kR⟩ := ok_reach (base := base) T
  have sc : FnScope ["town", "places", "masts", "down", "goals", "zone", "up", "found", "call", "reach", "some", "mast"] ["town", "places", "masts", "down"] (defScope sWaysInto) := ⟨rfl, rfl, rfl, by decide +kernel, rfl, by decide +kernel, by decide +kernel⟩
  refine ⟨fd, F.ok sc (fun vs H Q E h => ?_) (fun cdv A outer s H vs Q E hr h => ?_), F.bindsN fun _ _ _ _ _ _ us hl => match us, hl with | [_, _, _, _], _ => rfl, F.kp⟩
  · obtain ⟨pl, pa, mm, dn, p, ps, M, down, rfl, _⟩ := h
    rfl
  · obtain ⟨pl, pa, mm, dn, p, ps, M, down, rfl, hp, ok, hpa, pok, hM, hd, hdl, hMl, k⟩ := h
    refine ⟨_, PSs.nox (pss_cons (ps_set (i := 4) sc.nd rfl (by first | exact Or.inl rfl | exact Or.inr rfl) (pe_lst pa_nil))
      (pss_cons (ps_lock (ps_for PassesOwn.never rfl (pi_keys (pe_fld (pv 0) rfl)) (pg_name (i := 5) sc.nd rfl (by first | exact Or.inl rfl | exact Or.inr rfl))
        (pss_cons (ps_set (i := 6) sc.nd rfl (by first | exact Or.inl rfl | exact Or.inr rfl) (pe_meth (pv 0) T.c_Map T.m_Map_up_masts GU (hr.mono (by decide)) bU .nil pass0 (pa_cons (pv 5) (pa_cons (pv 3) pa_nil))))
        (pss_one (ps_if (PW.pt (pw_and (pt_cmpR (op_neT (PySem.W.Tup Str) (by exact Fit.of hr (by decide))) (pv 6) (pe_tup pa_nil) (nomark _))
          (pw_and1 (pt_val (pe_callB (cr_all (by rfl)) (by rfl) T.z_all bt_all (pa_cons (pe_lc (own := [("mast", 11)]) (te := tOp (rIn K false) (tVar 11) (tVar 2)) (by rfl) sc.nd (pi_tup (pv 6))
            (by exact blk_ok (N := ["town", "places", "masts", "down", "goals", "zone", "up", "found", "call", "reach", "some", "mast"]) (sc := defScope sWaysInto) (by decide +kernel)) (fun _ _ _ _ _ => pg_name (i := 11) sc.nd rfl (Or.inl rfl)) (fun _ _ _ _ _ => pts_nil) (fun _ _ _ _ _ => pe_cmpR op_in_seq (pv 11) (pv 2) rfl)) pa_nil))))))
          (pss_one (ps_expr (pe_bm PySem.F.plainAttrs_list PySem.F.slot_list_append PySem.F.type_list_append mt_append (pv 4) (pa_cons (pv 5) pa_nil)))) pss_nil)))))
      (pss_cons (ps_set (i := 7) sc.nd rfl (Or.inl rfl) pe_dnewK)
      (pss_cons (ps_for PassesOwn.never rfl (pi_list (pe_callB (cr_sortedStr (by rfl) (by exact hr.units)) (by rfl) T.z_sorted bt_sorted (pa_cons (pv 1) pa_nil))) (pg_name (i := 8) sc.nd rfl (Or.inl rfl))
        (pss_cons (ps_set (i := 9) sc.nd rfl (by first | exact Or.inl rfl | exact Or.inr rfl) (pe_meth (pv 0) T.c_Map T.m_Map_reach GR (hr.mono (by decide)) bR .nil pass0 (pa_cons (pe_dget (by exact hr.u1) (pv 1) (pv 8) (fun _ _ => rfl)) pa_nil)))
        (pss_cons (ps_setLc (i := 10) (own := [("zone", 5)]) (tt := tB (tDIn (tVar 5) (tVar 9))) (te := tDGet (tVar 9) (tVar 5)) (by rfl) sc.nd rfl rfl (sw_true rfl rfl rfl rfl) (pi_list (pv 4))
            (by exact blk_ok (N := ["town", "places", "masts", "down", "goals", "zone", "up", "found", "call", "reach", "some", "mast"]) (sc := defScope sWaysInto) (by decide +kernel)) (fun _ _ _ _ _ => pg_name (i := 5) sc.nd rfl (Or.inl rfl)) (fun _ _ _ _ _ => pts_one (pt_cmp (pc_din (by exact hr.u1) (pv 5) (pv 9)))) (fun _ _ _ _ _ => pe_dget (by exact hr.u1) (pv 9) (pv 5) (fun _ _ => rfl)))
        (pss_one (ps_if (pt_cmpR (op_neT (List (PySem.W.Tup Str)) (by exact Fit.of hr (by decide))) (pv 10) (pe_lst pa_nil) (nomark _))
          (pss_one (ps_dput (by exact hr.u1) (pv 7) (pv 8) (pe_callBK (cr_minKeyF (by rfl) (by exact hr.units) (by exact hr.in1.mono (by decide))) (by rfl) T.z_min bt_min (pa_cons (pv 10) pa_nil) (pk_cons (pe_glob (v := .ref (He.fAd K ("size_and_row", none))) (by rfl) T.g_size_and_row rfl) pk_nil)) rfl)) pss_nil)))))
      (pss_one (ps_ret (pv 7))))))), ?_⟩
    refine ⟨sz0, fun go hgo => ?_⟩
    obtain ⟨dx, ca, ha, ra, β, ρ, h1, h2, h3, h4, h5, h6⟩ := id hp
    have h3' : H ha = some (.dK (dS (p.heard.map fun h => (h.1, V.ref (β h.1))))) := h3
    have hnf : ha ≠ go := ne_of_none h3' hgo
    refine ⟨ha, .dK (dS (p.heard.map fun h => (h.1, V.ref (β h.1)))), by rw [upd_ne hnf]; exact h3', trivial, fun od => ?_⟩
    obtain ⟨u, hu⟩ : ∃ u, u = HO.dK (dS (p.heard.map fun h => (h.1, V.ref (β h.1)))) := ⟨_, rfl⟩
    obtain ⟨HB, eHB⟩ : ∃ HB, HB = upd H ha (.frz od u) := ⟨_, rfl⟩
    obtain ⟨HL, eHL⟩ : ∃ HL, HL = upd (upd H go (.lst [])) ha (.frz od u) := ⟨_, rfl⟩
    rw [← hu, ← eHL]
    have hpB : PlanRd K HB pl p := by rw [eHB, hu]; exact hp.rd.lock h3'
    have fB : HB go = none := by rw [eHB, upd_ne hnf.symm]; exact hgo
    have eBL : Same HB HL := fun b o q => by
      rw [eHL]
      rw [eHB] at q
      by_cases hb : b = ha
      · rw [hb, upd_same] at q ⊢
        exact q
      · rw [upd_ne hb] at q
        rw [upd_ne hb, upd_ne (ne_of_none q hgo)]
        exact q
    have hLg : HL go = some (.lst []) := by rw [eHL, upd_ne hnf.symm]; exact upd_same
    have hBh : HB ha = some (.frz od u) := by rw [eHB]; exact upd_same
    have hB1 : HB pl = some (.ins (He.ga K "Map") dx [("channels", .ref ca), ("heard", .ref ha), ("roads", .ref ra)]) := by rw [eHB, hu]; exact at_lock h3' h1 (by intro z; cases z)
    have lockT : ∀ {a : Addr} {xs : List V}, SqT K H a xs → SqT K HB a xs := fun hd => by
      rcases hd with q | q
      · exact .inl (by rw [eHB, hu]; exact rd_lock h3' trivial q)
      · exact .inr q
    have hdB := lockT hd
    have hMB := lockT hM
    refine ⟨_, rfl, pl, _, dx, _, _, rfl, eBL _ _ hB1, T.c_Map, T.a_Map_heard, rfl, ha, od, rfl, .inl ⟨_, by rw [← hu]; exact eBL _ _ hBh, ?_⟩⟩
    have hn : (dS (p.heard.map fun h => (h.1, V.ref (β h.1)))).length = p.zones.length := by rw [List.length_map, List.length_map]; unfold Plan.zones; rw [List.length_map]
    refine for_it walk_keys (fun i σ H' => ∃ (v5 v6 : Option V), σ = [some (.ref pl), some (.ref pa), some (.ref mm), some (.ref dn), some (.ref go), v5, v6, none, none, none, none, none] ∧ Same HB H' ∧ H' go = some (.lst (((p.zones.take i).filter (p.goalB down M)).map V.str)))
      ⟨none, none, rfl, eBL, hLg⟩ (fun i σ H' _ ⟨_, _, _, e, _⟩ => by rw [← hu]; exact e _ _ hBh) ?_ ?_
    · rintro i x σ H' H'' hi ⟨v5, v6, rfl, e, hg⟩ ⟨rfl, kk, vv, hx, rfl⟩
      obtain ⟨hd1, hh⟩ : ∃ h, p.heard[i]? = some h := by
        rw [List.length_map, List.length_map] at hi
        exact ⟨_, List.getElem?_eq_getElem hi⟩
      obtain ⟨z, l⟩ := hd1
      have hkk : kk = .inr z := by
        rw [List.getElem?_map, List.getElem?_map, hh] at hx
        exact (congrArg Prod.fst (Option.some.inj hx)).symm
      subst hkk
      have hzz : p.zones[i]? = some z := by unfold Plan.zones; rw [List.getElem?_map, hh] <;> rfl
      have hz : z ∈ p.zones := List.mem_of_getElem? hzz
      have htk : p.zones.take (i + 1) = p.zones.take i ++ [z] := by rw [List.take_add_one, hzz] <;> rfl
      have hul := Plan.up_le ok down z
      refine ⟨_, rfl, pl, dx, _, rfl, e _ _ hB1, rfl, _, rfl, _, rfl, pl, dn, z, p, down, rfl, hpB.same e, ok, hz, e.seqT hdB, hdl, fun H1 q e1 hq => ?_⟩
      have hg1 := e1 _ _ hg
      have e01 : Same HB H1 := e.trans e1
      have nxt : ∀ {H5 : Hp}, Same HB H5 → H5 go = some (.lst (((p.zones.take i).filter (p.goalB down M)).map V.str)) → p.goalB down M z = false → ∃ v5 v6, ([some (.ref pl), some (.ref pa), some (.ref mm), some (.ref dn), some (.ref go), some (.str z), some (.ref q), none, none, none, none, none] : L2.St) = [some (.ref pl), some (.ref pa), some (.ref mm), some (.ref dn), some (.ref go), v5, v6, none, none, none, none, none] ∧ Same HB H5 ∧ H5 go = some (.lst (((p.zones.take (i + 1)).filter (p.goalB down M)).map V.str)) := fun e5 h5 hb => by
        refine ⟨_, _, rfl, e5, ?_⟩
        rw [htk, List.filter_append, List.filter_cons, if_neg (by rw [hb]; exact Bool.false_ne_true), List.filter_nil, List.append_nil]
        exact h5
      refine ⟨_, rfl, sz0, fun em hem => ⟨PySem.W.Tup.mk (p.up down z), PySem.W.Tup.mk [], hv_tup (sqT (by rw [upd_ne (ne_of_none hq hem)]; exact hq)) (ha_strs _), hv_tup (sqT upd_same) ha_nil, _, rfl, ?_⟩⟩
      have e2 : Same H1 (upd H1 em (.tup [])) := Same.new hem
      obtain ⟨H2, eH2⟩ : ∃ H2, H2 = upd H1 em (.tup []) := ⟨_, rfl⟩
      rw [← eH2] at e2 ⊢
      have e02 := e01.trans e2
      have hg2 := e2 _ _ hg1
      have hq2 := e2 _ _ hq
      refine itB (fun hc => ?_) fun hc => ?_
      · have hup : p.up down z ≠ [] := fun h => by
          rw [h] at hc
          simp at hc
        refine ⟨_, rfl, q, rfl, ⟨_, sqT hq2⟩, fun D hD => ?_⟩
        refine lc_list (p.up down z) walk_tupM (fun _ => true) (fun m => .bl (decide (m ∈ M))) hD (by omega) (fun H' e => sqT (e _ _ hq2)) ?_ ?_
        · intro j a x H' H3 ha' e y
          obtain ⟨rfl, rfl⟩ := yat_map ha' y
          refine ⟨Same.refl _, fun R S hR hS => ⟨rfl, yesT ⟨_, rfl, _, rfl, mm, M.map V.str, rfl, .inr ((e02.trans e).seqT hMB), rfl, flat_strs M, ?_⟩⟩⟩
          have q := hR H3 (Same.refl H3) rfl
          rw [← inV_strs] at q
          exact q
        · intro H3 e3 hDl
          rw [List.filter_eq_self.mpr fun _ _ => rfl] at hDl
          refine ⟨D, (p.up down z).map fun m => decide (m ∈ M), rfl, sqL (by rw [hDl, List.map_map]; rfl), _, rfl, ?_⟩
          have hall : (((p.up down z).map fun m => decide (m ∈ M)).all id) = (p.up down z).all fun m => decide (m ∈ M) := by rw [List.all_map]; rfl
          rw [hall]
          have hg3 := e3 _ _ hg2
          refine itB (fun hb => ?_) fun hb => ?_
          · refine ⟨_, rfl, .inl ⟨rfl, _, sqL hg3⟩, _, rfl, go, _, _, rfl, rfl, hg3, szL (by rw [List.length_map]; have q1 := List.length_filter_le (p.goalB down M) (p.zones.take i); have q2 := Plan.zlen ok; rw [List.length_take] at q1; omega), ?_⟩
            refine ⟨_, _, rfl, (e02.trans e3).turn fB, ?_⟩
            rw [upd_same, htk, List.filter_append, List.filter_cons, if_pos (by unfold Plan.goalB; rw [decide_eq_true hup, hb]; rfl), List.map_append]
            rfl
          · exact nxt (e02.trans e3) hg3 (by unfold Plan.goalB; rw [hb, Bool.and_false])
      · have hup : p.up down z = [] := by
          rw [decide_eq_false_iff_not] at hc
          exact Classical.byContradiction fun h => hc fun e => h (PySem.W.Tup.mk.inj e)
        exact nxt e02 hg2 (by unfold Plan.goalB; rw [hup]; rfl)
    · rintro σ H' ⟨v5, v6, rfl, e, hg⟩
      rw [hn, List.take_length] at hg
      refine ⟨e _ _ hBh, ?_⟩
      have eT : Same H (upd H' ha u) := same_lock (by rw [hu]; exact h3') (by rw [← eHB]; exact e)
      have hgT : (upd H' ha u) go = some (.lst ((p.goals down M).map V.str)) := by rw [upd_ne hnf.symm]; exact hg
      obtain ⟨HT, eHT⟩ : ∃ HT, HT = upd H' ha u := ⟨_, rfl⟩
      rw [← eHT] at eT hgT ⊢
      clear hg e eHT
      intro fo hfo
      have eF : Same HT (upd HT fo (.dK [])) := Same.new hfo
      have hpF : DTx Rd (upd HT fo (.dK [])) pa ps := (eT.trans eF).rd hpa
      refine ⟨_, rfl, pa, ps.map (·.1), rfl, .inr (.inr ⟨_, hpF, by rw [List.map_map, List.map_map, List.map_map]; rfl⟩), by rw [List.length_map]; have := pok.len; omega, fun q hq => ⟨q, rfl, ⟨_, sqL upd_same⟩, ?_⟩⟩
      have hq0 : HT q = none := eF.free hq
      have nfq : fo ≠ q := fun z => by rw [← z, upd_same] at hq; cases hq
      have hnd : (sortS (ps.map (·.1))).Nodup := (sortS_perm _).nodup_iff.mpr pok.nd
      refine for_it (walk_listM (K := K) (xs := sortS (ps.map (·.1))) (f := V.str)) (fun i σ H' => ∃ (v8 v9 v10 : Option V) (L : List (Str × Addr)), σ = [some (.ref pl), some (.ref pa), some (.ref mm), some (.ref dn), some (.ref go), v5, v6, some (.ref fo), v8, v9, v10, none] ∧ Same HT H' ∧ H' q = some (.lst ((sortS (ps.map (·.1))).map V.str)) ∧ H' fo = some (.dK (dV V.ref L)) ∧ keysL L = ((sortS (ps.map (·.1))).take i).filter (p.hitN down M ps))
        ⟨none, none, none, [], rfl, eF.upd hq, upd_same, by rw [upd_ne nfq]; exact upd_same, rfl⟩ (fun i σ H' _ ⟨_, _, _, _, _, _, h, _⟩ => sqL h) ?_ ?_
      · rintro i x σ H' H'' hi ⟨v8, v9, v10, L, rfl, e, hql, hf, hK⟩ ⟨rfl, hx⟩
        obtain ⟨c, hc⟩ : ∃ c, (sortS (ps.map (·.1)))[i]? = some c := ⟨_, List.getElem?_eq_getElem hi⟩
        obtain rfl : x = .str c := by
          rw [List.getElem?_map, hc] at hx
          exact (Option.some.inj hx).symm
        have hcm : c ∈ ps.map (·.1) := (sortS_perm _).mem_iff.mp (List.mem_of_getElem? hc)
        obtain ⟨z, hcz⟩ := lookup_some hcm
        have htk : (sortS (ps.map (·.1))).take (i + 1) = (sortS (ps.map (·.1))).take i ++ [c] := by rw [List.take_add_one, hc] <;> rfl
        have hcL : c ∉ keysL L := fun hm => by
          rw [hK] at hm
          have hm := (List.mem_filter.mp hm).1
          obtain ⟨k, hk, ek⟩ := List.getElem_of_mem hm
          rw [List.length_take] at hk
          rw [List.getElem_take] at ek
          rw [List.getElem?_eq_getElem hi] at hc
          have := (List.getElem_inj hnd).mp (ek.trans (Option.some.inj hc).symm)
          omega
        have hz : z ∈ p.zones := pok.zin _ (lookup_mem hcz)
        have eA : Same H H'' := eT.trans e
        refine ⟨_, rfl, pl, dx, _, rfl, eA _ _ h1, rfl, _, rfl, _, rfl, pa, _, rfl, dgetS (eA.rd hpa) hcz, pl, z, p, rfl, hp.rd.same eA, ok, hz, fun H1 r e1 hr0 hra => ?_⟩
        obtain ⟨Fs, τ, r1, r2, r3, r4⟩ := hra
        have hg1 := e1 _ _ (e _ _ hgT)
        refine ⟨_, rfl, go, rfl, ⟨_, sqL hg1⟩, fun D hD => ?_⟩
        refine lc_list (p.goals down M) walk_listM (fun y => decide (y ∈ Fs)) (fun y => .ref (τ y)) hD (by have := Plan.glen ok down M; omega) (fun H' e => sqL (e _ _ hg1)) ?_ ?_
        · intro j a x H' H3 ha' e3 y
          obtain ⟨rfl, rfl⟩ := yat_map ha' y
          have hr3 : Rd H3 r (.dK (dV V.ref (Fs.map fun y => (y, τ y)))) := .inl (by
            have := e3 _ _ r1
            rw [this]
            congr 2
            unfold dV
            rw [List.map_map]
            rfl)
          have hg := dgetR (k := a) hr3
          refine ⟨Same.refl _, fun R S hR hS => ⟨rfl, ⟨_, rfl, _, rfl, r, _, rfl, hg, _, rfl, ?_⟩⟩⟩
          by_cases hin : a ∈ Fs
          · have hlk : (Fs.map fun y => (y, τ y)).lookup a = some (τ a) := lookup_nodup (by rw [List.map_map]; exact (List.map_id Fs).symm ▸ r2) (List.mem_map.mpr ⟨a, hin, rfl⟩)
            rw [hlk] at hg ⊢
            exact itT ⟨_, rfl, _, rfl, r, _, rfl, hg, hR _ (Same.refl _) (decide_eq_true hin)⟩
          · have hlk : (Fs.map fun y => (y, τ y)).lookup a = none := lookup_none (by rw [List.map_map]; exact (List.map_id Fs).symm ▸ hin)
            rw [hlk]
            exact itF (hS _ (Same.refl _) (decide_eq_false hin))
        · intro H3 e3 hDl
          obtain ⟨Y, eY⟩ : ∃ Y, Y = (p.goals down M).filter fun y => decide (y ∈ Fs) := ⟨_, rfl⟩
          rw [← eY] at hDl
          have hYF : ∀ y ∈ Y, y ∈ Fs := fun y hy => by
            rw [eY] at hy
            exact of_decide_eq_true (List.mem_filter.mp hy).2
          have hYt : ∀ y ∈ Y, ∃ l : List Str, H3 (τ y) = some (.tup (l.map V.str)) := fun y hy => by
            obtain ⟨l, hl⟩ := r4 y (hYF y hy)
            exact ⟨l, e3 _ _ hl⟩
          have eY1 : Y = [] ↔ p.hitN down M ps c = false := by
            unfold Plan.hitN
            rw [decide_eq_false_iff_not]
            constructor
            · rintro hy ⟨z', hz', y, hy1, hy2⟩
              rw [hcz] at hz'
              cases hz'
              have : y ∈ Y := by
                rw [eY]
                exact List.mem_filter.mpr ⟨hy1, decide_eq_true ((r3 y).mpr hy2)⟩
              rw [hy] at this
              cases this
            · intro hn
              cases hY : Y with
              | nil => rfl
              | cons y Y' =>
                have hy : y ∈ Y := by rw [hY]; exact List.mem_cons_self
                refine absurd ⟨z, hcz, y, ?_, (r3 y).mp (hYF y hy)⟩ hn
                rw [eY] at hy
                exact (List.mem_filter.mp hy).1
          have eHT3 : Same HT H3 := (e.trans e1).trans e3
          have hq3 := e3 _ _ (e1 _ _ hql)
          have hf3 := e3 _ _ (e1 _ _ hf)
          refine ⟨_, rfl, Nat.zero_le _, fun em hem => ?_⟩
          have e4 : Same H3 (upd H3 em (.lst [])) := Same.new hem
          obtain ⟨H4, eH4⟩ : ∃ H4, H4 = upd H3 em (.lst []) := ⟨_, rfl⟩
          have hem4 : H4 em = some (.lst []) := by rw [eH4]; exact upd_same
          rw [← eH4] at e4 ⊢
          obtain ⟨ls, q1, q2⟩ := ha_tups (K := K) (H := H4) (τ := τ) (Y := Y) fun y hy => by
            obtain ⟨l, hl⟩ := hYt y hy
            exact ⟨l, e4 _ _ hl⟩
          have hD4 := e4 _ _ hDl
          refine ⟨ls, ([] : List (PySem.W.Tup Str)), hv_list (sqL hD4) q1, hv_list (sqL hem4) ha_nil, _, rfl, ?_⟩
          have els : (ls = []) ↔ Y = [] := by
            rw [← List.length_eq_zero_iff, q2, List.length_eq_zero_iff]
          have hq4 := e4 _ _ hq3
          have hf4 := e4 _ _ hf3
          refine itB (fun hb => ?_) fun hb => ?_
          · have hYn : Y ≠ [] := fun h => by
              rw [els.mpr h] at hb
              simp at hb
            have hhit : p.hitN down M ps c = true := by
              cases hh : p.hitN down M ps c with
              | true => rfl
              | false => exact absurd (eY1.mpr hh) hYn
            have hex : ∃ Ls : List (List Str), ∀ y ∈ Y, ∃ l ∈ Ls, H4 (τ y) = some (.tup (l.map V.str)) := by
              clear hD4 q1 q2 els hYn eY1 hDl eY hb
              induction Y with
              | nil => exact ⟨[], fun _ h => by cases h⟩
              | cons y Y ih =>
                obtain ⟨Ls, h⟩ := ih (fun z hz => hYF z (List.mem_cons_of_mem _ hz)) (fun z hz => hYt z (List.mem_cons_of_mem _ hz))
                obtain ⟨l, hl⟩ := hYt y List.mem_cons_self
                refine ⟨l :: Ls, fun z hz => ?_⟩
                rcases List.mem_cons.mp hz with rfl | hz
                · exact ⟨l, List.mem_cons_self, e4 _ _ hl⟩
                · obtain ⟨l, h1, h2⟩ := h z hz
                  exact ⟨l, List.mem_cons_of_mem _ h1, h2⟩
            obtain ⟨Ls, hLs⟩ := hex
            refine ⟨_, rfl, D, He.fAd K ("size_and_row", none), Y.map τ, Ls.map lotD, CSize H4, rfl, rfl, by rw [hD4, List.map_map]; rfl, fun h => hYn (List.map_eq_nil_iff.mp h), key_size T rfl rfl rfl rfl _, fun b hb => ?_, alike_lots _, fun d hd => ?_, fun d hd => ?_, fun b hb H5 e5 => ?_⟩
            · obtain ⟨y, hy, rfl⟩ := List.mem_map.mp hb
              obtain ⟨l, h1, h2⟩ := hLs y hy
              exact ⟨lotD l, List.mem_map_of_mem h1, _, l, rfl, h2, rfl⟩
            · obtain ⟨l, _, rfl⟩ := List.mem_map.mp hd
              intro z
              cases z
            · obtain ⟨l, _, rfl⟩ := List.mem_map.mp hd
              exact depth_lot l
            · have hf5 := e5 _ _ hf4
              have hq5 := e5 _ _ hq4
              have hLl : L.length ≤ 100 := by
                have : (keysL L).length ≤ _ := hK ▸ List.length_filter_le _ _
                rw [List.length_take] at this
                unfold keysL at this
                rw [List.length_map] at this
                have h1 := (sortS_perm (ps.map (·.1))).length_eq
                rw [List.length_map] at h1
                have := pok.len
                omega
              have hp := dputL (f := V.ref) (k := c) (v := b) hf5 (by omega)
              refine ⟨_, rfl, _, rfl, fo, _, rfl, hp, ?_⟩
              refine ⟨_, _, _, putL L c b, rfl, ((eHT3.trans e4).trans e5).turn hfo, by rw [upd_ne nfq.symm]; exact hq5, upd_same, ?_⟩
              rw [keysL_putL, if_neg hcL, hK, htk, List.filter_append, List.filter_cons, if_pos hhit]
              rfl
          · have hYe : Y = [] := by
              rw [decide_eq_false_iff_not] at hb
              exact Classical.byContradiction fun h => hb fun e => h (els.mp e)
            refine ⟨_, _, _, L, rfl, eHT3.trans e4, hq4, hf4, ?_⟩
            rw [hK, htk, List.filter_append, List.filter_cons, if_neg (by rw [eY1.mp hYe]; exact Bool.false_ne_true), List.filter_nil, List.append_nil]
      · rintro σ H' ⟨v8, v9, v10, L, rfl, e, hql, hf, hK⟩
        have hfo0 : H fo = none := none_back eT hfo
        refine ⟨_, rfl, k H' fo L (eT.trans e) hfo0 (by rw [hf]) ?_⟩
        rw [List.take_length] at hK
        have : L.length = (keysL L).length := by unfold keysL; rw [List.length_map]
        rw [this, hK]
        exact hits_len pok.nd
end
end MC
end
section
set_option Elab.async false
set_option linter.all false
set_option maxRecDepth 100000
set_option maxHeartbeats 4000000
/-! The defs, 9: danger. -/
namespace MC
open PySem PySem.Spec PyProof.Rows L2
/-- no lot of masts is overrun when down is down -/
def Plan.SafeAt (p : Plan) (ps : List (Str × Str)) (down : List Str) : Prop := ∀ Z M, Fam p down p.zones Z M → ((ps.filter (p.hitB down M)).length : Int) ≤ p.room M
def Plan.Safe (p : Plan) (ps : List (Str × Str)) (most : Nat) : Prop := ∀ falls ∈ lots p.masts (min most p.chan.length), p.SafeAt ps falls
theorem hitB_congr {p : Plan} {down M M' : List Str} (h : ∀ m, m ∈ M ↔ m ∈ M') : p.hitB down M = p.hitB down M' := by
  have : p.goals down M = p.goals down M' := List.filter_congr fun z _ => by
    unfold Plan.goalB
    congr 1
    have : (fun m => decide (m ∈ M)) = fun m => decide (m ∈ M') := by
      funext m
      exact decide_eq_decide.mpr (h m)
    rw [this]
  funext c
  unfold Plan.hitB Plan.hit
  rw [this]
theorem sum_perm {l m : List Int} (h : l.Perm m) : l.sum = m.sum := by
  induction h with
  | nil => rfl
  | cons x _ ih => rw [List.sum_cons, List.sum_cons, ih]
  | swap x y l => rw [List.sum_cons, List.sum_cons, List.sum_cons, List.sum_cons]; omega
  | trans _ _ ih1 ih2 => exact ih1.trans ih2
theorem room_perm {p : Plan} {M M' : List Str} (h : M.Perm M') : p.room M = p.room M' := by
  unfold Plan.room
  exact sum_perm (h.map _)
theorem Fam.sub {p : Plan} (ok : p.Ok) {down Zs Z M : List Str} (f : Fam p down Zs Z M) : ∀ m ∈ M, m ∈ p.masts := fun m hm => by
  obtain ⟨z, _, h⟩ := (f.mem m).mp hm
  exact (Plan.up_in ok h).1
theorem Plan.mlen {p : Plan} (ok : p.Ok) : p.masts.length ≤ 8 := by
  unfold Plan.masts
  rw [List.length_map]
  exact ok.csz
theorem safe_lots {p : Plan} {ps : List (Str × Str)} {down : List Str} {ks : List (List Str)} (h : LB p down p.zones ks) : p.SafeAt ps down ↔ ∀ M ∈ ks, ((ps.filter (p.hitB down M)).length : Int) ≤ p.room M := by
  constructor
  · intro s M hM
    obtain ⟨Z, f⟩ := h.sound M hM
    exact s Z M f
  · intro s Z M f
    obtain ⟨M', hM', hm⟩ := h.comp Z f.ne f.zin
    obtain ⟨Z', f'⟩ := h.sound M' hM'
    have e : ∀ m, m ∈ M ↔ m ∈ M' := fun m => (f.mem m).trans (hm m).symm
    have hp : M.Perm M' := (List.perm_ext_iff_of_nodup f.nd f'.nd).mpr e
    rw [hitB_congr e, room_perm hp]
    exact s M' hM'
section
variable {P : Program} {w : World} {K : PySem.W.Frag} {mg : Str → Option Value} {base : Heap}
def spDangerAt (K : PySem.W.Frag) : Sp := fun vs H Q _ => ∃ (pl pa dn : Addr) (p : Plan) (ps : List (Str × Str)) (down : List Str), vs = [.ref pl, .ref pa, .ref dn] ∧ PlanAt K H pl p ∧ p.Ok ∧ DTx Rd H pa ps ∧ PlOk p ps ∧ SqT K H dn (down.map V.str) ∧ down.length ≤ 1000 ∧
  (p.SafeAt ps down → ∀ H', Same H H' → Q .non H') ∧ (¬ p.SafeAt ps down → ∀ H' q x y, Same H H' → H' q = some (.tup [x, y]) → Q (.ref q) H')
theorem ok_dangerAt (T : Txt P w K mg) : Has P w K mg base CX0 6 (He.fAd K ("danger_at", none)) ["town", "places", "down"] (spDangerAt K) := by
  obtain ⟨fd, F⟩ := T.d_DangerAt
  obtain ⟨fdL, GL, bL, kL⟩ := ok_lotsBelow (base := base) T
  obtain ⟨fdW, GW, bW, kW⟩ := ok_waysInto (base := base) T
  obtain ⟨fdR, GR, bR, kR⟩ := ok_room (base := base) T
  have sc : FnScope ["town", "places", "down", "masts", "ways"] ["town", "places", "down"] (defScope sDangerAt) := ⟨rfl, rfl, rfl, by decide +kernel, rfl, by decide +kernel, by decide +kernel⟩
  refine ⟨fd, F.ok sc (fun vs H Q E h => ?_) (fun cdv A outer s H vs Q E hr h => ?_), F.bindsN fun _ _ _ _ _ _ us hl => match us, hl with | [_, _, _], _ => rfl, F.kp⟩
  · obtain ⟨pl, pa, dn, p, ps, down, rfl, _⟩ := h
    rfl
  · obtain ⟨pl, pa, dn, p, ps, down, rfl, hp, ok, hpa, pok, hd, hdl, kS, kU⟩ := h
    refine ⟨_, PSs.nox (pss_cons (ps_for PassesOwn.never rfl (pi_list (pe_call GL (hr.mono (by decide)) (by rfl) T.g_lots_below kL bL .nil pass0 (pa_cons (pv 0) (pa_cons (pv 2) pa_nil)))) (pg_name (i := 3) sc.nd rfl (Or.inl rfl))
        (pss_cons (ps_set (i := 4) sc.nd rfl (Or.inl rfl) (pe_call GW (hr.mono (by decide)) (by rfl) T.g_ways_into kW bW .nil pass0 (pa_cons (pv 0) (pa_cons (pv 1) (pa_cons (pv 3) (pa_cons (pv 2) pa_nil))))))
        (pss_one (ps_if (pt_cmpR op_gt (pe_callB call_lenD (by rfl) T.z_len bt_len (pa_cons (pv 4) pa_nil)) (pe_meth (pv 0) T.c_Map T.m_Map_room GR (hr.mono (by decide)) bR .nil pass0 (pa_cons (pv 3) pa_nil)) (nomark _))
          (pss_one (ps_ret (pe_tup (pa_cons (pv 3) (pa_cons (pv 4) pa_nil))))) pss_nil))))
      (pss_one (ps_ret pe_non))), ?_⟩
    obtain ⟨dx, ca, ha, ra, β, ρ, h1, h2, h3, h4, h5, h6⟩ := id hp
    refine ⟨_, rfl, _, rfl, pl, dn, p, down, rfl, hp, ok, hd, hdl, fun H1 q bs ks e1 hq hl hT hLB => ⟨q, rfl, ⟨_, sqL hl⟩, ?_⟩⟩
    have hsf := safe_lots (ps := ps) hLB
    refine for_it (walk_listM (K := K) (xs := bs) (f := V.ref)) (fun i σ H' => ∃ (v3 v4 : Option V), σ = [some (.ref pl), some (.ref pa), some (.ref dn), v3, v4] ∧ Same H1 H' ∧ ∀ M ∈ ks.take i, ((ps.filter (p.hitB down M)).length : Int) ≤ p.room M)
      ⟨none, none, rfl, Same.refl _, fun M hM => by simp at hM⟩ (fun i σ H' _ ⟨_, _, _, e, _⟩ => sqL (e _ _ hl)) ?_ ?_
    · rintro i x σ H' H'' hi ⟨v3, v4, rfl, e, hd'⟩ ⟨rfl, hx⟩
      have hbi : bs[i]? = some bs[i] := List.getElem?_eq_getElem hi
      have hik : i < ks.length := hT.1 ▸ hi
      have hki : ks[i]? = some ks[i] := List.getElem?_eq_getElem hik
      obtain rfl : x = .ref bs[i] := by
        rw [List.getElem?_map, hbi] at hx
        exact (Option.some.inj hx).symm
      obtain ⟨M, eM⟩ : ∃ M, M = ks[i] := ⟨_, rfl⟩
      rw [← eM] at hki
      have hMk : M ∈ ks := List.mem_of_getElem? hki
      have hb := hT.2 i _ _ hbi hki
      obtain ⟨Z, f⟩ := hLB.sound M hMk
      have hMs := f.sub ok
      have hMl : M.length ≤ 8 := Nat.le_trans (nodup_le f.nd hMs) (Plan.mlen ok)
      have eA : Same H H'' := e1.trans e
      have hbA := e _ _ hb
      refine ⟨_, rfl, _, rfl, _, rfl, _, rfl, pl, pa, bs[i], dn, p, ps, M, down, rfl, hp.same eA, ok, eA.rd hpa, pok, sqT hbA, eA.seqT hd, hdl, by omega, fun H2 q2 L e2 hq2 hL hlen => ?_⟩
      refine ⟨_, rfl, q2, _, rfl, hL, ?_⟩
      have e02 := eA.trans e2
      refine ⟨_, rfl, pl, dx, _, rfl, e02 _ _ h1, rfl, _, rfl, pl, bs[i], p, M, rfl, hp.rd.same e02, sqT (e2 _ _ hbA), hMs, by omega, fun H3 e3 => ?_⟩
      refine ⟨_, _, rfl, rfl, _, rfl, ?_⟩
      have hln : (dS (L.map fun c => (c.1, V.ref c.2))).length = (ps.filter (p.hitB down M)).length := by rw [List.length_map, List.length_map]; exact hlen
      rw [hln]
      refine itB (fun hc => ?_) fun hc => ?_
      · have hgt := of_decide_eq_true hc
        refine ⟨_, rfl, _, rfl, sz2, fun t ht => ?_⟩
        exact kU (fun s => absurd (hsf.mp s M hMk) (by omega)) _ t _ _ ((e02.trans e3).upd ht) upd_same
      · have hle := of_decide_eq_false hc
        refine ⟨_, _, rfl, (e.trans e2).trans e3, fun M' hM' => ?_⟩
        rw [List.take_add_one, hki] at hM'
        rcases List.mem_append.mp hM' with h | h
        · exact hd' M' h
        · have : M' = M := by simpa using h
          rw [this]
          omega
    · rintro σ H' ⟨v3, v4, rfl, e, hd'⟩
      rw [hT.1, List.take_length] at hd'
      exact kS (hsf.mpr hd') _ (e1.trans e)
/-- Danger's making: nothing looks within -/
def spDangerInit (K : PySem.W.Frag) : Sp := fun vs H Q _ => ∃ (x dx : Addr) (a b c : V), vs = [.ref x, a, b, c] ∧ H x = some (.ins (He.ga K "Danger") dx []) ∧ ∀ H', (∀ y, y ≠ x → H' y = H y) → Q .non H'
theorem ok_dangerInit (T : Txt P w K mg) : Has P w K mg base CX0 1 (He.fAd K ("Danger", some "__init__")) ["self", "falls", "masts", "ways"] (spDangerInit K) := by
  obtain ⟨fd, F⟩ := T.d_DangerInit
  have sc : FnScope ["self", "falls", "masts", "ways"] ["self", "falls", "masts", "ways"] (defScope sDangerInit) := ⟨rfl, rfl, rfl, by decide +kernel, rfl, by decide +kernel, by decide +kernel⟩
  refine ⟨fd, F.ok sc (fun vs H Q E h => ?_) (fun cdv A outer s H vs Q E hr h => ?_), F.bindsN fun _ _ _ _ _ _ us hl => match us, hl with | [_, _, _, _], _ => rfl, F.kp⟩
  · obtain ⟨x, dx, a, b, c, rfl, _⟩ := h
    rfl
  · obtain ⟨x, dx, a, b, c, rfl, hx, k⟩ := h
    refine ⟨_, PSs.nox (pss_cons (ps_fld (pv 0) (pv 1) rfl) (pss_cons (ps_fld (pv 0) (pv 2) rfl) (pss_one (ps_fld (pv 0) (pv 3) rfl)))), ?_⟩
    refine ⟨_, rfl, _, rfl, x, _, dx, _, rfl, hx, T.c_Danger, T.a_Danger_falls, by decide, ?_⟩
    refine ⟨_, rfl, _, rfl, x, _, dx, _, rfl, upd_same, T.c_Danger, T.a_Danger_masts, (by show 1 < 1000; decide), ?_⟩
    refine ⟨_, rfl, _, rfl, x, _, dx, _, rfl, upd_same, T.c_Danger, T.a_Danger_ways, (by show 2 < 1000; decide), ?_⟩
    exact k _ fun y hy => by rw [upd_ne hy, upd_ne hy, upd_ne hy]
theorem chan_keys {p : Plan} : (dS (p.chan.map fun c => (c.1, V.int c.2))).map (fun kv => kV kv.1) = p.masts.map V.str := by
  unfold Plan.masts
  rw [List.map_map, List.map_map, List.map_map]
  rfl
def spDangerFor (K : PySem.W.Frag) : Sp := fun vs H Q _ => ∃ (pl pa : Addr) (most : Nat) (p : Plan) (ps : List (Str × Str)), vs = [.ref pl, .ref pa, .int (most : Int)] ∧ PlanAt K H pl p ∧ p.Ok ∧ DTx Rd H pa ps ∧ PlOk p ps ∧ most ≤ 1 ∧
  (p.Safe ps most → ∀ H', Same H H' → Q .non H') ∧ (¬ p.Safe ps most → ∀ H' q, Same H H' → Q (.ref q) H')
theorem lots_sub {p : Plan} {most : Nat} (hm : most ≤ 1) : ∀ f ∈ lots p.masts most, f.length ≤ 1 := by
  intro f hf
  rcases Nat.le_one_iff_eq_zero_or_eq_one.mp hm with rfl | rfl
  · simp [lots] at hf
    rw [hf]
    decide
  · simp [lots] at hf
    rcases hf with rfl | ⟨a, _, rfl⟩
    · decide
    · exact Nat.le_refl _
theorem ok_dangerFor (T : Txt P w K mg) : Has P w K mg base CX0 7 (He.fAd K ("danger_for", none)) ["town", "places", "most"] (spDangerFor K) := by
  obtain ⟨fd, F⟩ := T.d_DangerFor
  obtain ⟨fdA, GA, bA, kA⟩ := ok_dangerAt (base := base) T
  obtain ⟨fdL, GL, bL, kL⟩ := ok_lotsOf (base := base) T
  obtain ⟨fdI, GI, bI, kI⟩ := ok_dangerInit (base := base) T
  have sc : FnScope ["town", "places", "most", "falls", "found"] ["town", "places", "most"] (defScope sDangerFor) := ⟨rfl, rfl, rfl, by decide +kernel, rfl, by decide +kernel, by decide +kernel⟩
  refine ⟨fd, F.ok sc (fun vs H Q E h => ?_) (fun cdv A outer s H vs Q E hr h => ?_), F.bindsN fun _ _ _ _ _ _ us hl => match us, hl with | [_, _, _], _ => rfl, F.kp⟩
  · obtain ⟨pl, pa, most, p, ps, rfl, _⟩ := h
    rfl
  · obtain ⟨pl, pa, most, p, ps, rfl, hp, ok, hpa, pok, hm, kS, kU⟩ := h
    refine ⟨_, PSs.nox (pss_cons (ps_for PassesOwn.never rfl (pi_list (pe_call GL (hr.mono (by decide)) (by rfl) T.g_lots_of kL bL .nil pass0 (pa_cons (pe_callTy (call_list_dK (by rfl)) (by rfl) T.z_list bt_list (pa_cons (pe_fld (pv 0) rfl) pa_nil))
          (pa_cons (pe_callB (call_min2 (by rfl)) (by rfl) T.z_min bt_min (pa_cons (pv 2) (pa_cons (pe_callB call_lenD (by rfl) T.z_len bt_len (pa_cons (pe_fld (pv 0) rfl) pa_nil)) pa_nil))) pa_nil)))) (pg_name (i := 3) sc.nd rfl (Or.inl rfl))
        (pss_cons (ps_set (i := 4) sc.nd rfl (Or.inl rfl) (pe_call GA (hr.mono (by decide)) (by rfl) T.g_danger_at kA bA .nil pass0 (pa_cons (pv 0) (pa_cons (pv 1) (pa_cons (pv 3) pa_nil)))))
        (pss_one (ps_if (pt_cmp (pc_notN (pv 4)))
          (pss_one (ps_ret (pe_make T.k_Danger GI (hr.mono (by decide)) (by rfl) T.g_Danger bI .nil pass0 (pa_cons (pv 3) (pa_cons (pe_ix ix_tup (pv 4) pe_int (fun _ _ => rfl)) (pa_cons (pe_ix ix_tup (pv 4) pe_int (fun _ _ => rfl)) pa_nil)))))) pss_nil))))
      (pss_one (ps_ret pe_non))), ?_⟩
    obtain ⟨dx, ca, ha, ra, β, ρ, h1, h2, h3, h4, h5, h6⟩ := id hp
    have h2' : H ca = some (.dK (dS (p.chan.map fun c => (c.1, V.int c.2)))) := h2
    refine ⟨_, rfl, pl, _, dx, _, _, rfl, h1, T.c_Map, T.a_Map_channels, rfl, ca, _, rfl, h2', fun lq hlq => ?_⟩
    rw [chan_keys]
    have e0 : Same H (upd H lq (.lst (p.masts.map V.str))) := Same.new hlq
    obtain ⟨H0, eH0⟩ : ∃ H0, H0 = upd H lq (.lst (p.masts.map V.str)) := ⟨_, rfl⟩
    have hl0 : H0 lq = some (.lst (p.masts.map V.str)) := by rw [eH0]; exact upd_same
    rw [← eH0] at e0 ⊢
    have hcl : (dS (p.chan.map fun c => (c.1, V.int c.2))).length = p.chan.length := by rw [List.length_map, List.length_map]
    refine ⟨_, rfl, _, rfl, pl, _, dx, _, _, rfl, e0 _ _ h1, T.c_Map, T.a_Map_channels, rfl, ca, _, rfl, e0 _ _ h2', _, _, rfl, ?_⟩
    rw [hcl]
    have emin : (if (p.chan.length : Int) < (most : Int) then (p.chan.length : Int) else (most : Int)) = ((min most p.chan.length : Nat) : Int) := by
      split <;> omega
    rw [emin]
    have hm1 : min most p.chan.length ≤ 1 := by omega
    obtain ⟨mo, emo⟩ : ∃ mo, mo = min most p.chan.length := ⟨_, rfl⟩
    unfold Plan.Safe at kS kU
    rw [← emo] at kS kU hm1 ⊢
    refine ⟨lq, p.masts, mo, rfl, sqL hl0, by have := Plan.mlen ok; omega, hm1, fun H1 q bs e1 hq hl hT => ⟨q, rfl, ⟨_, sqL hl⟩, ?_⟩⟩
    have e01 := e0.trans e1
    refine for_it (walk_listM (K := K) (xs := bs) (f := V.ref)) (fun i σ H' => ∃ (v3 v4 : Option V), σ = [some (.ref pl), some (.ref pa), some (.int most), v3, v4] ∧ Same H1 H' ∧ ∀ f ∈ (lots p.masts mo).take i, p.SafeAt ps f)
      ⟨none, none, rfl, Same.refl _, fun M hM => by simp at hM⟩ (fun i σ H' _ ⟨_, _, _, e, _⟩ => sqL (e _ _ hl)) ?_ ?_
    · rintro i x σ H' H'' hi ⟨v3, v4, rfl, e, hd'⟩ ⟨rfl, hx⟩
      have hbi : bs[i]? = some bs[i] := List.getElem?_eq_getElem hi
      have hik : i < (lots p.masts mo).length := hT.1 ▸ hi
      have hki : (lots p.masts mo)[i]? = some (lots p.masts mo)[i] := List.getElem?_eq_getElem hik
      obtain rfl : x = .ref bs[i] := by
        rw [List.getElem?_map, hbi] at hx
        exact (Option.some.inj hx).symm
      obtain ⟨f, ef⟩ : ∃ f, f = (lots p.masts mo)[i] := ⟨_, rfl⟩
      rw [← ef] at hki
      have hfk : f ∈ lots p.masts mo := List.mem_of_getElem? hki
      have hb := hT.2 i _ _ hbi hki
      have eA : Same H H'' := e01.trans e
      have hbA := e _ _ hb
      have hfl := lots_sub hm1 f hfk
      refine ⟨_, rfl, _, rfl, _, rfl, pl, pa, bs[i], p, ps, f, rfl, hp.same eA, ok, eA.rd hpa, pok, sqT hbA, by omega, fun hs H2 e2 => ?_, fun hs H2 q2 x y e2 hq2 => ?_⟩
      · refine ⟨_, rfl, _, rfl, itF ⟨_, _, rfl, e.trans e2, fun f' hf' => ?_⟩⟩
        rw [List.take_add_one, hki] at hf'
        rcases List.mem_append.mp hf' with h | h
        · exact hd' f' h
        · have : f' = f := by simpa using h
          rw [this]
          exact hs
      · refine ⟨_, rfl, _, rfl, itT ?_⟩
        refine ⟨_, rfl, _, rfl, q2, _, 0, x, rfl, rfl, sqT hq2, rfl, _, rfl, q2, _, 1, y, rfl, rfl, sqT hq2, rfl, fun x1 dx1 hx1 hdx1 hne => ?_⟩
        have eB := eA.trans e2
        refine ⟨x1, dx1, _, _, _, rfl, upd_same, fun H3 h3 => ⟨rfl, kU (fun hs' => hs (hs' f hfk)) _ _ fun b u hb => ?_⟩⟩
        have hb2 := eB _ _ hb
        rw [h3 _ (ne_of_none hb2 hx1), upd_ne (ne_of_none hb2 hx1), upd_ne (ne_of_none hb2 hdx1)]
        exact hb2
    · rintro σ H' ⟨v3, v4, rfl, e, hd'⟩
      rw [hT.1, List.take_length] at hd'
      exact kS hd' _ (e01.trans e)
end
end MC
end
section
set_option Elab.async false
set_option linter.all false
set_option maxRecDepth 100000
set_option maxHeartbeats 4000000
/-! The defs, 24: Town: scene. -/
namespace MC
open PySem PySem.Spec PyProof.Rows L2
/-- the scene of a town -/
def townScn (p : Plan) (ps : List (Str × Str)) (down : List Str) : Scn :=
  ⟨p.chan.filter fun c => decide (c.1 ∉ down), (ps.filter fun c => decide (p.up down c.2 ≠ [])).map fun c => (c.1, sortS (p.up down c.2))⟩
/-- where the town lies -/
structure TAd where
  tw : Addr
  dx : Addr
  pl : Addr
  pa : Addr
def TAd.mut (y : TAd) (b : Addr) : Prop := b = y.tw ∨ b = y.pa
structure TownF (K : PySem.W.Frag) (H : Hp) (y : TAd) (p : Plan) (most : Nat) (ps : List (Str × Str)) (down : List Str) (R : List (Str × Str)) (dn st : Addr) (r v : Int) : Prop where
  at_ : H y.tw = some (.ins (He.ga K "Town") y.dx [("plan", .ref y.pl), ("most", .int (most : Int)), ("down", .ref dn), ("places", .ref y.pa), ("seating", .ref st), ("refused", .int r), ("moved", .int v)])
  pl : PlanAt K H y.pl p
  dn : SqT K H dn (down.map V.str)
  pa : H y.pa = some (.dK (dV V.str ps))
  st : H st = some (.dK (dV V.str R))
section
variable {P : Program} {w : World} {K : PySem.W.Frag} {mg : Str → Option Value} {base : Heap}
theorem CallsAt.put {H : Hp} {la c δ0 η0 : Addr} {C : List (Str × List Str)} {n : Str} {hs : List Str} (h : CallsAt K H la C) (hn : n ∉ keysL C) (hc : H c = some (.ins (He.ga K "Call") δ0 [("worth", .int 0), ("heard", .ref η0)])) (hη : H η0 = some (.tup (hs.map V.str))) (hl : C.length ≤ 1000) :
    ∃ H', DPut H la (.str n) (.ref c) H' ∧ CallsAt K H' la (C ++ [(n, hs)]) ∧ ∃ o, H' = L2.upd H la o := by
  obtain ⟨γ, δ, η, h1, h2⟩ := h
  have h1' : H la = some (.dK (dV V.ref (C.map fun c => (c.1, γ c.1)))) := h1
  have hp := dputL (f := V.ref) (k := n) (v := c) h1' (by rw [List.length_map]; omega)
  have hne : ∀ d ∈ C, d.1 ≠ n := fun d hd e => hn (e ▸ List.mem_map_of_mem hd)
  have hput : putL (C.map fun c => (c.1, γ c.1)) n c = (C ++ [(n, hs)]).map fun d => (d.1, if d.1 = n then c else γ d.1) := by
    unfold putL
    rw [keysL_map, if_neg hn, List.map_append]
    have : (C.map fun d => (d.1, if d.1 = n then c else γ d.1)) = C.map fun c => (c.1, γ c.1) := List.map_congr_left fun d hd => by rw [if_neg (hne d hd)]
    rw [this]
    simp
  refine ⟨_, hp, ⟨fun k => if k = n then c else γ k, fun k => if k = n then δ0 else δ k, fun k => if k = n then η0 else η k, ?_, fun d hd => ?_⟩, _, rfl⟩
  · show L2.upd H la _ la = _
    rw [upd_same, hput]
  · have nl : ∀ {b : Addr} {u : HO}, H b = some u → (∀ kvs, u ≠ .dK kvs) → L2.upd H la (.dK (dV V.ref (putL (C.map fun c => (c.1, γ c.1)) n c))) b = some u := fun {b u} q hu => by
      rw [upd_ne (fun e => by rw [e, h1'] at q; exact hu _ (Option.some.inj q).symm)]
      exact q
    rw [List.mem_append, List.mem_singleton] at hd
    rcases hd with hd | rfl
    · have e := hne d hd
      dsimp only
      rw [if_neg e, if_neg e, if_neg e]
      exact ⟨nl (h2 d hd).1 fun _ z => (by cases z), nl (h2 d hd).2 fun _ z => (by cases z)⟩
    · dsimp only
      rw [if_pos rfl, if_pos rfl, if_pos rfl]
      exact ⟨nl hc fun _ z => (by cases z), nl hη fun _ z => (by cases z)⟩
def spScene (K : PySem.W.Frag) : Sp := fun vs H Q _ => ∃ (y : TAd) (p : Plan) (most : Nat) (ps : List (Str × Str)) (down : List Str) (R : List (Str × Str)) (dn st : Addr) (r v : Int), vs = [.ref y.tw] ∧ TownF K H y p most ps down R dn st r v ∧ p.Ok ∧ PlOk p ps ∧ down.length ≤ 1000 ∧ (townScn p ps down).Ok ∧
  ∀ H' sc, Same H H' → H sc = none → SceneAt K H' sc (townScn p ps down).sorted → Q (.ref sc) H'
theorem ok_scene (T : Txt P w K mg) : Has P w K mg base CX0 4 (He.fAd K ("Town", some "scene")) ["self"] (spScene K) := by
  obtain ⟨fd, F⟩ := T.d_TownScene
  obtain ⟨fdC, GC, bC, kC⟩ := ok_callInit (base := base) T
  obtain ⟨fdS, GS, bS, kS⟩ := ok_sceneInit (base := base) T
  obtain ⟨fdU, GU, bU, kU⟩ := ok_upMasts (base := base) T
  have sc : FnScope ["self", "channels", "calls", "name", "zone", "masts", "mast", "many"] ["self"] (defScope sTownScene) := ⟨rfl, rfl, rfl, by decide +kernel, rfl, by decide +kernel, by decide +kernel⟩
  refine ⟨fd, F.ok sc (fun vs H Q E h => ?_) (fun cdv A outer s H vs Q E hr h => ?_), F.bindsN fun _ _ _ _ _ _ us hl => match us, hl with | [_], _ => rfl, F.kp⟩
  · obtain ⟨y, p, most, ps, down, R, dn, st, r, v, rfl, _⟩ := h
    rfl
  · obtain ⟨y, p, most, ps, down, R, dn, st, r, v, rfl, hT, ok, pok, hdl, sok, k⟩ := h
    refine ⟨_, PSs.nox (pss_cons (ps_lock (ps_setDc (i := 1) (own := [("mast", 6), ("many", 7)]) (g := gTup K 2 (gCons (gName 6) (gCons (gName 7) gNil))) (tt := tTest (tOp (rIn K true) (tVar 6) (tFld K (tVar 0) "down"))) (tk := tVar 6) (tv := tVar 7) (by rfl) sc.nd rfl rfl (swd_true rfl rfl rfl rfl) (pi_items (pe_fld (pe_fld (pv 0) rfl) rfl))
          (by exact blk_ok (N := ["self", "channels", "calls", "name", "zone", "masts", "mast", "many"]) (sc := defScope sTownScene) (by decide +kernel))
          (fun _ _ _ _ _ => pg_tup (by rfl) (pgs_cons (pg_name (i := 6) sc.nd rfl (Or.inl rfl)) (pgs_cons (pg_name (i := 7) sc.nd rfl (Or.inl rfl)) pgs_nil))) (fun _ _ _ _ _ => pts_one (pt_cmpR op_notIn_seq (pv 6) (pe_fld (pv 0) rfl) rfl)) (fun _ _ _ _ _ => pv 6) (fun _ _ _ _ _ => pv 7)))
      (pss_cons (ps_set (i := 2) sc.nd rfl (Or.inl rfl) pe_dnewK)
      (pss_cons (ps_lock (ps_for PassesOwn.never rfl (pi_items (pe_fld (pv 0) rfl)) (pg_tup (by rfl) (pgs_cons (pg_name (i := 3) sc.nd rfl (Or.inl rfl)) (pgs_cons (pg_name (i := 4) sc.nd rfl (Or.inl rfl)) pgs_nil)))
        (pss_cons (ps_set (i := 5) sc.nd rfl (Or.inl rfl) (pe_meth (pe_fld (pv 0) rfl) T.c_Map T.m_Map_up_masts GU (hr.mono (by decide)) bU .nil pass0 (pa_cons (pv 4) (pa_cons (pe_fld (pv 0) rfl) pa_nil))))
        (pss_one (ps_if (pt_cmpR (op_neT (PySem.W.Tup Str) (by exact Fit.of hr (by decide))) (pv 5) (pe_tup pa_nil) (nomark _))
          (pss_one (ps_dput (by exact hr.u1) (pv 2) (pv 3) (pe_make T.k_Call GC (hr.mono (by decide)) (by rfl) T.g_Call bC .nil pass0 (pa_cons pe_int (pa_cons (pv 5) pa_nil))) rfl)) pss_nil)))))
      (pss_one (ps_ret (pe_make T.k_Scene GS hr (by rfl) T.g_Scene bS .nil pass0 (pa_cons (pv 1) (pa_cons (pv 2) pa_nil)))))))), ?_⟩
    obtain ⟨dxp, ca, ha, ra, β, ρ, h1, h2, h3, h4, h5, h6⟩ := id hT.pl
    have h2' : H ca = some (.dK (dV V.int p.chan)) := h2
    refine ⟨ca, _, h2', trivial, fun od => ?_⟩
    obtain ⟨HB, eHB⟩ : ∃ HB, HB = upd H ca (.frz od (.dK (dV V.int p.chan))) := ⟨_, rfl⟩
    have hBc : HB ca = some (.frz od (.dK (dV V.int p.chan))) := by rw [eHB]; exact upd_same
    have atB : ∀ {a : Addr} {o : HO}, H a = some o → o ≠ .dK (dV V.int p.chan) → HB a = some o := fun q hne => by rw [eHB]; exact at_lock h2' q hne
    have b1 := atB hT.at_ (by intro z; cases z)
    have b2 := atB h1 (by intro z; cases z)
    have b3 : SqT K HB dn (down.map V.str) := by
      rcases hT.dn with q | q
      · exact .inl (by rw [eHB]; exact rd_lock h2' trivial q)
      · exact .inr q
    rw [← eHB]
    skip
    refine ⟨_, rfl, _, _, _, _, _, rfl, b1, T.c_Town, T.a_Town_plan, rfl, _, _, _, _, _, rfl, b2, T.c_Map, T.a_Map_channels, rfl, ca, od, _, rfl, hBc, fun D hD => ?_⟩
    refine dc_list V.int p.chan walk_itemsL (fun c => decide (c.1 ∉ down)) (·.1) (·.2) hD (by have := ok.csz; omega) ok.cn (fun H' e => e _ _ hBc) ?_ ?_
    · rintro i c z H' H2 hc e _ ⟨t, c', hc', rfl, ht, rfl⟩
      obtain rfl : c' = c := by
        rw [hc] at hc'
        exact (Option.some.inj hc').symm
      have e2 : Same H' (upd H' t (.tup [.str c'.1, .int c'.2])) := Same.new ht
      refine ⟨e2, fun Rr S' hR hS => ⟨t, _, rfl, sqT upd_same, rfl, _, _, rfl, _, _, rfl, rfl, rfl, _, rfl, _, rfl, _, _, _, _, _, rfl, (e.trans e2) _ _ b1, T.c_Town, T.a_Town_down, rfl, dn, down.map V.str, rfl, .inr ((e.trans e2).seqT b3), rfl, flat_strs down, _, rfl, ?_⟩⟩
      have ev : (!inV (.str c'.1) (down.map V.str)) = decide (c'.1 ∉ down) := by rw [inV_strs, decide_not]
      show if (if true = true then !inV (.str c'.1) (down.map V.str) else inV (.str c'.1) (down.map V.str)) = true then _ else _
      rw [if_pos rfl, ev]
      exact itB (fun hc => ⟨_, rfl, _, rfl, hR _ (Same.refl _) hc⟩) fun hc => hS _ (Same.refl _) hc
    have hnDpa : D ≠ y.pa := fun e => by
      by_cases hpc : y.pa = ca
      · rw [e, hpc, hBc] at hD; cases hD
      · rw [e, eHB, upd_ne hpc, hT.pa] at hD; cases hD
    intro H1 e1 hD1
    refine ⟨e1 _ _ hBc, ?_⟩
    have eT : Same H (upd H1 ca (.dK (dV V.int p.chan))) := same_lock h2' (by rw [← eHB]; exact e1)
    have nDc : D ≠ ca := fun e => by rw [e, hBc] at hD; cases hD
    obtain ⟨H2, eH2⟩ : ∃ H2, H2 = upd H1 ca (.dK (dV V.int p.chan)) := ⟨_, rfl⟩
    have hD2 : H2 D = some (.dK (dV V.int (townScn p ps down).chan)) := by
      rw [eH2, upd_ne nDc, hD1]
      show some (HO.dK (dV V.int (List.map (fun a : Str × Int => (a.1, a.2)) _))) = _
      rw [List.map_id'' (fun a => rfl)]
      rfl
    rw [← eH2] at eT ⊢
    clear eH2 hBc b1 b2 b3 atB eHB e1
    intro cl hcl
    have e3 : Same H2 (upd H2 cl (.dK [])) := Same.new hcl
    have hclH : H cl = none := none_back eT hcl
    have nDcl : D ≠ cl := ne_of_none hD2 hcl
    obtain ⟨H3, eH3⟩ : ∃ H3, H3 = upd H2 cl (.dK []) := ⟨_, rfl⟩
    have h3cl : H3 cl = some (.dK []) := by rw [eH3]; exact upd_same
    rw [← eH3] at e3 ⊢
    have hpa3 := e3 _ _ (eT _ _ hT.pa)
    have npc : y.pa ≠ cl := ne_of_none hT.pa hclH
    have nDpa : D ≠ y.pa := hnDpa
    refine ⟨y.pa, _, hpa3, trivial, fun od2 => ?_⟩
    obtain ⟨HB2, eHB2⟩ : ∃ HB2, HB2 = upd H y.pa (.frz od2 (.dK (dV V.str ps))) := ⟨_, rfl⟩
    obtain ⟨HL2, eHL2⟩ : ∃ HL2, HL2 = upd H3 y.pa (.frz od2 (.dK (dV V.str ps))) := ⟨_, rfl⟩
    rw [← eHL2]
    have fB2 : HB2 cl = none := by rw [eHB2, upd_ne npc.symm]; exact hclH
    have eBL2 : Same HB2 HL2 := fun b o q => by
      rw [eHL2]
      rw [eHB2] at q
      by_cases hb : b = y.pa
      · rw [hb, upd_same] at q ⊢
        exact q
      · rw [upd_ne hb] at q ⊢
        exact e3 _ _ (eT _ _ q)
    have hBc : HB2 y.pa = some (.frz od2 (.dK (dV V.str ps))) := by rw [eHB2]; exact upd_same
    have atB : ∀ {a : Addr} {o : HO}, H a = some o → o ≠ .dK (dV V.str ps) → HB2 a = some o := fun q hne => by rw [eHB2]; exact at_lock hT.pa q hne
    have b1 := atB hT.at_ (by intro z; cases z)
    have b2 := atB h1 (by intro z; cases z)
    have b3 : SqT K HB2 dn (down.map V.str) := by
      rcases hT.dn with q | q
      · exact .inl (by rw [eHB2]; exact rd_lock hT.pa trivial q)
      · exact .inr q
    have bpl : PlanRd K HB2 y.pl p := by rw [eHB2]; exact hT.pl.rd.lock hT.pa
    have hLD : HL2 D = some (.dK (dV V.int (townScn p ps down).chan)) := by rw [eHL2, upd_ne nDpa]; exact e3 _ _ hD2
    have hLcl : CallsAt K HL2 cl [] := ⟨fun _ => 0, fun _ => 0, fun _ => 0, by show HL2 cl = _; rw [eHL2, upd_ne npc.symm]; exact h3cl, fun c hc => absurd hc List.not_mem_nil⟩
    refine ⟨_, rfl, _, _, _, _, _, rfl, eBL2 _ _ b1, T.c_Town, T.a_Town_places, rfl, y.pa, od2, _, rfl, eBL2 _ _ hBc, ?_⟩
    refine for_it walk_itemsL (fun i σ H' => ∃ (v3 v4 v5 : Option V), σ = [some (.ref y.tw), some (.ref D), some (.ref cl), v3, v4, v5, none, none] ∧ Same HB2 H' ∧ H' D = some (.dK (dV V.int (townScn p ps down).chan)) ∧ CallsAt K H' cl (((ps.take i).filter fun c => decide (p.up down c.2 ≠ [])).map fun c => (c.1, sortS (p.up down c.2))))
      ⟨none, none, none, rfl, eBL2, hLD, hLcl⟩ (fun i σ H' _ ⟨_, _, _, _, e, _⟩ => e _ _ hBc) ?_ ?_
    · rintro i z σ H5 H6 hi ⟨v3, v4, v5, rfl, e5, hD5, hC5⟩ ⟨t, c, hc, rfl, ht, rfl⟩
      have hcm := List.mem_of_getElem? hc
      have htk : ps.take (i + 1) = ps.take i ++ [c] := by rw [List.take_add_one, hc] <;> rfl
      have e56 : Same H5 (upd H5 t (.tup [.str c.1, .str c.2])) := Same.new ht
      obtain ⟨H6, eH6⟩ : ∃ H6, H6 = upd H5 t (.tup [.str c.1, .str c.2]) := ⟨_, rfl⟩
      have h6t : H6 t = some (.tup [.str c.1, .str c.2]) := by rw [eH6]; exact upd_same
      rw [← eH6] at e56 ⊢
      have e6 := e5.trans e56
      refine ⟨t, _, rfl, sqT h6t, rfl, _, _, rfl, _, _, rfl, rfl, ?_⟩
      refine ⟨_, rfl, _, _, _, _, _, rfl, e6 _ _ b1, T.c_Town, T.a_Town_plan, rfl, y.pl, dxp, _, rfl, e6 _ _ b2, rfl, _, rfl, _, rfl, _, _, _, _, _, rfl, e6 _ _ b1, T.c_Town, T.a_Town_down, rfl, y.pl, dn, c.2, p, down, rfl, bpl.same e6, ok, pok.zin c hcm, e6.seqT b3, hdl, fun H7 q e7 hq => ?_⟩
      have hul := Plan.up_le ok down c.2
      refine ⟨_, rfl, sz0, fun em hem => ⟨PySem.W.Tup.mk (p.up down c.2), PySem.W.Tup.mk [], hv_tup (sqT (by rw [upd_ne (ne_of_none hq hem)]; exact hq)) (ha_strs _), hv_tup (sqT upd_same) ha_nil, _, rfl, ?_⟩⟩
      have e78 : Same H7 (upd H7 em (.tup [])) := Same.new hem
      obtain ⟨H8, eH8⟩ : ∃ H8, H8 = upd H7 em (.tup []) := ⟨_, rfl⟩
      rw [← eH8] at e78 ⊢
      have e8 := (e6.trans e7).trans e78
      have hD8 := ((e56.trans e7).trans e78) _ _ hD5
      have hC8 := hC5.same ((e56.trans e7).trans e78)
      have hq8 := e78 _ _ hq
      refine itB (fun hb => ?_) fun hb => ?_
      · have hup : p.up down c.2 ≠ [] := fun h => by
          rw [h] at hb
          simp at hb
        refine ⟨_, rfl, fun cx dcx hcx hdcx hne => ?_⟩
        have e89 : Same H8 (upd (upd H8 dcx (.own cx)) cx (.ins (He.ga K "Call") dcx [])) := (Same.new hdcx).upd (by rw [upd_ne hne.symm]; exact hcx)
        refine ⟨cx, dcx, q, 0, p.up down c.2, rfl, upd_same, sqT (e89 _ _ hq8), by omega, fun H9 hq9 o9 h9 h9q => ⟨rfl, ?_⟩⟩
        have e9 : Same H8 H9 := fun b o z => o9 b o (fun hb => by rw [hb, hcx] at z; cases z) (e89 _ _ z)
        have hlen : (((ps.take i).filter fun c => decide (p.up down c.2 ≠ [])).map fun c => (c.1, sortS (p.up down c.2))).length ≤ 1000 := by
          rw [List.length_map]
          have := List.length_filter_le (fun c : Str × Str => decide (p.up down c.2 ≠ [])) (ps.take i)
          rw [List.length_take] at this
          have := pok.len
          omega
        have hnew : c.1 ∉ keysL (((ps.take i).filter fun c => decide (p.up down c.2 ≠ [])).map fun c => (c.1, sortS (p.up down c.2))) := fun hm => by
          rw [keysL_map] at hm
          obtain ⟨c2, h2, e2⟩ := List.mem_map.mp hm
          have h2 := (List.mem_filter.mp h2).1
          obtain ⟨j, hj, ej⟩ := List.getElem_of_mem h2
          rw [List.length_take] at hj
          rw [List.getElem_take] at ej
          rw [List.getElem?_eq_getElem hi] at hc
          have q : (ps.map (·.1))[j]'(by rw [List.length_map]; omega) = (ps.map (·.1))[i]'(by rw [List.length_map]; exact hi) := by rw [List.getElem_map, List.getElem_map, ej, e2, Option.some.inj hc]
          have := (List.getElem_inj pok.nd).mp q
          omega
        obtain ⟨HX, hput, hCX, o, eHX⟩ := (hC8.same e9).put (n := c.1) (hs := sortS (p.up down c.2)) hnew h9 h9q hlen
        refine ⟨_, rfl, _, rfl, cl, HX, rfl, hput, _, _, _, rfl, ?_, ?_, ?_⟩
        · rw [eHX]
          exact (e8.trans e9).turn fB2
        · rw [eHX, upd_ne nDcl]
          exact e9 _ _ hD8
        · rw [htk, List.filter_append, List.filter_cons, if_pos (decide_eq_true hup), List.map_append]
          exact hCX
      · have hup : p.up down c.2 = [] := by
          rw [decide_eq_false_iff_not] at hb
          exact Classical.byContradiction fun h => hb fun e => h (PySem.W.Tup.mk.inj e)
        refine ⟨_, _, _, rfl, e8, hD8, ?_⟩
        rw [htk, List.filter_append, List.filter_cons, if_neg (by rw [hup]; simp), List.filter_nil, List.append_nil]
        exact hC8
    · rintro σ H5 ⟨v3, v4, v5, rfl, e5, hD5, hC5⟩
      rw [List.take_length] at hC5
      refine ⟨e5 _ _ hBc, ?_⟩
      have eF : Same H (upd H5 y.pa (.dK (dV V.str ps))) := same_lock hT.pa (by rw [← eHB2]; exact e5)
      have h5pa := e5 _ _ hBc
      have hCF : CallsAt K (upd H5 y.pa (.dK (dV V.str ps))) cl (townScn p ps down).calls := by
        obtain ⟨γ, δ, η, g1, g2⟩ := hC5
        refine ⟨γ, δ, η, by show upd H5 y.pa _ cl = _; rw [upd_ne npc.symm]; exact g1, fun c hc => ?_⟩
        obtain ⟨z1, z2⟩ := g2 c hc
        exact ⟨by rw [upd_ne (fun e => by rw [e, h5pa] at z1; cases z1)]; exact z1, by rw [upd_ne (fun e => by rw [e, h5pa] at z2; cases z2)]; exact z2⟩
      have hDF : (upd H5 y.pa (.dK (dV V.str ps))) D = some (.dK (dV V.int (townScn p ps down).chan)) := by rw [upd_ne nDpa]; exact hD5
      obtain ⟨HF, eHF⟩ : ∃ HF, HF = upd H5 y.pa (.dK (dV V.str ps)) := ⟨_, rfl⟩
      rw [← eHF] at eF hCF hDF ⊢
      refine ⟨_, rfl, _, rfl, fun sx dsx hsx hdsx hne => ?_⟩
      have eG : Same HF (upd (upd HF dsx (.own sx)) sx (.ins (He.ga K "Scene") dsx [])) := (Same.new hdsx).upd (by rw [upd_ne hne.symm]; exact hsx)
      refine ⟨sx, dsx, D, cl, townScn p ps down, rfl, upd_same, eG _ _ hDF, hCF.same eG, sok, fun H9 o9 hS9 => ⟨rfl, ?_⟩⟩
      exact k H9 sx (fun b o q => o9 b o (fun hb => by have := eF _ _ q; rw [hb, hsx] at this; cases this) (eG _ _ (eF _ _ q))) (none_back eF hsx) hS9
end
end MC
end
section
set_option Elab.async false
set_option linter.all false
set_option maxRecDepth 100000
set_option maxHeartbeats 4000000
/-! The defs, 25: Town.settle. -/
namespace MC
open PySem PySem.Spec PyProof.Rows L2
theorem some_at {H : Hp} {a b : Addr} {u : HO} (e : b = a) (h : H a = some u) : ∃ u, H b = some u := ⟨u, by rw [e]; exact h⟩
theorem none_off {A : Addr → Prop} {H H' : Hp} {q : Addr} (o : Off A H H') (h : ∀ b, A b → ∃ u, H' b = some u) (n : H' q = none) : H q = none := by
  cases e : H q with
  | none => rfl
  | some u =>
    by_cases a : A q
    · obtain ⟨u', hu⟩ := h q a
      rw [n] at hu
      cases hu
    · have := o q u a e
      rw [n] at this
      cases this
theorem TownF.same {K : PySem.W.Frag} {H H' : Hp} {y : TAd} {p : Plan} {most : Nat} {ps : List (Str × Str)} {down : List Str} {R : List (Str × Str)} {dn st : Addr} {r v : Int} (h : TownF K H y p most ps down R dn st r v) (e : Same H H') : TownF K H' y p most ps down R dn st r v :=
  ⟨e _ _ h.at_, h.pl.same e, e.seqT h.dn, e _ _ h.pa, e _ _ h.st⟩
/-- the map is no town -/
theorem PlanAt.off {K : PySem.W.Frag} {H H' : Hp} {pl tw C dx : Addr} {p : Plan} {fs : List (Str × V)} (h : PlanAt K H pl p) (o : Off (· = tw) H H') (ht : H tw = some (.ins C dx fs)) (hl : fs.length ≠ 3) : PlanAt K H' pl p := by
  obtain ⟨dxp, ca, ha, ra, β, ρ, h1, h2, h3, h4, h5, h6⟩ := h
  have off : ∀ {b : Addr} {u : HO}, H b = some u → u ≠ .ins C dx fs → H' b = some u := fun {b u} q hu => o _ _ (fun e => by rw [e, ht] at q; exact hu (Option.some.inj q).symm) q
  refine ⟨dxp, ca, ha, ra, β, ρ, off h1 fun z => ?_, off h2 fun z => (by cases z), off h3 fun z => (by cases z), off h4 fun z => (by cases z), fun x hx => off (h5 x hx) fun z => (by cases z), fun x hx => off (h6 x hx) fun z => (by cases z)⟩
  injection z with _ _ z
  exact hl (by rw [← z]; rfl)
theorem seqT_off {K : PySem.W.Frag} {H H' : Hp} {a tw C dx : Addr} {xs : List V} {fs : List (Str × V)} (h : SqT K H a xs) (o : Off (· = tw) H H') (ht : H tw = some (.ins C dx fs)) : SqT K H' a xs := by
  rcases h with (q | ⟨ob, q⟩) | q
  · exact .inl (.inl (o _ _ (fun e => by rw [e, ht] at q; cases q) q))
  · exact .inl (.inr ⟨ob, o _ _ (fun e => by rw [e, ht] at q; cases q) q⟩)
  · exact .inr q
section
variable {P : Program} {w : World} {K : PySem.W.Frag} {mg : Str → Option Value} {base : Heap}
def spSettle (K : PySem.W.Frag) : Sp := fun vs H Q _ => ∃ (y : TAd) (p : Plan) (most : Nat) (ps : List (Str × Str)) (down : List Str) (R : List (Str × Str)) (dn st : Addr) (r v : Int), vs = [.ref y.tw] ∧ TownF K H y p most ps down R dn st r v ∧ p.Ok ∧ PlOk p ps ∧ down.length ≤ 1000 ∧ (townScn p ps down).Ok ∧ (townScn p ps down).sorted.Ok ∧ Fits (townScn p ps down).sorted ∧
  ∀ H' R' st' v' q M, Off (· = y.tw) H H' → H st' = none → TownF K H' y p most ps down R' dn st' r v' → Full (townScn p ps down).sorted R' → H' q = some (.tup (List.map V.str M)) → Q (.ref q) H'
theorem ok_settle (T : Txt P w K mg) : Has P w K mg base CX0 8 (He.fAd K ("Town", some "settle")) ["self"] (spSettle K) := by
  obtain ⟨fd, F⟩ := T.d_TownSettle
  obtain ⟨fdC, GC, bC, kC⟩ := ok_scene (base := base) T
  obtain ⟨fdK, GK, bK, kK⟩ := ok_keptInit (base := base) T
  obtain ⟨fdR, GR, bR, kR⟩ := ok_reseated (base := base) T
  obtain ⟨fdM, GM, bM, kM⟩ := ok_movesOf (base := base) T
  have sc : FnScope ["self", "scene", "late", "found", "name"] ["self"] (defScope sTownSettle) := ⟨rfl, rfl, rfl, by decide +kernel, rfl, by decide +kernel, by decide +kernel⟩
  refine ⟨fd, F.ok sc (fun vs H Q E h => ?_) (fun cdv A outer s H vs Q E hr h => ?_), F.bindsN fun _ _ _ _ _ _ us hl => match us, hl with | [_], _ => rfl, F.kp⟩
  · obtain ⟨y, p, most, ps, down, R, dn, st, r, v, rfl, _⟩ := h
    rfl
  · obtain ⟨y, p, most, ps, down, R, dn, st, r, v, rfl, hT, ok, pok, hdl, sok, sok2, fits, k⟩ := h
    refine ⟨_, PSs.nox (pss_cons (ps_set (i := 1) sc.nd rfl (by first | exact Or.inl rfl | exact Or.inr rfl) (pe_meth0 (pv 0) T.c_Town T.m_Town_scene GC (hr.mono (by decide)) bC .nil pass0))
      (pss_cons (ps_set (i := 2) sc.nd rfl (by first | exact Or.inl rfl | exact Or.inr rfl) (pe_call GR (hr.mono (by decide)) (by rfl) T.g_reseated kR bR .nil pass0 (pa_cons (pv 1) (pa_cons (pe_fld (pe_make T.k_Kept GK (hr.mono (by decide)) (by rfl) T.g_Kept bK .nil pass0 (pa_cons (pv 1) pa_nil)) rfl) (pa_cons (pe_fld (pv 0) rfl) pa_nil)))))
      (pss_cons (ps_set (i := 3) sc.nd rfl (by first | exact Or.inl rfl | exact Or.inr rfl) (pe_call GM (hr.mono (by decide)) (by rfl) T.g_moves_of kM bM .nil pass0 (pa_cons (pv 2) (pa_cons (pe_fld (pv 0) rfl) pa_nil))))
      (pss_cons (ps_fldaug (pv 0) (pe_callB call_len_seq (by rfl) T.z_len bt_len (pa_cons (pe_lc (own := [("name", 4)]) (tt := tB (tDIn (tVar 4) (tFld K (tVar 0) "seating"))) (by rfl) sc.nd (pi_tup (pv 3))
          (by exact blk_ok (N := ["self", "scene", "late", "found", "name"]) (sc := defScope sTownSettle) (by decide +kernel)) (fun _ _ _ _ _ => pg_name (i := 4) sc.nd rfl (Or.inl rfl)) (fun _ _ _ _ _ => pts_one (pt_cmp (pc_din (by exact hr.u1) (pv 4) (pe_fld (pv 0) rfl)))) (fun _ _ _ _ _ => pv 4)) pa_nil)) in_add)
      (pss_cons (ps_fld (pv 0) (pv 2) rfl)
      (pss_one (ps_ret (pv 3)))))))), ?_⟩
    refine ⟨_, rfl, y.tw, y.dx, _, rfl, hT.at_, rfl, y, p, most, ps, down, R, dn, st, r, v, rfl, hT, ok, pok, hdl, sok, fun H1 scn e1 hs0 hS1 => ?_⟩
    refine ⟨_, rfl, _, rfl, fun kp dkp hkp hdkp hne => ?_⟩
    have eG : Same H1 (upd (upd H1 dkp (.own kp)) kp (.ins (He.ga K "Kept") dkp [])) := (Same.new hdkp).upd (by rw [upd_ne hne.symm]; exact hkp)
    refine ⟨kp, dkp, scn, (townScn p ps down).sorted, rfl, upd_same, hS1.same eG, sok2, fits, fun H2 l D pp L o2 h2kp h2D full => ⟨rfl, ?_⟩⟩
    have e12 : Same H1 H2 := fun b o z => o2 b o (fun hb => by rw [hb, hkp] at z; cases z) (eG _ _ z)
    have e2 := e1.trans e12
    refine ⟨kp, _, dkp, _, _, rfl, h2kp, T.c_Kept, T.a_Kept_seating, rfl, _, rfl, _, _, _, _, _, rfl, e2 _ _ hT.at_, T.c_Town, T.a_Town_seating, rfl, scn, D, st, (townScn p ps down).sorted, L, R, rfl, hS1.same e12, sok2, h2D, e2 _ _ hT.st, full, fun H3 q Rr e3 hq0 hq full' => ?_⟩
    have e3' := e2.trans e3
    have hRl : Rr.length ≤ 100 := by
      have := nodup_le full'.nd (m := keysL (townScn p ps down).sorted.calls) fun n hn => (full'.keys n).mp hn
      rw [keysL_len, keysL_len] at this
      have := sok2.ll
      omega
    refine ⟨_, rfl, _, rfl, _, _, _, _, _, rfl, e3' _ _ hT.at_, T.c_Town, T.a_Town_seating, rfl, q, st, Rr, R, rfl, hq, e3' _ _ hT.st, full'.nd, by omega, fun H4 t M e4 ht0 ht hMl => ?_⟩
    have e4' := e3'.trans e4
    refine ⟨_, rfl, y.tw, _, y.dx, _, .int v, rfl, e4' _ _ hT.at_, T.c_Town, T.a_Town_moved, rfl, ?_⟩
    refine ⟨_, rfl, t, rfl, ⟨_, sqT ht⟩, fun D2 hD2 => ?_⟩
    refine lc_list M walk_tupM (fun n => decide (n ∈ keysL R)) V.str hD2 (by omega) (fun H' e => sqT (e _ _ ht)) ?_ ?_
    · intro i a z H' H9 ha e yy
      obtain ⟨rfl, rfl⟩ := yat_map ha yy
      have e5 := e4'.trans e
      have ed : ((R.lookup a).map V.str).isSome = decide (a ∈ keysL R) := by
        by_cases hm : a ∈ keysL R
        · obtain ⟨u, hu⟩ := mem_keysL.mp hm
          rw [hu, decide_eq_true hm]
          rfl
        · rw [lookup_none_iff.mpr hm, decide_eq_false hm]
          rfl
      refine ⟨Same.refl _, fun Rr' S' hR hS => ⟨rfl, _, rfl, _, rfl, _, _, _, _, _, rfl, e5 _ _ hT.at_, T.c_Town, T.a_Town_seating, rfl, st, _, rfl, dgetR (k := a) (.inl (e5 _ _ hT.st)), _, rfl, ?_⟩⟩
      rw [ed]
      exact itB (fun hc => ⟨_, rfl, hR _ (Same.refl _) hc⟩) fun hc => hS _ (Same.refl _) hc
    intro H5 e5 hDl
    have e5' := e4'.trans e5
    refine ⟨D2, _, rfl, .inl (sqL hDl), v, _, rfl, rfl, y.dx, _, e5' _ _ hT.at_, (by show 7 < 1000; decide), ?_⟩
    refine ⟨_, rfl, _, rfl, y.tw, _, y.dx, _, rfl, upd_same, T.c_Town, T.a_Town_seating, (by show 7 < 1000; decide), _, rfl, ?_⟩
    have oF : ∀ {u1 u2 : HO}, Off (· = y.tw) H5 (upd (upd H5 y.tw u1) y.tw u2) := fun {u1 u2} b o hb z => by rw [upd_ne hb, upd_ne hb]; exact z
    have h5tw := e5' _ _ hT.at_
    have h5pa := e5' _ _ hT.pa
    have h5q := e5 _ _ (e4 _ _ hq)
    have h5t := e5 _ _ ht
    have oH : ∀ {u1 u2 : HO}, Off (· = y.tw) H (upd (upd H5 y.tw u1) y.tw u2) := fun {u1 u2} => (Off.same e5').trans oF
    refine k _ Rr q _ t M oH (none_back e2 hq0) ⟨upd_same, (hT.pl.same e5').off oF h5tw (by show (7 : Nat) ≠ 3; decide), seqT_off (e5'.seqT hT.dn) oF h5tw, oF _ _ (fun e => ?_) h5pa, oF _ _ (fun e => ?_) h5q⟩ full' (oF _ _ (fun e => ?_) h5t)
    · rw [e, h5tw] at h5pa
      cases h5pa
    · rw [e, h5tw] at h5q
      cases h5q
    · rw [e, h5tw] at h5t
      cases h5t
end
end MC
end
section
set_option Elab.async false
set_option linter.all false
set_option maxRecDepth 100000
set_option maxHeartbeats 4000000
/-! The defs, 26: Town: its making, is_safe. -/
namespace MC
open PySem PySem.Spec PyProof.Rows L2
section
variable {P : Program} {w : World} {K : PySem.W.Frag} {mg : Str → Option Value} {base : Heap}
def spTownInit (K : PySem.W.Frag) : Sp := fun vs H Q _ => ∃ (tw dx pl : Addr) (p : Plan) (most : Nat), vs = [.ref tw, .ref pl, .int (most : Int)] ∧ H tw = some (.ins (He.ga K "Town") dx []) ∧ PlanAt K H pl p ∧
  ∀ H' y dn st, y.tw = tw → y.pl = pl → H y.pa = none → H st = none → y.pa ≠ st → Off (· = tw) H H' → TownF K H' y p most [] [] [] dn st 0 0 → Q .non H'
theorem ok_townInit (T : Txt P w K mg) : Has P w K mg base CX0 1 (He.fAd K ("Town", some "__init__")) ["self", "plan", "most"] (spTownInit K) := by
  obtain ⟨fd, F⟩ := T.d_TownInit
  have sc : FnScope ["self", "plan", "most"] ["self", "plan", "most"] (defScope sTownInit) := ⟨rfl, rfl, rfl, by decide +kernel, rfl, by decide +kernel, by decide +kernel⟩
  refine ⟨fd, F.ok sc (fun vs H Q E h => ?_) (fun cdv A outer s H vs Q E hr h => ?_), F.bindsN fun _ _ _ _ _ _ us hl => match us, hl with | [_, _, _], _ => rfl, F.kp⟩
  · obtain ⟨tw, dx, pl, p, most, rfl, _⟩ := h
    rfl
  · obtain ⟨tw, dx, pl, p, most, rfl, htw, hp, k⟩ := h
    refine ⟨_, PSs.nox (pss_cons (ps_fld (pv 0) (pv 1) rfl) (pss_cons (ps_fld (pv 0) (pv 2) rfl) (pss_cons (ps_fld (pv 0) (pe_tup pa_nil) rfl) (pss_cons (ps_fld (pv 0) pe_dnewK rfl) (pss_cons (ps_fld (pv 0) pe_dnewK rfl)
      (pss_cons (ps_fld (pv 0) pe_int rfl) (pss_one (ps_fld (pv 0) pe_int rfl)))))))), ?_⟩
    refine ⟨_, rfl, _, rfl, tw, _, dx, _, rfl, htw, T.c_Town, T.a_Town_plan, (by show 0 < 1000; decide), ?_⟩
    refine ⟨_, rfl, _, rfl, tw, _, dx, _, rfl, upd_same, T.c_Town, T.a_Town_most, (by show 1 < 1000; decide), ?_⟩
    rw [upd_upd]
    refine ⟨sz0, fun dn hdn => ⟨_, rfl, tw, _, dx, _, rfl, by rw [upd_ne (fun e => by rw [← e, upd_same] at hdn; cases hdn)]; exact upd_same, T.c_Town, T.a_Town_down, (by show 2 < 1000; decide), ?_⟩⟩
    have ndn : tw ≠ dn := fun e => by rw [← e, upd_same] at hdn; cases hdn
    have hdn0 : H dn = none := by rw [upd_ne ndn.symm] at hdn; exact hdn
    obtain ⟨H1, eH1⟩ : ∃ H1, H1 = upd (upd (upd H tw (.ins (He.ga K "Town") dx (putF "most" (.int most) (putF "plan" (.ref pl) [])))) dn (.tup [])) tw (.ins (He.ga K "Town") dx (putF "down" (.ref dn) (putF "most" (.int most) (putF "plan" (.ref pl) [])))) := ⟨_, rfl⟩
    have h1dn : H1 dn = some (.tup []) := by rw [eH1, upd_ne ndn.symm]; exact upd_same
    have h1tw : H1 tw = some (.ins (He.ga K "Town") dx [("plan", .ref pl), ("most", .int most), ("down", .ref dn)]) := by rw [eH1]; exact upd_same
    have o1 : Off (· = tw) H H1 := by rw [eH1]; exact Off.upd (A := (· = tw)) (Off.new (Off.upd Off.refl rfl) hdn) rfl
    rw [← eH1]
    intro pa hpa
    have npa : tw ≠ pa := fun e => by rw [← e, h1tw] at hpa; cases hpa
    refine ⟨_, rfl, tw, _, dx, _, rfl, by rw [upd_ne npa]; exact h1tw, T.c_Town, T.a_Town_places, (by show 3 < 1000; decide), ?_⟩
    obtain ⟨H2, eH2⟩ : ∃ H2, H2 = upd (upd H1 pa (.dK [])) tw (.ins (He.ga K "Town") dx (putF "places" (.ref pa) [("plan", .ref pl), ("most", .int most), ("down", .ref dn)])) := ⟨_, rfl⟩
    have h2pa : H2 pa = some (.dK []) := by rw [eH2, upd_ne npa.symm]; exact upd_same
    have h2tw : H2 tw = some (.ins (He.ga K "Town") dx [("plan", .ref pl), ("most", .int most), ("down", .ref dn), ("places", .ref pa)]) := by rw [eH2]; exact upd_same
    have o2 : Off (· = tw) H1 H2 := by rw [eH2]; exact Off.upd (A := (· = tw)) (Off.new Off.refl hpa) rfl
    rw [← eH2]
    intro st hst
    have nst : tw ≠ st := fun e => by rw [← e, h2tw] at hst; cases hst
    refine ⟨_, rfl, tw, _, dx, _, rfl, by rw [upd_ne nst]; exact h2tw, T.c_Town, T.a_Town_seating, (by show 4 < 1000; decide), ?_⟩
    refine ⟨_, rfl, tw, _, dx, _, rfl, upd_same, T.c_Town, T.a_Town_refused, (by show 5 < 1000; decide), ?_⟩
    refine ⟨_, rfl, tw, _, dx, _, rfl, upd_same, T.c_Town, T.a_Town_moved, (by show 6 < 1000; decide), ?_⟩
    rw [upd_upd, upd_upd]
    have o3 : ∀ {u : HO}, Off (· = tw) H2 (upd (upd H2 st (.dK [])) tw u) := fun {u} => Off.upd (A := (· = tw)) (Off.new Off.refl hst) rfl
    have hpaH : H pa = none := by
      cases z : H pa with
      | none => rfl
      | some o =>
        have := o1 _ _ npa.symm z
        rw [hpa] at this
        cases this
    have hstH : H st = none := by
      cases z : H st with
      | none => rfl
      | some o =>
        have := o2 _ _ nst.symm (o1 _ _ nst.symm z)
        rw [hst] at this
        cases this
    refine k _ ⟨tw, dx, pl, pa⟩ dn st rfl rfl hpaH hstH (fun e => by
      have e : pa = st := e
      rw [← e, h2pa] at hst
      cases hst) ((o1.trans o2).trans o3) ⟨upd_same, hp.off ((o1.trans o2).trans o3) htw (by decide), sqT (o3 _ _ ndn.symm (o2 _ _ ndn.symm h1dn)), o3 _ _ npa.symm h2pa, ?_⟩
    show upd _ tw _ st = _
    rw [upd_ne nst.symm]
    exact upd_same
def spIsSafe (K : PySem.W.Frag) : Sp := fun vs H Q _ => ∃ (y : TAd) (p : Plan) (most : Nat) (ps : List (Str × Str)) (down : List Str) (R : List (Str × Str)) (dn st : Addr) (r v : Int), vs = [.ref y.tw] ∧ TownF K H y p most ps down R dn st r v ∧ p.Ok ∧ PlOk p ps ∧ most ≤ 1 ∧ p.Safe ps most ∧ ∀ H', Same H H' → Q (.bl true) H'
theorem ok_isSafe (T : Txt P w K mg) : Has P w K mg base CX0 8 (He.fAd K ("Town", some "is_safe")) ["self"] (spIsSafe K) := by
  obtain ⟨fd, F⟩ := T.d_TownIsSafe
  obtain ⟨fdD, GD, bD, kD⟩ := ok_dangerFor (base := base) T
  have sc : FnScope ["self"] ["self"] (defScope sTownIsSafe) := ⟨rfl, rfl, rfl, by decide +kernel, rfl, by decide +kernel, by decide +kernel⟩
  refine ⟨fd, F.ok sc (fun vs H Q E h => ?_) (fun cdv A outer s H vs Q E hr h => ?_), F.bindsN fun _ _ _ _ _ _ us hl => match us, hl with | [_], _ => rfl, F.kp⟩
  · obtain ⟨y, p, most, ps, down, R, dn, st, r, v, rfl, _⟩ := h
    rfl
  · obtain ⟨y, p, most, ps, down, R, dn, st, r, v, rfl, hT, ok, pok, hm, safe, k⟩ := h
    refine ⟨_, pss_one (ps_ret (pe_cmp (pc_isN (pe_call GD (hr.mono (by decide)) (by rfl) T.g_danger_for kD bD .nil pass0 (pa_cons (pe_fld (pv 0) rfl) (pa_cons (pe_fld (pv 0) rfl) (pa_cons (pe_fld (pv 0) rfl) pa_nil))))))), ?_⟩
    refine ⟨_, rfl, _, _, _, _, _, rfl, hT.at_, T.c_Town, T.a_Town_plan, rfl, _, rfl, _, _, _, _, _, rfl, hT.at_, T.c_Town, T.a_Town_places, rfl, _, rfl, _, _, _, _, _, rfl, hT.at_, T.c_Town, T.a_Town_most, rfl, ?_⟩
    exact ⟨y.pl, y.pa, most, p, ps, rfl, hT.pl, ok, .inl hT.pa, pok, hm, fun _ H' e => k H' e, fun hs => absurd safe hs⟩
end
end MC
end
section
set_option Elab.async false
set_option linter.all false
set_option maxRecDepth 100000
set_option maxHeartbeats 4000000
/-! Safe towns, in plain terms: safety is kept. -/
namespace MC
open PySem
/-- a call moved along a road, or gone: no more calls come to a zone -/
theorem hit_next {p : Plan} {down M : List Str} {z z' : Str} (h : (z, z') ∈ p.roads) (hit : p.hit down M z') : p.hit down M z := by
  obtain ⟨y, hy, hr⟩ := hit
  exact ⟨y, hy, (Rch.step .refl h).trans hr⟩
open Classical in
theorem hitB_iff {p : Plan} {down M : List Str} {c : Str × Str} : p.hitB down M c = true ↔ p.hit down M c.2 := by
  unfold Plan.hitB
  exact ⟨fun h => of_decide_eq_true h, fun h => decide_eq_true h⟩
theorem filter_le {α : Type} {p q : α → Bool} {l : List α} (h : ∀ x ∈ l, p x = true → q x = true) : (l.filter p).length ≤ (l.filter q).length := by
  rw [← List.countP_eq_length_filter, ← List.countP_eq_length_filter]
  exact List.countP_mono_left h
theorem hits_go {p : Plan} {down M : List Str} {ps : List (Str × Str)} {n z z' : Str} (hn : (keysL ps).Nodup) (hl : ps.lookup n = some z) (hr : (z, z') ∈ p.roads) : ((putL ps n z').filter (p.hitB down M)).length ≤ (ps.filter (p.hitB down M)).length := by
  unfold putL
  rw [if_pos (mem_keysL.mpr ⟨_, hl⟩), List.filter_map, List.length_map]
  refine filter_le fun c hc h => ?_
  have h' : p.hitB down M (if c.1 = n then (n, z') else c) = true := h
  by_cases e : c.1 = n
  · rw [if_pos e] at h'
    have hz : c.2 = z := by
      have := lookup_nodup hn hc
      rw [e, hl] at this
      exact (Option.some.inj this).symm
    rw [hitB_iff] at h' ⊢
    rw [hz]
    exact hit_next hr h'
  · rw [if_neg e] at h'
    exact h'
theorem hits_end {p : Plan} {down M : List Str} {ps : List (Str × Str)} {n : Str} : ((delL ps n).filter (p.hitB down M)).length ≤ (ps.filter (p.hitB down M)).length := by
  unfold delL
  rw [List.filter_filter]
  exact filter_le fun c _ h => (Bool.and_eq_true_iff.mp h).1
theorem safe_le {p : Plan} {ps ps' : List (Str × Str)} {most : Nat} (h : ∀ down M, (ps'.filter (p.hitB down M)).length ≤ (ps.filter (p.hitB down M)).length) (s : p.Safe ps most) : p.Safe ps' most := fun falls hf Z M f => by
  have := s falls hf Z M f
  have := h falls M
  omega
end MC
end
section
set_option Elab.async false
set_option linter.all false
set_option maxRecDepth 100000
set_option maxHeartbeats 4000000
/-! The defs, 29: Town: check. -/
namespace MC
open PySem PySem.Spec PyProof.Rows L2
section
variable {P : Program} {w : World} {K : PySem.W.Frag} {mg : Str → Option Value} {base : Heap}
def spCheck (K : PySem.W.Frag) : Sp := fun vs H Q E => ∃ (y : TAd) (p : Plan) (most : Nat) (ps : List (Str × Str)) (down : List Str) (R : List (Str × Str)) (dn st : Addr) (r v : Int) (n : Str), vs = [.ref y.tw, .str n] ∧ TownF K H y p most ps down R dn st r v ∧
  (n ∈ keysL ps → Q .non H) ∧ (n ∉ keysL ps → ∀ d, H d = none → E (.ref (He.ga K "BadName")) (some d) (upd H d (.xd [("name", .str n)])))
theorem ok_check (T : Txt P w K mg) : Has P w K mg base (L2.CX P w) 2 (He.fAd K ("Town", some "check")) ["self", "name"] (spCheck K) := by
  obtain ⟨fd, F⟩ := T.d_TownCheck
  obtain ⟨fI, cc, cda, hbad⟩ := T.badName
  have sc : FnScope ["self", "name"] ["self", "name"] (defScope sTownCheck) := ⟨rfl, rfl, rfl, by decide +kernel, rfl, by decide +kernel, by decide +kernel⟩
  refine ⟨fd, F.ok sc (fun vs H Q E h => ?_) (fun cdv A outer s H vs Q E hr h => ?_), F.bindsN fun _ _ _ _ _ _ us hl => match us, hl with | [_, _], _ => rfl, F.kp⟩
  · obtain ⟨y, p, most, ps, down, R, dn, st, r, v, n, rfl, _⟩ := h
    rfl
  · obtain ⟨y, p, most, ps, down, R, dn, st, r, v, n, rfl, hT, k1, k2⟩ := h
    refine ⟨_, pss_one (ps_if (pt_cmp (pc_dnotin (by exact hr.u1) (pv 1) (pe_fld (pv 0) rfl))) (pss_one (ps_raise (by rfl) (takes_of rfl rfl rfl rfl) (pmk_bad hbad fld_name hr (pa_cons (pv 1) pa_nil) (by rfl)))) pss_nil), ?_⟩
    refine ⟨_, rfl, _, rfl, _, _, _, _, _, rfl, hT.at_, T.c_Town, T.a_Town_places, rfl, y.pa, _, rfl, dgetR (k := n) (.inl hT.pa), _, rfl, ?_⟩
    by_cases hn : n ∈ keysL ps
    · obtain ⟨u, hu⟩ := mem_keysL.mp hn
      rw [hu]
      exact itF (k1 hn)
    · rw [lookup_none_iff.mpr hn]
      exact itT ⟨_, rfl, _, rfl, fun d hd => k2 hn d hd⟩
end
end MC
end
section
set_option Elab.async false
set_option linter.all false
set_option maxRecDepth 100000
set_option maxHeartbeats 4000000
/-! The defs, 30: Town: end. -/
namespace MC
open PySem PySem.Spec PyProof.Rows L2
theorem dropK_dV {α : Type} (f : α → V) (l : List (Str × α)) (k : Str) : dropK (dV f l) (.inr k) = dV f (delL l k) := by
  unfold dropK delL
  show ((l.map _).map _).filter _ = ((l.filter _).map _).map _
  rw [List.map_map, List.map_map, List.filter_map]
  congr 1
  refine List.filter_congr fun c _ => ?_
  show decide ((Sum.inr c.1 : Key) ≠ .inr k) = decide (c.1 ≠ k)
  refine decide_eq_decide.mpr ⟨fun h e => h (by rw [e]), fun h e => h (Sum.inr.inj e)⟩
theorem delL_none {α : Type} {l : List (Str × α)} {k : Str} (h : l.lookup k = none) : delL l k = l := by
  unfold delL
  rw [List.filter_eq_self]
  intro c hc
  exact decide_eq_true fun e => lookup_none_iff.mp h (e ▸ List.mem_map_of_mem hc)
/-- the map is apart from towns and from dicts of texts that are not empty -/
theorem PlanAt.offT {K : PySem.W.Frag} {H H' : Hp} {pl : Addr} {p : Plan} {A : Addr → Prop} (h : PlanAt K H pl p) (o : Off A H H') (ha : ∀ b, A b → (∃ C dx fs, H b = some (.ins C dx fs) ∧ fs.length ≠ 3) ∨ ∃ (c : Str × Str) (l : List (Str × Str)), H b = some (.dK (dV V.str (c :: l)))) : PlanAt K H' pl p := by
  obtain ⟨dxp, ca, hb, ra, β, ρ, h1, h2, h3, h4, h5, h6⟩ := h
  have off : ∀ {b : Addr} {u : HO}, H b = some u → (∀ C dx fs, u = .ins C dx fs → fs.length = 3) → (∀ (c : Str × Str) (l : List (Str × Str)), u ≠ .dK (dV V.str (c :: l))) → H' b = some u := fun {b u} q g1 g2 => o _ _ (fun e => by
    rcases ha b e with ⟨C, dx, fs, z, hl⟩ | ⟨c, l, z⟩
    · rw [q] at z
      exact hl (g1 C dx fs (Option.some.inj z))
    · rw [q] at z
      exact g2 c l (Option.some.inj z)) q
  refine ⟨dxp, ca, hb, ra, β, ρ, off h1 (fun C dx fs z => ?_) (fun c l z => by cases z), off h2 (fun C dx fs z => by cases z) (fun c l z => ?_), off h3 (fun C dx fs z => by cases z) (fun c l z => ?_), off h4 (fun C dx fs z => by cases z) (fun c l z => by cases z), fun x hx => off (h5 x hx) (fun C dx fs z => by cases z) (fun c l z => by cases z), fun x hx => off (h6 x hx) (fun C dx fs z => by cases z) (fun c l z => by cases z)⟩
  · injection z with _ _ z
    rw [← z]
    rfl
  · injection z with z
    cases hc : p.chan with
    | nil => rw [hc] at z; cases z
    | cons d r =>
      rw [hc] at z
      injection z with z
      injection z with _ z
      cases z
  · injection z with z
    cases hc : p.heard with
    | nil => rw [hc] at z; cases z
    | cons d r =>
      rw [hc] at z
      injection z with z
      injection z with _ z
      cases z
section
variable {P : Program} {w : World} {K : PySem.W.Frag} {mg : Str → Option Value} {base : Heap}
/-- what is asked of a town with these places and masts down -/
structure Good (p : Plan) (ps : List (Str × Str)) (down : List Str) : Prop where
  pok : PlOk p ps
  sok : (townScn p ps down).Ok
  sok2 : (townScn p ps down).sorted.Ok
  fits : Fits (townScn p ps down).sorted
def spEnd (K : PySem.W.Frag) : Sp := fun vs H Q E => ∃ (y : TAd) (p : Plan) (most : Nat) (ps : List (Str × Str)) (down : List Str) (R : List (Str × Str)) (dn st : Addr) (r v : Int) (n : Str), vs = [.ref y.tw, .str n] ∧ TownF K H y p most ps down R dn st r v ∧ p.Ok ∧ down.length ≤ 1000 ∧ y.pa ≠ st ∧ (keysL ps).Nodup ∧ (keysL R).Nodup ∧
  (n ∈ keysL ps → Good p (delL ps n) down ∧ ∀ H' R' st' v' q M, Off (fun b => y.mut b ∨ b = st) H H' → H st' = none → TownF K H' y p most (delL ps n) down R' dn st' r v' → Full (townScn p (delL ps n) down).sorted R' → H' q = some (.tup (List.map V.str M)) → Q (.ref q) H') ∧
  (n ∉ keysL ps → ∀ d, H d = none → E (.ref (He.ga K "BadName")) (some d) (upd H d (.xd [("name", .str n)])))
theorem ok_end (T : Txt P w K mg) : Has P w K mg base (L2.CX P w) 9 (He.fAd K ("Town", some "end")) ["self", "name"] (spEnd K) := by
  obtain ⟨fd, F⟩ := T.d_TownEnd
  obtain ⟨fdC, GC, bC, kC⟩ := ok_check (base := base) T
  obtain ⟨fdS, GS, bS, kS⟩ := ok_settle (base := base) T
  have sc : FnScope ["self", "name"] ["self", "name"] (defScope sTownEnd) := ⟨rfl, rfl, rfl, by decide +kernel, rfl, by decide +kernel, by decide +kernel⟩
  refine ⟨fd, F.ok sc (fun vs H Q E h => ?_) (fun cdv A outer s H vs Q E hr h => ?_), F.bindsN fun _ _ _ _ _ _ us hl => match us, hl with | [_, _], _ => rfl, F.kp⟩
  · obtain ⟨y, p, most, ps, down, R, dn, st, r, v, n, rfl, _⟩ := h
    rfl
  · obtain ⟨y, p, most, ps, down, R, dn, st, r, v, n, rfl, hT, ok, hdl, hne, hn, hnR, k1, k2⟩ := h
    refine ⟨_, pss_cons (ps_expr (pe_meth (pv 0) T.c_Town T.m_Town_check GC (hr.mono (by decide)) bC .nil (passes_call (takes_of rfl rfl rfl rfl) (fun _ _ _ _ h => h)) (pa_cons (pv 1) pa_nil)))
      (pss_cons (ps_expr (pe_dpop1 (pe_fld (pv 0) rfl) (pv 1) ⟨rfl, rfl, rfl, rfl⟩))
      (pss_cons (ps_expr (pe_dpop2 (pe_fld (pv 0) rfl) (pv 1) pe_non ⟨rfl, rfl, rfl, rfl⟩))
      (pss_one (ps_ret (pe_meth0 (pv 0) T.c_Town T.m_Town_settle GS hr bS .nil pass0))))), ?_⟩
    refine ⟨_, rfl, y.tw, y.dx, _, rfl, hT.at_, rfl, _, rfl, y, p, most, ps, down, R, dn, st, r, v, n, rfl, hT, fun hin => ?_, k2⟩
    obtain ⟨good, kq⟩ := k1 hin
    obtain ⟨z, hz⟩ := mem_keysL.mp hin
    refine ⟨_, rfl, _, _, _, _, _, rfl, hT.at_, T.c_Town, T.a_Town_places, rfl, y.pa, rfl, .inl ⟨_, .inl hT.pa⟩, _, rfl, _, .inr n, .str z, hT.pa, rfl, by rw [valV_dV, hz]; rfl, ?_⟩
    rw [dropK_dV]
    have npa : y.tw ≠ y.pa := fun e => by have := hT.at_; rw [e, hT.pa] at this; cases this
    have nst : y.tw ≠ st := fun e => by have := hT.at_; rw [e, hT.st] at this; cases this
    obtain ⟨H1, eH1⟩ : ∃ H1, H1 = upd H y.pa (.dK (dV V.str (delL ps n))) := ⟨_, rfl⟩
    have h1tw := hT.at_
    rw [← upd_ne npa (H := H) (o := .dK (dV V.str (delL ps n))), ← eH1] at h1tw
    have h1st : H1 st = some (.dK (dV V.str R)) := by rw [eH1, upd_ne hne.symm]; exact hT.st
    have h1pa : H1 y.pa = some (.dK (dV V.str (delL ps n))) := by rw [eH1]; exact upd_same
    rw [← eH1]
    obtain ⟨c0, l0, hps⟩ : ∃ c l, ps = c :: l := by
      cases hp : ps with
      | nil => rw [hp] at hz; cases hz
      | cons c l => exact ⟨c, l, rfl⟩
    have fin : ∀ (H2 : Hp) (R2 : List (Str × Str)), H2 y.tw = H1 y.tw → H2 y.pa = some (.dK (dV V.str (delL ps n))) → H2 st = some (.dK (dV V.str R2)) → Off (fun b => b = y.pa ∨ (b = st ∧ R ≠ [])) H H2 → TownF K H2 y p most (delL ps n) down R2 dn st r v := by
      intro H2 R2 a1 a2 a3 o
      refine ⟨by rw [a1]; exact h1tw, hT.pl.offT o fun b hb => .inr ?_, ?_, a2, a3⟩
      · rcases hb with rfl | ⟨rfl, hR⟩
        · exact ⟨c0, l0, by rw [hT.pa, hps]⟩
        · cases hr2 : R with
          | nil => exact absurd hr2 hR
          | cons c l => exact ⟨c, l, by rw [hT.st, hr2]⟩
      · rcases hT.dn with (q | ⟨ob, q⟩) | q
        · refine .inl (.inl (o _ _ (fun e => ?_) q))
          rcases e with e | ⟨e, _⟩
          · rw [e, hT.pa] at q; cases q
          · rw [e, hT.st] at q; cases q
        · refine .inl (.inr ⟨ob, o _ _ (fun e => ?_) q⟩)
          rcases e with e | ⟨e, _⟩
          · rw [e, hT.pa] at q; cases q
          · rw [e, hT.st] at q; cases q
        · exact .inr q
    have o1 : Off (fun b => b = y.pa ∨ (b = st ∧ R ≠ [])) H H1 := by rw [eH1]; exact Off.refl.upd (.inl rfl)
    have wid : ∀ {H2 H3 : Hp}, Off (fun b => b = y.pa ∨ (b = st ∧ R ≠ [])) H H2 → Off (· = y.tw) H2 H3 → Off (fun b => y.mut b ∨ b = st) H H3 := fun a b => (a.mono fun x hx => hx.elim (fun e => .inl (.inr e)) fun e => .inr e.1).trans (b.mono fun x hx => .inl (.inl hx))
    refine ⟨_, rfl, _, _, _, _, _, rfl, h1tw, T.c_Town, T.a_Town_seating, rfl, st, rfl, .inl ⟨_, .inl h1st⟩, _, rfl, _, .inr n, h1st, rfl, fun u hu => ?_, fun hu => ?_⟩
    · rw [dropK_dV]
      have hRne : R ≠ [] := fun e => by rw [e] at hu; cases hu
      have o2 := o1.upd (a := st) (o := .dK (dV V.str (delL R n))) (.inr ⟨rfl, hRne⟩)
      have t2 := fin _ (delL R n) (by rw [upd_ne nst]) (by rw [upd_ne hne]; exact h1pa) upd_same o2
      exact ⟨_, rfl, y.tw, y.dx, _, rfl, t2.at_, rfl, y, p, most, delL ps n, down, delL R n, dn, st, r, v, rfl, t2, ok, good.pok, hdl, good.sok, good.sok2, good.fits, fun H' R' st' v' q M o3 h0 hT3 full hq => kq H' R' st' v' q M (wid o2 o3) (none_off o2 (fun b hb => hb.elim (fun e => some_at e t2.pa) fun e => some_at e.1 t2.st) h0) hT3 full hq⟩
    · have t2 := fin H1 R rfl h1pa h1st o1
      exact ⟨_, rfl, y.tw, y.dx, _, rfl, t2.at_, rfl, y, p, most, delL ps n, down, R, dn, st, r, v, rfl, t2, ok, good.pok, hdl, good.sok, good.sok2, good.fits, fun H' R' st' v' q M o3 h0 hT3 full hq => kq H' R' st' v' q M (wid o1 o3) (none_off o1 (fun b hb => hb.elim (fun e => some_at e t2.pa) fun e => some_at e.1 t2.st) h0) hT3 full hq⟩
end
end MC
end
section
set_option Elab.async false
set_option linter.all false
set_option maxRecDepth 100000
set_option maxHeartbeats 4000000
/-! The defs, 31: Town: go. -/
namespace MC
open PySem PySem.Spec PyProof.Rows L2
section
variable {P : Program} {w : World} {K : PySem.W.Frag} {mg : Str → Option Value} {base : Heap}
theorem ha_roads {H : Hp} {ρ : Str × Str → Addr} : ∀ {l : List (Str × Str)}, (∀ r ∈ l, H (ρ r) = some (.tup [.str r.1, .str r.2])) → Ha K H (l.map fun r => V.ref (ρ r)) l
  | [], _ => ha_nil
  | r :: l, h => ha_cons (hv_pair (sqT (h r List.mem_cons_self)) (hv_str _) (hv_str _)) (ha_roads fun x hx => h x (List.mem_cons_of_mem _ hx))
def spGo (K : PySem.W.Frag) : Sp := fun vs H Q E => ∃ (y : TAd) (p : Plan) (most : Nat) (ps : List (Str × Str)) (down : List Str) (R : List (Str × Str)) (dn st : Addr) (r v : Int) (n z' : Str), vs = [.ref y.tw, .str n, .str z'] ∧ TownF K H y p most ps down R dn st r v ∧ p.Ok ∧ down.length ≤ 1000 ∧ y.pa ≠ st ∧ ps.length ≤ 1000 ∧
  ((∃ z, ps.lookup n = some z ∧ (z, z') ∈ p.roads) → Good p (putL ps n z') down ∧ ∀ H' R' st' v' q M, Off y.mut H H' → H st' = none → TownF K H' y p most (putL ps n z') down R' dn st' r v' → Full (townScn p (putL ps n z') down).sorted R' → H' q = some (.tup (List.map V.str M)) → Q (.ref q) H') ∧
  (n ∉ keysL ps → ∀ d, H d = none → E (.ref (He.ga K "BadName")) (some d) (upd H d (.xd [("name", .str n)]))) ∧
  ((∃ z, ps.lookup n = some z ∧ (z, z') ∉ p.roads) → ∀ H' d, Same H H' → H' d = none → E (.ref (He.ga K "BadName")) (some d) (upd H' d (.xd [("name", .str z')])))
theorem ok_go (T : Txt P w K mg) : Has P w K mg base (L2.CX P w) 9 (He.fAd K ("Town", some "go")) ["self", "name", "zone"] (spGo K) := by
  obtain ⟨fd, F⟩ := T.d_TownGo
  obtain ⟨fdC, GC, bC, kC⟩ := ok_check (base := base) T
  obtain ⟨fdS, GS, bS, kS⟩ := ok_settle (base := base) T
  obtain ⟨fI, cc, cda, hbad⟩ := T.badName
  have sc : FnScope ["self", "name", "zone"] ["self", "name", "zone"] (defScope sTownGo) := ⟨rfl, rfl, rfl, by decide +kernel, rfl, by decide +kernel, by decide +kernel⟩
  refine ⟨fd, F.ok sc (fun vs H Q E h => ?_) (fun cdv A outer s H vs Q E hr h => ?_), F.bindsN fun _ _ _ _ _ _ us hl => match us, hl with | [_, _, _], _ => rfl, F.kp⟩
  · obtain ⟨y, p, most, ps, down, R, dn, st, r, v, n, z', rfl, _⟩ := h
    rfl
  · obtain ⟨y, p, most, ps, down, R, dn, st, r, v, n, z', rfl, hT, ok, hdl, hne, hl, k1, k2, k3⟩ := h
    refine ⟨_, pss_cons (ps_expr (pe_meth (pv 0) T.c_Town T.m_Town_check GC (hr.mono (by decide)) bC .nil (passes_call (takes_of rfl rfl rfl rfl) (fun _ _ _ _ h => h)) (pa_cons (pv 1) pa_nil)))
      (pss_cons (ps_if (pt_cmpR (op_niT (Str × Str) (by exact Fit.of hr (by decide))) (pe_tup (pa_cons (pe_dget (by exact hr.u1) (pe_fld (pv 0) rfl) (pv 1) (fun _ _ => rfl)) (pa_cons (pv 2) pa_nil))) (pe_fld (pe_fld (pv 0) rfl) rfl) rfl)
        (pss_one (ps_raise (by rfl) (takes_of rfl rfl rfl rfl) (pmk_bad hbad fld_name hr (pa_cons (pv 2) pa_nil) (by rfl)))) pss_nil)
      (pss_cons (ps_dput (by exact hr.u1) (pe_fld (pv 0) rfl) (pv 1) (pv 2) rfl)
      (pss_one (ps_ret (pe_meth0 (pv 0) T.c_Town T.m_Town_settle GS hr bS .nil pass0))))), ?_⟩
    obtain ⟨dxp, ca, hb, ra, β, ρ, h1, h2, h3, h4, h5, h6⟩ := id hT.pl
    refine ⟨_, rfl, y.tw, y.dx, _, rfl, hT.at_, rfl, _, rfl, y, p, most, ps, down, R, dn, st, r, v, n, rfl, hT, fun hin => ?_, k2⟩
    obtain ⟨z, hz⟩ := mem_keysL.mp hin
    refine ⟨_, rfl, _, _, _, _, _, rfl, hT.at_, T.c_Town, T.a_Town_places, rfl, _, rfl, y.pa, _, rfl, dgetS (.inl hT.pa) hz, _, rfl, sz2, fun t ht => ?_⟩
    have e1 : Same H (upd H t (.tup [.str z, .str z'])) := Same.new ht
    obtain ⟨H1, eH1⟩ : ∃ H1, H1 = upd H t (.tup [.str z, .str z']) := ⟨_, rfl⟩
    have h1t : H1 t = some (.tup [.str z, .str z']) := by rw [eH1]; exact upd_same
    rw [← eH1] at e1
    rw [← eH1]
    refine ⟨_, rfl, _, _, _, _, _, rfl, e1 _ _ hT.at_, T.c_Town, T.a_Town_plan, rfl, _, _, _, _, _, rfl, e1 _ _ h1, T.c_Map, T.a_Map_roads, rfl, (z, z'), ra, _, p.roads, rfl, hv_pair (sqT h1t) (hv_str _) (hv_str _), sqT (e1 _ _ h4), ha_roads fun x hx => e1 _ _ (h6 x hx), _, rfl, itB (fun hc => ?_) fun hc => ?_⟩
    · exact ⟨_, rfl, _, rfl, fun d hd => k3 ⟨z, hz, by simpa using hc⟩ _ d e1 hd⟩
    · have hroad : (z, z') ∈ p.roads := by simpa using hc
      obtain ⟨good, kq⟩ := k1 ⟨z, hz, hroad⟩
      have hT1 := hT.same e1
      refine ⟨_, rfl, _, rfl, _, _, _, _, _, rfl, hT1.at_, T.c_Town, T.a_Town_places, rfl, _, rfl, y.pa, _, rfl, dputL hT1.pa (by omega), ?_⟩
      obtain ⟨c0, l0, hps⟩ : ∃ c l, ps = c :: l := by
        cases hp : ps with
        | nil => rw [hp] at hz; cases hz
        | cons c l => exact ⟨c, l, rfl⟩
      have npa : y.tw ≠ y.pa := fun e => by have := hT1.at_; rw [e, hT1.pa] at this; cases this
      have o2 : Off (· = y.pa) H1 (upd H1 y.pa (.dK (dV V.str (putL ps n z')))) := Off.upd (A := (· = y.pa)) Off.refl rfl
      have t2 : TownF K (upd H1 y.pa (.dK (dV V.str (putL ps n z')))) y p most (putL ps n z') down R dn st r v := by
        refine ⟨by rw [upd_ne npa]; exact hT1.at_, hT1.pl.offT o2 fun b hb => .inr ⟨c0, l0, by rw [hb, hT1.pa, hps]⟩, ?_, upd_same, by rw [upd_ne hne.symm]; exact hT1.st⟩
        rcases hT1.dn with (q | ⟨ob, q⟩) | q
        · exact .inl (.inl (o2 _ _ (fun e => by rw [e, hT1.pa] at q; cases q) q))
        · exact .inl (.inr ⟨ob, o2 _ _ (fun e => by rw [e, hT1.pa] at q; cases q) q⟩)
        · exact .inr q
      have oa : Off y.mut H (upd H1 y.pa (.dK (dV V.str (putL ps n z')))) := (Off.same e1).trans (o2.mono fun x hx => .inr hx)
      exact ⟨_, rfl, y.tw, y.dx, _, rfl, t2.at_, rfl, y, p, most, putL ps n z', down, R, dn, st, r, v, rfl, t2, ok, good.pok, hdl, good.sok, good.sok2, good.fits, fun H' R' st' v' q M o3 h0 hT3 full hq => kq H' R' st' v' q M (oa.trans (o3.mono fun x hx => .inl hx)) (none_off oa (fun b hb => hb.elim (fun e => some_at e t2.at_) fun e => some_at e t2.pa) h0) hT3 full hq⟩
end
end MC
end
section
set_option Elab.async false
set_option linter.all false
set_option maxRecDepth 100000
set_option maxHeartbeats 4000000
/-! The defs, 32: Town: fall and rise. -/
namespace MC
open PySem PySem.Spec PyProof.Rows L2
/-- the town with other masts down, kept at dn' -/
theorem TownF.down {K : PySem.W.Frag} {H : Hp} {y : TAd} {p : Plan} {most : Nat} {ps : List (Str × Str)} {down down' : List Str} {R : List (Str × Str)} {dn dn' st : Addr} {r v : Int} (h : TownF K H y p most ps down R dn st r v) (hd : SqT K H dn' (down'.map V.str)) :
    TownF K (upd H y.tw (.ins (He.ga K "Town") y.dx [("plan", .ref y.pl), ("most", .int (most : Int)), ("down", .ref dn'), ("places", .ref y.pa), ("seating", .ref st), ("refused", .int r), ("moved", .int v)])) y p most ps down' R dn' st r v := by
  have o : ∀ {u : HO}, Off (· = y.tw) H (upd H y.tw u) := fun {u} => Off.upd (A := (· = y.tw)) Off.refl rfl
  exact ⟨upd_same, h.pl.off o h.at_ (by show (7 : Nat) ≠ 3; decide), seqT_off hd o h.at_, o _ _ (fun e => by have := h.at_; rw [← e, h.pa] at this; cases this) h.pa, o _ _ (fun e => by have := h.at_; rw [← e, h.st] at this; cases this) h.st⟩
section
variable {P : Program} {w : World} {K : PySem.W.Frag} {mg : Str → Option Value} {base : Heap}
def spFall (K : PySem.W.Frag) : Sp := fun vs H Q E => ∃ (y : TAd) (p : Plan) (most : Nat) (ps : List (Str × Str)) (down : List Str) (R : List (Str × Str)) (dn st : Addr) (r v : Int) (m : Str), vs = [.ref y.tw, .str m] ∧ TownF K H y p most ps down R dn st r v ∧ p.Ok ∧ down.length ≤ 900 ∧
  (m ∈ p.masts ∧ m ∉ down ∧ down.length < most → Good p ps (sortS (down ++ [m])) ∧ ∀ H' R' dn' st' v' q M, Off (· = y.tw) H H' → H st' = none → TownF K H' y p most ps (sortS (down ++ [m])) R' dn' st' r v' → Full (townScn p ps (sortS (down ++ [m]))).sorted R' → H' q = some (.tup (List.map V.str M)) → Q (.ref q) H') ∧
  (¬ (m ∈ p.masts ∧ m ∉ down ∧ down.length < most) → ∀ d, H d = none → E (.ref (He.ga K "BadName")) (some d) (upd H d (.xd [("name", .str m)])))
theorem ok_fall (T : Txt P w K mg) : Has P w K mg base (L2.CX P w) 9 (He.fAd K ("Town", some "fall")) ["self", "mast"] (spFall K) := by
  obtain ⟨fd, F⟩ := T.d_TownFall
  obtain ⟨fdS, GS, bS, kS⟩ := ok_settle (base := base) T
  obtain ⟨fI, cc, cda, hbad⟩ := T.badName
  have sc : FnScope ["self", "mast"] ["self", "mast"] (defScope sTownFall) := ⟨rfl, rfl, rfl, by decide +kernel, rfl, by decide +kernel, by decide +kernel⟩
  refine ⟨fd, F.ok sc (fun vs H Q E h => ?_) (fun cdv A outer s H vs Q E hr h => ?_), F.bindsN fun _ _ _ _ _ _ us hl => match us, hl with | [_, _], _ => rfl, F.kp⟩
  · obtain ⟨y, p, most, ps, down, R, dn, st, r, v, m, rfl, _⟩ := h
    rfl
  · obtain ⟨y, p, most, ps, down, R, dn, st, r, v, m, rfl, hT, ok, hdl, k1, k2⟩ := h
    refine ⟨_, pss_cons (ps_if (PW.pt (pw_or (pt_cmp (pc_dnotin (by exact hr.u1) (pv 1) (pe_fld (pe_fld (pv 0) rfl) rfl))) (pw_or (pt_cmpR op_in_seq (pv 1) (pe_fld (pv 0) rfl) rfl) (pw_or1 (pt_cmpR op_ge (pe_callB call_len_seq (by rfl) T.z_len bt_len (pa_cons (pe_fld (pv 0) rfl) pa_nil)) (pe_fld (pv 0) rfl) (nomark _))))))
        (pss_one (ps_raise (by rfl) (takes_of rfl rfl rfl rfl) (pmk_bad hbad fld_name hr (pa_cons (pv 1) pa_nil) (by rfl)))) pss_nil)
      (pss_cons (ps_fld (pv 0) (pe_callTy call_tuple_of (by rfl) T.z_tuple bt_tuple (pa_cons (pe_callB (cr_sortedStr (by rfl) (by exact hr.units)) (by rfl) T.z_sorted bt_sorted (pa_cons (pe_lst (StX.pa_star (pe_fld (pv 0) rfl) (pa_cons (pv 1) pa_nil))) pa_nil)) pa_nil)) rfl)
      (pss_one (ps_ret (pe_meth0 (pv 0) T.c_Town T.m_Town_settle GS hr bS .nil pass0)))), ?_⟩
    obtain ⟨dxp, ca, ha, ra, β, ρ, h1, h2, h3, h4, h5, h6⟩ := id hT.pl
    have h2' : H ca = some (.dK (dV V.int p.chan)) := h2
    refine ⟨_, rfl, _, rfl, _, _, _, _, _, rfl, hT.at_, T.c_Town, T.a_Town_plan, rfl, _, _, _, _, _, rfl, h1, T.c_Map, T.a_Map_channels, rfl, ca, _, rfl, dgetR (k := m) (.inl h2'), _, rfl, ?_⟩
    by_cases hm : m ∈ p.masts
    · obtain ⟨u, hu⟩ := lookup_some hm
      rw [hu]
      refine itF ⟨_, rfl, _, rfl, _, _, _, _, _, rfl, hT.at_, T.c_Town, T.a_Town_down, rfl, dn, down.map V.str, rfl, .inr hT.dn, rfl, flat_strs down, _, rfl, ?_⟩
      rw [if_neg Bool.false_ne_true, inV_strs]
      refine itB (fun hd => itT ⟨_, rfl, _, rfl, fun d hd' => k2 (fun h => h.2.1 (of_decide_eq_true hd)) d hd'⟩) fun hd => ?_
      have hd' : m ∉ down := of_decide_eq_false hd
      refine ⟨_, rfl, _, _, _, _, _, rfl, hT.at_, T.c_Town, T.a_Town_down, rfl, dn, _, rfl, .inr hT.dn, _, rfl, _, _, _, _, _, rfl, hT.at_, T.c_Town, T.a_Town_most, rfl, _, _, rfl, rfl, _, rfl, ?_⟩
      rw [List.length_map]
      refine itB (fun hl => ⟨_, rfl, _, rfl, fun d hd'' => k2 (fun h => by have := of_decide_eq_true hl; omega) d hd''⟩) fun hl => ?_
      have hl' : down.length < most := by have := of_decide_eq_false hl; omega
      obtain ⟨good, kq⟩ := k1 ⟨hm, hd', hl'⟩
      refine ⟨_, rfl, _, _, _, _, _, rfl, hT.at_, T.c_Town, T.a_Town_down, rfl, dn, _, rfl, .inl hT.dn, _, rfl, ?_, fun l hl0 => ?_⟩
      · refine szN ?_
        show (down.map V.str ++ [V.str m]).length ≤ _
        rw [List.length_append, List.length_map]
        show down.length + 1 ≤ _
        omega
      have e1 : Same H (upd H l (.lst (down.map V.str ++ [V.str m]))) := Same.new hl0
      have hl1 : upd H l (.lst (down.map V.str ++ [V.str m])) l = some (.lst ((down ++ [m]).map V.str)) := by rw [upd_same, List.map_append]; rfl
      obtain ⟨H1, eH1⟩ : ∃ H1, H1 = upd H l (.lst (down.map V.str ++ [V.str m])) := ⟨_, rfl⟩
      rw [← eH1] at hl1 e1
      rw [← eH1]
      refine ⟨l, down ++ [m], rfl, .inl (sqL hl1), by rw [List.length_append]; show down.length + 1 ≤ _; omega, fun q hq => ⟨q, _, rfl, .inl ⟨sqL upd_same, fun t ht => ?_⟩⟩⟩
      have e2 := ((e1.trans (Same.new (o := .lst ((sortS (down ++ [m])).map V.str)) hq)).upd (o := .tup ((sortS (down ++ [m])).map V.str)) ht)
      obtain ⟨H2, eH2⟩ : ∃ H2, H2 = upd (upd H1 q (.lst ((sortS (down ++ [m])).map V.str))) t (.tup ((sortS (down ++ [m])).map V.str)) := ⟨_, rfl⟩
      have h2t : H2 t = some (.tup ((sortS (down ++ [m])).map V.str)) := by rw [eH2]; exact upd_same
      rw [← eH2] at e2
      rw [← eH2]
      have hT2 := hT.same e2
      refine ⟨_, rfl, y.tw, _, y.dx, _, rfl, hT2.at_, T.c_Town, T.a_Town_down, (by show 7 < 1000; decide), ?_⟩
      have t3 := hT2.down (dn' := t) (down' := sortS (down ++ [m])) (sqT h2t)
      have o3 := (Off.same (A := (· = y.tw)) e2).upd (a := y.tw) (o := .ins (He.ga K "Town") y.dx [("plan", .ref y.pl), ("most", .int (most : Int)), ("down", .ref t), ("places", .ref y.pa), ("seating", .ref st), ("refused", .int r), ("moved", .int v)]) rfl
      refine ⟨_, rfl, y.tw, y.dx, _, rfl, t3.at_, rfl, y, p, most, ps, sortS (down ++ [m]), R, t, st, r, v, rfl, t3, ok, good.pok, ?_, good.sok, good.sok2, good.fits, fun H' R' st' v' q M o4 h0 hT3 full hq => kq H' R' t st' v' q M (o3.trans o4) (none_off o3 (fun b hb => some_at hb t3.at_) h0) hT3 full hq⟩
      rw [(sortS_perm _).length_eq, List.length_append]
      show down.length + 1 ≤ _
      omega
    · rw [show p.chan.lookup m = none from lookup_none hm]
      exact itT (itT ⟨_, rfl, _, rfl, fun d hd => k2 (fun h => hm h.1) d hd⟩)
def spRise (K : PySem.W.Frag) : Sp := fun vs H Q E => ∃ (y : TAd) (p : Plan) (most : Nat) (ps : List (Str × Str)) (down : List Str) (R : List (Str × Str)) (dn st : Addr) (r v : Int) (m : Str), vs = [.ref y.tw, .str m] ∧ TownF K H y p most ps down R dn st r v ∧ p.Ok ∧ down.length ≤ 900 ∧
  (m ∈ down → Good p ps (down.filter fun x => decide (x ≠ m)) ∧ ∀ H' R' dn' st' v' q M, Off (· = y.tw) H H' → H st' = none → TownF K H' y p most ps (down.filter fun x => decide (x ≠ m)) R' dn' st' r v' → Full (townScn p ps (down.filter fun x => decide (x ≠ m))).sorted R' → H' q = some (.tup (List.map V.str M)) → Q (.ref q) H') ∧
  (m ∉ down → ∀ d, H d = none → E (.ref (He.ga K "BadName")) (some d) (upd H d (.xd [("name", .str m)])))
theorem ok_rise (T : Txt P w K mg) : Has P w K mg base (L2.CX P w) 9 (He.fAd K ("Town", some "rise")) ["self", "mast"] (spRise K) := by
  obtain ⟨fd, F⟩ := T.d_TownRise
  obtain ⟨fdS, GS, bS, kS⟩ := ok_settle (base := base) T
  obtain ⟨fI, cc, cda, hbad⟩ := T.badName
  have sc : FnScope ["self", "mast", "one"] ["self", "mast"] (defScope sTownRise) := ⟨rfl, rfl, rfl, by decide +kernel, rfl, by decide +kernel, by decide +kernel⟩
  refine ⟨fd, F.ok sc (fun vs H Q E h => ?_) (fun cdv A outer s H vs Q E hr h => ?_), F.bindsN fun _ _ _ _ _ _ us hl => match us, hl with | [_, _], _ => rfl, F.kp⟩
  · obtain ⟨y, p, most, ps, down, R, dn, st, r, v, m, rfl, _⟩ := h
    rfl
  · obtain ⟨y, p, most, ps, down, R, dn, st, r, v, m, rfl, hT, ok, hdl, k1, k2⟩ := h
    refine ⟨_, pss_cons (ps_if (pt_cmpR op_notIn_seq (pv 1) (pe_fld (pv 0) rfl) rfl)
        (pss_one (ps_raise (by rfl) (takes_of rfl rfl rfl rfl) (pmk_bad hbad fld_name hr (pa_cons (pv 1) pa_nil) (by rfl)))) pss_nil)
      (pss_cons (ps_fld (pv 0) (pe_callTy call_tuple_of (by rfl) T.z_tuple bt_tuple (pa_cons (pe_lc (own := [("one", 2)]) (by rfl) sc.nd (pi_tup (pe_fld (pv 0) rfl))
          (by exact blk_ok (N := ["self", "mast", "one"]) (sc := defScope sTownRise) (by decide +kernel)) (fun _ _ _ _ _ => pg_name (i := 2) sc.nd rfl (Or.inl rfl)) (fun _ _ _ _ _ => pts_one (pt_cmpR op_ne (pv 2) (pv 1) (nomark _))) (fun _ _ _ _ _ => pv 2)) pa_nil)) rfl)
      (pss_one (ps_ret (pe_meth0 (pv 0) T.c_Town T.m_Town_settle GS hr bS .nil pass0)))), ?_⟩
    refine ⟨_, rfl, _, rfl, _, _, _, _, _, rfl, hT.at_, T.c_Town, T.a_Town_down, rfl, dn, down.map V.str, rfl, .inr hT.dn, rfl, flat_strs down, _, rfl, ?_⟩
    show if (if true = true then !inV (.str m) (down.map V.str) else inV (.str m) (down.map V.str)) = true then _ else _
    rw [if_pos rfl, inV_strs]
    by_cases hm : m ∈ down
    · rw [decide_eq_true hm]
      obtain ⟨good, kq⟩ := k1 hm
      refine itF ⟨_, rfl, _, _, _, _, _, rfl, hT.at_, T.c_Town, T.a_Town_down, rfl, dn, rfl, ⟨_, hT.dn⟩, fun D hD => ?_⟩
      refine lc_list down walk_tupM (fun x => decide (x ≠ m)) V.str hD (by omega) (fun H' e => e.seqT hT.dn) ?_ ?_
      · intro i a z H' H9 ha e yy
        obtain ⟨rfl, rfl⟩ := yat_map ha yy
        refine ⟨Same.refl _, fun Rr' S' hR hS => ⟨rfl, _, rfl, _, rfl, rfl, _, rfl, ?_⟩⟩
        have ed : (!decide (V.str a = V.str m)) = decide (a ≠ m) := by simp
        rw [ed]
        exact itB (fun hc => ⟨_, rfl, hR _ (Same.refl _) hc⟩) fun hc => hS _ (Same.refl _) hc
      · intro H1 e1 hDl
        refine ⟨D, _, rfl, .inl ⟨sqL hDl, fun t ht => ?_⟩⟩
        obtain ⟨dn', edn⟩ : ∃ d', d' = down.filter fun x => decide (x ≠ m) := ⟨_, rfl⟩
        rw [← edn] at hDl good kq
        rw [← edn]
        have e2 := e1.upd (o := .tup (dn'.map V.str)) ht
        obtain ⟨H2, eH2⟩ : ∃ H2, H2 = upd H1 t (.tup (dn'.map V.str)) := ⟨_, rfl⟩
        have h2t : H2 t = some (.tup (dn'.map V.str)) := by rw [eH2]; exact upd_same
        rw [← eH2] at e2
        rw [← eH2]
        have hT2 := hT.same e2
        refine ⟨_, rfl, y.tw, _, y.dx, _, rfl, hT2.at_, T.c_Town, T.a_Town_down, (by show 7 < 1000; decide), ?_⟩
        have t3 := hT2.down (dn' := t) (down' := dn') (sqT h2t)
        have o3 := (Off.same (A := (· = y.tw)) e2).upd (a := y.tw) (o := .ins (He.ga K "Town") y.dx [("plan", .ref y.pl), ("most", .int (most : Int)), ("down", .ref t), ("places", .ref y.pa), ("seating", .ref st), ("refused", .int r), ("moved", .int v)]) rfl
        have hdl2 : dn'.length ≤ 1000 := by
          rw [edn]
          have := List.length_filter_le (fun x => decide (x ≠ m)) down
          omega
        exact ⟨_, rfl, y.tw, y.dx, _, rfl, t3.at_, rfl, y, p, most, ps, dn', R, t, st, r, v, rfl, t3, ok, good.pok, hdl2, good.sok, good.sok2, good.fits, fun H' R' st' v' q M o4 h0 hT3 full hq => kq H' R' t st' v' q M (o3.trans o4) (none_off o3 (fun b hb => some_at hb t3.at_) h0) hT3 full hq⟩
    · rw [decide_eq_false hm]
      exact itT ⟨_, rfl, _, rfl, fun d hd => k2 hm d hd⟩
end
end MC
end
section
set_option Elab.async false
set_option linter.all false
set_option maxRecDepth 100000
set_option maxHeartbeats 4000000
/-! The defs, 33: Town: begin. -/
namespace MC
open PySem PySem.Spec PyProof.Rows L2
/-- the map is apart from towns and from dicts of texts -/
theorem PlanAt.offP {K : PySem.W.Frag} {H H' : Hp} {pl : Addr} {p : Plan} {A : Addr → Prop} (h : PlanAt K H pl p) (hc : p.chan ≠ []) (hz : p.heard ≠ []) (o : Off A H H') (ha : ∀ b, A b → (∃ C dx fs, H b = some (.ins C dx fs) ∧ fs.length ≠ 3) ∨ ∃ (l : List (Str × Str)), H b = some (.dK (dV V.str l))) : PlanAt K H' pl p := by
  obtain ⟨dxp, ca, hb, ra, β, ρ, h1, h2, h3, h4, h5, h6⟩ := h
  have off : ∀ {b : Addr} {u : HO}, H b = some u → (∀ C dx fs, u = .ins C dx fs → fs.length = 3) → (∀ (l : List (Str × Str)), u ≠ .dK (dV V.str l)) → H' b = some u := fun {b u} q g1 g2 => o _ _ (fun e => by
    rcases ha b e with ⟨C, dx, fs, z, hl⟩ | ⟨l, z⟩
    · rw [q] at z
      exact hl (g1 C dx fs (Option.some.inj z))
    · rw [q] at z
      exact g2 l (Option.some.inj z)) q
  refine ⟨dxp, ca, hb, ra, β, ρ, off h1 (fun C dx fs z => ?_) (fun l z => by cases z), off h2 (fun C dx fs z => by cases z) (fun l z => ?_), off h3 (fun C dx fs z => by cases z) (fun l z => ?_), off h4 (fun C dx fs z => by cases z) (fun l z => by cases z), fun x hx => off (h5 x hx) (fun C dx fs z => by cases z) (fun l z => by cases z), fun x hx => off (h6 x hx) (fun C dx fs z => by cases z) (fun l z => by cases z)⟩
  · injection z with _ _ z
    rw [← z]
    rfl
  · injection z with z
    cases hc' : p.chan with
    | nil => exact hc hc'
    | cons d r =>
      rw [hc'] at z
      cases l with
      | nil => cases z
      | cons e l =>
        injection z with z
        injection z with _ z
        cases z
  · injection z with z
    cases hc' : p.heard with
    | nil => exact hz hc'
    | cons d r =>
      rw [hc'] at z
      cases l with
      | nil => cases z
      | cons e l =>
        injection z with z
        injection z with _ z
        cases z
theorem nodup_inr {l : List Str} (h : l.Nodup) : (l.map (Sum.inr : Str → Key)).Nodup := by
  induction l with
  | nil => exact List.nodup_nil
  | cons a l ih =>
    rw [List.nodup_cons] at h
    rw [List.map_cons, List.nodup_cons]
    refine ⟨fun hm => ?_, ih h.2⟩
    obtain ⟨x, hx, e⟩ := List.mem_map.mp hm
    exact h.1 (Sum.inr.inj e ▸ hx)
theorem putL_none {l : List (Str × Str)} {n z : Str} (h : n ∉ keysL l) : putL l n z = l ++ [(n, z)] := if_neg h
theorem seqT_dK {K : PySem.W.Frag} {H H' : Hp} {a d : Addr} {xs : List V} {kvs : List (Key × V)} (h : SqT K H a xs) (o : Off (· = d) H H') (ht : H d = some (.dK kvs)) : SqT K H' a xs := by
  rcases h with (q | ⟨ob, q⟩) | q
  · exact .inl (.inl (o _ _ (fun e => by rw [e, ht] at q; cases q) q))
  · exact .inl (.inr ⟨ob, o _ _ (fun e => by rw [e, ht] at q; cases q) q⟩)
  · exact .inr q
section
variable {P : Program} {w : World} {K : PySem.W.Frag} {mg : Str → Option Value} {base : Heap}
def spBegin (K : PySem.W.Frag) : Sp := fun vs H Q E => ∃ (y : TAd) (p : Plan) (most : Nat) (ps : List (Str × Str)) (down : List Str) (R : List (Str × Str)) (dn st : Addr) (r v : Int) (n z : Str), vs = [.ref y.tw, .str n, .str z] ∧ TownF K H y p most ps down R dn st r v ∧ p.Ok ∧ p.chan ≠ [] ∧ p.heard ≠ [] ∧ PlOk p ps ∧ ps.length ≤ 90 ∧ most ≤ 1 ∧ n.length ≤ 10000 ∧ down.length ≤ 1000 ∧ y.pa ≠ st ∧
  (isNameB n = true ∧ n ∉ keysL ps ∧ z ∈ p.zones ∧ p.Safe (putL ps n z) most → Good p (putL ps n z) down ∧ ∀ H' R' st' v', Off y.mut H H' → H st' = none → TownF K H' y p most (putL ps n z) down R' dn st' r v' → Full (townScn p (putL ps n z) down).sorted R' → Q .non H') ∧
  (isNameB n = true ∧ n ∉ keysL ps ∧ z ∈ p.zones ∧ ¬ p.Safe (putL ps n z) most → ∀ H' q, Off (· = y.tw) H H' → TownF K H' y p most ps down R dn st (r + 1) v → Q (.ref q) H') ∧
  (¬ (isNameB n = true ∧ n ∉ keysL ps) → ∀ H' d, Same H H' → H' d = none → E (.ref (He.ga K "BadName")) (some d) (upd H' d (.xd [("name", .str n)]))) ∧
  (isNameB n = true ∧ n ∉ keysL ps ∧ z ∉ p.zones → ∀ H' d, Same H H' → H' d = none → E (.ref (He.ga K "BadName")) (some d) (upd H' d (.xd [("name", .str z)])))
theorem ok_begin (T : Txt P w K mg) : Has P w K mg base (L2.CX P w) 9 (He.fAd K ("Town", some "begin")) ["self", "name", "zone"] (spBegin K) := by
  obtain ⟨fd, F⟩ := T.d_TownBegin
  obtain ⟨fdN, GN, bN, kN⟩ := ok_isName (base := base) T
  obtain ⟨fdD, GD, bD, kD⟩ := ok_dangerFor (base := base) T
  obtain ⟨fdS, GS, bS, kS⟩ := ok_settle (base := base) T
  obtain ⟨fI, cc, cda, hbad⟩ := T.badName
  have sc : FnScope ["self", "name", "zone", "found"] ["self", "name", "zone"] (defScope sTownBegin) := ⟨rfl, rfl, rfl, by decide +kernel, rfl, by decide +kernel, by decide +kernel⟩
  refine ⟨fd, F.ok sc (fun vs H Q E h => ?_) (fun cdv A outer s H vs Q E hr h => ?_), F.bindsN fun _ _ _ _ _ _ us hl => match us, hl with | [_, _, _], _ => rfl, F.kp⟩
  · obtain ⟨y, p, most, ps, down, R, dn, st, r, v, n, z, rfl, _⟩ := h
    rfl
  · obtain ⟨y, p, most, ps, down, R, dn, st, r, v, n, z, rfl, hT, ok, hcne, hzne, pok, hpl, hm1, hnl, hdl, hne, k1, k2, k3, k4⟩ := h
    refine ⟨_, pss_cons (ps_if (PW.pt (pw_or (pt_not (pt_val (pe_call GN (hr.mono (by decide)) (by rfl) T.g_is_name kN bN .nil pass0 (pa_cons (pv 1) pa_nil)))) (pw_or1 (pt_cmp (pc_din (by exact hr.u1) (pv 1) (pe_fld (pv 0) rfl))))))
        (pss_one (ps_raise (by rfl) (takes_of rfl rfl rfl rfl) (pmk_bad hbad fld_name hr (pa_cons (pv 1) pa_nil) (by rfl)))) pss_nil)
      (pss_cons (ps_if (pt_cmp (pc_dnotin (by exact hr.u1) (pv 2) (pe_fld (pe_fld (pv 0) rfl) rfl)))
        (pss_one (ps_raise (by rfl) (takes_of rfl rfl rfl rfl) (pmk_bad hbad fld_name hr (pa_cons (pv 2) pa_nil) (by rfl)))) pss_nil)
      (pss_cons (ps_set (i := 3) sc.nd rfl (Or.inl rfl) (pe_call GD (hr.mono (by decide)) (by rfl) T.g_danger_for kD bD .nil pass0 (pa_cons (pe_fld (pv 0) rfl) (pa_cons (pe_dispStar (pe_fld (pv 0) rfl) (pv 1) (pv 2)) (pa_cons (pe_fld (pv 0) rfl) pa_nil)))))
      (pss_cons (ps_if (pt_cmp (pc_isN (pv 3)))
        (pss_cons (ps_dput (by exact hr.u1) (pe_fld (pv 0) rfl) (pv 1) (pv 2) rfl) (pss_one (ps_expr (pe_meth0 (pv 0) T.c_Town T.m_Town_settle GS hr bS .nil pass0))))
        (pss_one (ps_fldaug (pv 0) pe_int in_add)))
      (pss_one (ps_ret (pv 3)))))), ?_⟩
    obtain ⟨dxp, ca, ha, ra, β, ρ, h1, h2, h3, h4, h5, h6⟩ := id hT.pl
    have h3' : H ha = some (.dK (dV (fun x : Addr => V.ref x) (p.heard.map fun h => (h.1, β h.1)))) := by
      rw [h3]
      show some (HO.dK ((p.heard.map _).map _)) = some (HO.dK (((p.heard.map _).map _).map _))
      rw [List.map_map, List.map_map, List.map_map]
      rfl
    have hzk : keysL (p.heard.map fun h => (h.1, β h.1)) = p.zones := keysL_map _ _
    refine ⟨_, rfl, n, rfl, hnl, fun H1 e1 => ⟨_, rfl, ?_⟩⟩
    have hT1 := hT.same e1
    by_cases hn : isNameB n = true
    · rw [hn]
      refine itF ⟨_, rfl, _, rfl, _, _, _, _, _, rfl, hT1.at_, T.c_Town, T.a_Town_places, rfl, y.pa, _, rfl, dgetR (k := n) (.inl hT1.pa), _, rfl, ?_⟩
      by_cases hin : n ∈ keysL ps
      · obtain ⟨u, hu⟩ := mem_keysL.mp hin
        rw [hu]
        exact itT ⟨_, rfl, _, rfl, fun d hd => k3 (fun h => h.2 hin) _ d e1 hd⟩
      · rw [lookup_none_iff.mpr hin]
        refine itF ⟨_, rfl, _, rfl, _, _, _, _, _, rfl, hT1.at_, T.c_Town, T.a_Town_plan, rfl, _, _, _, _, _, rfl, e1 _ _ h1, T.c_Map, T.a_Map_heard, rfl, ha, _, rfl, dgetR (k := z) (.inl (e1 _ _ h3')), _, rfl, ?_⟩
        by_cases hz : z ∈ p.zones
        · obtain ⟨u, hu⟩ := mem_keysL.mp (hzk.symm ▸ hz)
          rw [hu]
          refine itF ⟨_, rfl, _, _, _, _, _, rfl, hT1.at_, T.c_Town, T.a_Town_plan, rfl, fun D hD => ?_⟩
          have e2 : Same H1 (upd H1 D (.dK [])) := Same.new hD
          have ndp : y.pa ≠ D := ne_of_none hT1.pa hD
          have hkey : ((dV V.str ps).map (·.1)) = (keysL ps).map Sum.inr := by
            show ((ps.map _).map _).map _ = (ps.map _).map _
            rw [List.map_map, List.map_map, List.map_map]
            rfl
          have hnk : (.inr n : Key) ∉ (dV V.str ps).map (·.1) := fun h => by
            rw [hkey] at h
            obtain ⟨x, hx, ex⟩ := List.mem_map.mp h
            exact hin (Sum.inr.inj ex ▸ hx)
          have hknd : ((dV V.str ps).map (·.1)).Nodup := by
            rw [hkey]
            exact nodup_inr pok.nd
          have hlen : (dV V.str ps).length = ps.length := by
            show ((ps.map _).map _).length = _
            rw [List.length_map, List.length_map]
          refine ⟨_, rfl, _, _, _, _, _, rfl, e2 _ _ hT1.at_, T.c_Town, T.a_Town_places, rfl, y.pa, _, rfl, e2 _ _ hT1.pa, ndp, upd_same, hknd, fun q hq => ?_⟩
          have nqD : q ≠ D := fun e => by rw [e, upd_same] at hq; cases hq
          have hq0 : H1 q = none := by rw [upd_ne nqD, upd_ne nqD] at hq; exact hq
          refine ⟨_, rfl, _, rfl, .inr n, rfl, by rw [upd_ne nqD.symm]; exact upd_same, upd_same, hnk, by rw [hlen]; exact szN (by omega), ?_⟩
          have hps : (dV V.str ps ++ [((.inr n : Key), V.str z)]) = dV V.str (putL ps n z) := by
            rw [putL_none hin]
            show _ = ((ps ++ [(n, z)]).map _).map _
            rw [List.map_append, List.map_append]
            rfl
          rw [hps]
          have pok' : PlOk p (putL ps n z) := ⟨nodup_putL pok.nd, fun c hc => by
            rw [putL_none hin, List.mem_append, List.mem_singleton] at hc
            rcases hc with hc | rfl
            · exact pok.zin c hc
            · exact hz, by have := length_putL (l := ps) (k := n) (v := z); omega⟩
          obtain ⟨H2, eH2⟩ : ∃ H2, H2 = upd (upd (upd (upd (upd H1 D (.dK [])) D (.dK (dV V.str ps))) q (.dK [])) q (.dK [((.inr n : Key), V.str z)])) D (.dK (dV V.str (putL ps n z))) := ⟨_, rfl⟩
          have e3 : Same H1 H2 := fun b o hb => by
            have n1 : b ≠ D := ne_of_none hb hD
            have n2 : b ≠ q := ne_of_none hb hq0
            rw [eH2, upd_ne n1, upd_ne n2, upd_ne n2, upd_ne n1, upd_ne n1]
            exact hb
          have h2D : H2 D = some (.dK (dV V.str (putL ps n z))) := by rw [eH2]; exact upd_same
          rw [← eH2]
          have hT2 := hT1.same e3
          refine ⟨_, rfl, _, _, _, _, _, rfl, hT2.at_, T.c_Town, T.a_Town_most, rfl, y.pl, D, most, p, putL ps n z, rfl, hT2.pl, ok, .inl h2D, pok', hm1, fun safe H3 e4 => ?_, fun safe H3 q3 e4 => ?_⟩
          · obtain ⟨good, kq⟩ := k1 ⟨hn, hin, hz, safe⟩
            have hT3 := hT2.same e4
            have e03 := (e1.trans e3).trans e4
            refine ⟨_, rfl, _, rfl, itT ⟨_, rfl, _, rfl, _, _, _, _, _, rfl, hT3.at_, T.c_Town, T.a_Town_places, rfl, _, rfl, y.pa, _, rfl, dputL hT3.pa (by omega), ?_⟩⟩
            have npa : y.tw ≠ y.pa := fun e => by have := hT3.at_; rw [e, hT3.pa] at this; cases this
            have o2 : Off (· = y.pa) H3 (upd H3 y.pa (.dK (dV V.str (putL ps n z)))) := Off.upd (A := (· = y.pa)) Off.refl rfl
            have t2 : TownF K (upd H3 y.pa (.dK (dV V.str (putL ps n z)))) y p most (putL ps n z) down R dn st r v :=
              ⟨by rw [upd_ne npa]; exact hT3.at_, hT3.pl.offP hcne hzne o2 fun b hb => .inr ⟨ps, by rw [hb]; exact hT3.pa⟩, seqT_dK hT3.dn o2 hT3.pa, upd_same, by rw [upd_ne hne.symm]; exact hT3.st⟩
            have oa : Off y.mut H (upd H3 y.pa (.dK (dV V.str (putL ps n z)))) := (Off.same e03).trans (o2.mono fun x hx => .inr hx)
            exact ⟨_, rfl, y.tw, y.dx, _, rfl, t2.at_, rfl, y, p, most, putL ps n z, down, R, dn, st, r, v, rfl, t2, ok, good.pok, hdl, good.sok, good.sok2, good.fits, fun H' R' st' v' q M o3 h0 hT4 full hq => ⟨_, rfl, kq H' R' st' v' (oa.trans (o3.mono fun x hx => .inl hx)) (none_off oa (fun b hb => hb.elim (fun e => some_at e t2.at_) fun e => some_at e t2.pa) h0) hT4 full⟩⟩
          · have hT3 := hT2.same e4
            have e03 := (e1.trans e3).trans e4
            refine ⟨_, rfl, _, rfl, itF ⟨_, rfl, y.tw, _, y.dx, _, .int r, rfl, hT3.at_, T.c_Town, T.a_Town_refused, rfl, r, 1, rfl, rfl, y.dx, _, hT3.at_, (by show 7 < 1000; decide), ?_⟩⟩
            have o : ∀ {u : HO}, Off (· = y.tw) H3 (upd H3 y.tw u) := fun {u} => Off.upd (A := (· = y.tw)) Off.refl rfl
            refine ⟨_, rfl, k2 ⟨hn, hin, hz, safe⟩ _ q3 ((Off.same e03).trans o) ⟨upd_same, hT3.pl.off o hT3.at_ (by show (7 : Nat) ≠ 3; decide), seqT_off hT3.dn o hT3.at_, o _ _ (fun e => by have := hT3.at_; rw [← e, hT3.pa] at this; cases this) hT3.pa, o _ _ (fun e => by have := hT3.at_; rw [← e, hT3.st] at this; cases this) hT3.st⟩⟩
        · rw [lookup_none_iff.mpr (hzk.symm ▸ hz)]
          exact itT ⟨_, rfl, _, rfl, fun d hd => k4 ⟨hn, hin, hz⟩ _ d e1 hd⟩
    · rw [Bool.not_eq_true] at hn
      rw [hn]
      exact itT (itT ⟨_, rfl, _, rfl, fun d hd => k3 (fun h => by rw [hn] at h; exact Bool.noConfusion h.1) _ d e1 hd⟩)
end
end MC
end
section
set_option Elab.async false
set_option linter.all false
set_option maxRecDepth 100000
set_option maxHeartbeats 4000000
/-! Safe towns seat all their calls (Hall, the easy direction); what is asked of a town holds. -/
namespace MC
open PySem
theorem nodup_flat {f : Str → List Str} : ∀ {R : List Str}, R.Nodup → (∀ m ∈ R, (f m).Nodup) → (∀ m ∈ R, ∀ m' ∈ R, ∀ x, x ∈ f m → x ∈ f m' → m = m') → (R.flatMap f).Nodup
  | [], _, _, _ => List.nodup_nil
  | a :: R, hn, h1, h2 => by
    rw [List.nodup_cons] at hn
    rw [List.flatMap_cons, List.nodup_append]
    refine ⟨h1 a List.mem_cons_self, nodup_flat hn.2 (fun m hm => h1 m (.tail _ hm)) (fun m hm m' hm' => h2 m (.tail _ hm) m' (.tail _ hm')), fun x hx y hy e => ?_⟩
    subst e
    obtain ⟨m, hm, hxm⟩ := List.mem_flatMap.mp hy
    have := h2 a List.mem_cons_self m (.tail _ hm) x hx hxm
    exact hn.1 (this ▸ hm)
theorem room_le {p : Plan} {f : Str → Nat} : ∀ {R : List Str}, (∀ m ∈ R, p.chanOf m ≤ (f m : Int)) → p.room R ≤ (((R.map f).sum : Nat) : Int)
  | [], _ => Int.le_refl _
  | a :: R, h => by
    have ih := room_le (f := f) (R := R) fun m hm => h m (.tail _ hm)
    have ha := h a List.mem_cons_self
    unfold Plan.room at ih ⊢
    rw [List.map_cons, List.sum_cons, List.map_cons, List.sum_cons]
    omega
section
variable {p : Plan} {ps : List (Str × Str)} {down : List Str} {most : Nat}
theorem scn_ck (ok : p.Ok) : (keysL (townScn p ps down).chan).Nodup := (List.filter_sublist.map _).nodup ok.cn
theorem scn_lk (pok : PlOk p ps) : (keysL (townScn p ps down).calls).Nodup := by
  unfold townScn
  dsimp only
  rw [keysL_map]
  exact (List.filter_sublist.map _).nodup pok.nd
theorem scn_chan0 {m : Str} : m ∈ keysL (townScn p ps down).chan ↔ m ∈ p.masts ∧ m ∉ down := by
  unfold keysL
  constructor
  · intro h
    obtain ⟨c, hc, rfl⟩ := List.mem_map.mp h
    obtain ⟨h1, h2⟩ := List.mem_filter.mp hc
    exact ⟨List.mem_map_of_mem h1, of_decide_eq_true h2⟩
  · rintro ⟨h1, h2⟩
    obtain ⟨c, hc, rfl⟩ := List.mem_map.mp h1
    exact List.mem_map.mpr ⟨c, List.mem_filter.mpr ⟨hc, decide_eq_true h2⟩, rfl⟩
theorem scn_chan {m : Str} : m ∈ keysL (townScn p ps down).sorted.chan ↔ m ∈ p.masts ∧ m ∉ down := mem_sortL.trans scn_chan0
theorem scn_room (ok : p.Ok) {m : Str} (h : m ∈ keysL (townScn p ps down).sorted.chan) : ((townScn p ps down).sorted.chan.lookup m).getD 0 = p.chanOf m := by
  show ((sortL 0 (townScn p ps down).chan).lookup m).getD 0 = _
  rw [lookup_sortL (scn_ck ok)]
  obtain ⟨h1, h2⟩ := scn_chan.mp h
  obtain ⟨v, hv⟩ := lookup_some h1
  have hm : (m, v) ∈ (townScn p ps down).chan := List.mem_filter.mpr ⟨lookup_mem hv, decide_eq_true h2⟩
  rw [lookup_nodup (scn_ck ok) hm]
  unfold Plan.chanOf
  rw [hv]
theorem scn_call (pok : PlOk p ps) {n : Str} (h : n ∈ keysL (townScn p ps down).sorted.calls) : ∃ z, (n, z) ∈ ps ∧ p.up down z ≠ [] ∧ heardOf (townScn p ps down).sorted n = sortS (p.up down z) := by
  have h' := mem_sortL.mp h
  obtain ⟨c, hc, rfl⟩ := List.mem_map.mp h'
  obtain ⟨d, hd, rfl⟩ := List.mem_map.mp hc
  obtain ⟨h1, h2⟩ := List.mem_filter.mp hd
  refine ⟨d.2, h1, of_decide_eq_true h2, ?_⟩
  unfold heardOf
  show ((sortL [] (townScn p ps down).calls).lookup _).getD [] = _
  rw [lookup_sortL (scn_lk pok), lookup_nodup (scn_lk pok) hc]
  rfl
theorem safe_fits (ok : p.Ok) (pok : PlOk p ps) (safe : p.SafeAt ps down) : Fits (townScn p ps down).sorted := by
  intro S name sok hrd hin hname hnew ⟨R, hRn, hR1, hR2, hR3⟩
  have hcall : ∀ o, (o = name ∨ ∃ m' ∈ R, o ∈ S.seated m') → ∃ z, (o, z) ∈ ps ∧ p.up down z ≠ [] ∧ heardOf (townScn p ps down).sorted o = sortS (p.up down z) := by
    rintro o (rfl | ⟨m', hm', ho⟩)
    · exact scn_call pok hname
    · exact scn_call pok (hin o (mem_keysL.mpr ⟨_, (sok.con m' (hR1 m' hm').1 o).mp ho⟩))
  have hX : ∀ o, o ∈ name :: R.flatMap S.seated ↔ (o = name ∨ ∃ m' ∈ R, o ∈ S.seated m') := fun o => by rw [List.mem_cons, List.mem_flatMap]
  have hZ : ∀ z, z ∈ (name :: R.flatMap S.seated).filterMap (fun o => ps.lookup o) → ∃ o, (o = name ∨ ∃ m' ∈ R, o ∈ S.seated m') ∧ (o, z) ∈ ps ∧ p.up down z ≠ [] ∧ heardOf (townScn p ps down).sorted o = sortS (p.up down z) := by
    intro z hz
    obtain ⟨o, ho, hl⟩ := List.mem_filterMap.mp hz
    have ho' := (hX o).mp ho
    obtain ⟨z', h1, h2⟩ := hcall o ho'
    rw [lookup_nodup pok.nd h1] at hl
    cases hl
    exact ⟨o, ho', h1, h2⟩
  have inZ : ∀ o z, (o = name ∨ ∃ m' ∈ R, o ∈ S.seated m') → (o, z) ∈ ps → z ∈ (name :: R.flatMap S.seated).filterMap (fun o => ps.lookup o) := fun o z ho hz => List.mem_filterMap.mpr ⟨o, (hX o).mpr ho, lookup_nodup pok.nd hz⟩
  have ms : ∀ {l : List Str} {m : Str}, m ∈ sortS l ↔ m ∈ l := fun {l m} => (sortS_perm l).mem_iff
  have fam : Fam p down p.zones ((name :: R.flatMap S.seated).filterMap (fun o => ps.lookup o)) R := by
    refine ⟨?_, fun z hz => ?_, hRn, fun m => ⟨fun hm => ?_, ?_⟩⟩
    · obtain ⟨z, h1, _⟩ := hcall name (.inl rfl)
      have := inZ name z (.inl rfl) h1
      intro e
      rw [e] at this
      cases this
    · obtain ⟨o, _, h1, h2, _⟩ := hZ z hz
      exact ⟨pok.zin _ h1, h2⟩
    · obtain ⟨o, ho, hmo⟩ := hR2 m hm
      obtain ⟨z, h1, h2, h3⟩ := hcall o ho
      rw [h3] at hmo
      exact ⟨z, inZ o z ho h1, ms.mp hmo⟩
    · rintro ⟨z, hz, hmz⟩
      obtain ⟨o, ho, h1, h2, h3⟩ := hZ z hz
      exact hR3 o ho m (by rw [h3]; exact ms.mpr hmz)
  have hs := safe _ R fam
  have hsub : ∀ o ∈ name :: R.flatMap S.seated, o ∈ (ps.filter (p.hitB down R)).map (·.1) := by
    intro o ho
    obtain ⟨z, h1, h2, h3⟩ := hcall o ((hX o).mp ho)
    refine List.mem_map.mpr ⟨(o, z), List.mem_filter.mpr ⟨h1, hitB_iff.mpr ⟨z, List.mem_filter.mpr ⟨pok.zin _ h1, ?_⟩, Rch.refl⟩⟩, rfl⟩
    unfold Plan.goalB
    rw [decide_eq_true h2, Bool.true_and, List.all_eq_true]
    intro m hm
    exact decide_eq_true (hR3 o ((hX o).mp ho) m (by rw [h3]; exact ms.mpr hm))
  have hnd : (name :: R.flatMap S.seated).Nodup := by
    rw [List.nodup_cons]
    refine ⟨fun h => ?_, nodup_flat hRn (fun m hm => sok.snd m (hR1 m hm).1) fun m hm m' hm' x hx hx' => ?_⟩
    · obtain ⟨m, hm, hx⟩ := List.mem_flatMap.mp h
      exact hnew (mem_keysL.mpr ⟨_, (sok.con m (hR1 m hm).1 name).mp hx⟩)
    · have a := (sok.con m (hR1 m hm).1 x).mp hx
      have b := (sok.con m' (hR1 m' hm').1 x).mp hx'
      rw [a] at b
      exact Option.some.inj b
  have hle := nodup_le hnd hsub
  rw [List.length_map, List.length_cons, List.length_flatMap] at hle
  have hr := room_le (p := p) (f := fun m => (S.seated m).length) (R := R) fun m hm => by
    have := (hR1 m hm).2
    unfold roomB at this
    rw [scn_room ok (hR1 m hm).1] at this
    have := of_decide_eq_false this
    omega
  omega
theorem name_len {z : Str} (h : isNameB z = true) : z.length ≤ 8 := by
  unfold isNameB nameL at h
  simp only [Bool.and_eq_true, decide_eq_true_eq] at h
  exact h.2.1
theorem Scn.sorted_ok {S : Scn} (ok : S.Ok) : S.sorted.Ok := by
  refine ⟨nodup_sortL ok.cn, nodup_sortL ok.ln, fun c hc => ok.cw c ((sortL_mem ok.cn).mp hc), fun c hc => ?_, ?_, ?_⟩
  · obtain ⟨a, b, h1, h2, h3⟩ := ok.lw c ((sortL_mem ok.ln).mp hc)
    exact ⟨a, b, fun m hm => mem_sortL.mpr (h1 m hm), h2, h3⟩
  · show (sortL 0 S.chan).length ≤ _
    rw [length_sortL]
    exact ok.cl
  · show (sortL [] S.calls).length ≤ _
    rw [length_sortL]
    exact ok.ll
/-- the map, and how many may be down -/
structure PInv (p : Plan) (most : Nat) : Prop where
  ok : p.Ok
  mn : ∀ m ∈ p.masts, isNameB m = true
  zn : ∀ z ∈ p.zones, isNameB z = true
  m1 : most ≤ 1
  cne : p.chan ≠ []
  zne : p.heard ≠ []
/-- the town's calls and masts that are down -/
structure TInv (p : Plan) (most : Nat) (ps : List (Str × Str)) (down : List Str) : Prop where
  pok : PlOk p ps
  nm : ∀ c ∈ ps, isNameB c.1 = true
  safe : p.Safe ps most
  dn : down ∈ lots p.masts (min most p.chan.length)
theorem TInv.dsub (P : PInv p most) (h : TInv p most ps down) : down.length ≤ 1 ∧ ∀ m ∈ down, m ∈ p.masts := by
  have h0 := h.dn
  have hm : min most p.chan.length ≤ 1 := by have := P.m1; omega
  refine ⟨lots_sub hm _ h0, fun m hm' => ?_⟩
  unfold lots at h0
  rcases List.mem_cons.mp h0 with e | h0
  · rw [e] at hm'
    cases hm'
  · split at h0
    · cases h0
    · obtain ⟨t, ht, rfl⟩ := List.mem_map.mp h0
      rw [List.mem_singleton.mp hm']
      exact ht
theorem good_of (P : PInv p most) (h : TInv p most ps down) : Good p ps down := by
  have ok := P.ok
  have sok : (townScn p ps down).Ok := by
    refine ⟨scn_ck ok, scn_lk h.pok, fun c hc => ?_, fun c hc => ?_, ?_, ?_⟩
    · have hc' := (List.mem_filter.mp hc).1
      have hn := P.mn c.1 (List.mem_map_of_mem hc')
      exact ⟨hn, (ok.cw c hc').1, (ok.cw c hc').2, by have := name_len hn; omega⟩
    · obtain ⟨d, hd, rfl⟩ := List.mem_map.mp hc
      have hd' := (List.mem_filter.mp hd).1
      have hn := h.nm d hd'
      refine ⟨hn, by have := name_len hn; show d.1.length ≤ 10000; omega, fun m hm => ?_, (sortS_perm _).nodup_iff.mpr (Plan.up_nd ok down d.2), ?_⟩
      · exact scn_chan0.mpr (Plan.up_in ok ((sortS_perm _).mem_iff.mp hm))
      · show (sortS _).length ≤ 8
        rw [(sortS_perm _).length_eq]
        exact Plan.up_le ok down d.2
    · exact Nat.le_trans (List.length_filter_le _ _) ok.csz
    · show (List.map _ _).length ≤ _
      rw [List.length_map]
      exact Nat.le_trans (List.length_filter_le _ _) h.pok.len
  exact ⟨h.pok, sok, Scn.sorted_ok sok, safe_fits ok h.pok (h.safe _ h.dn)⟩
end
end MC
end
section
set_option Elab.async false
set_option linter.all false
set_option maxRecDepth 100000
set_option maxHeartbeats 4000000
/-! Deeds in plain terms: what they do to a town, and that what is asked of it is kept. -/
namespace MC
open PySem
inductive Deed where
  | beg (n z : Str)
  | go (n z : Str)
  | en (n : Str)
  | fal (m : Str)
  | ris (m : Str)
def Deed.row : Deed → List Str
  | .beg n z => ["begin", n, z]
  | .go n z => ["go", n, z]
  | .en n => ["end", n]
  | .fal m => ["fall", m]
  | .ris m => ["rise", m]
structure TSt where
  ps : List (Str × Str)
  down : List Str
def TSt.zero : TSt := ⟨[], []⟩
def Deed.ok (p : Plan) (most : Nat) (s : TSt) : Deed → Prop
  | .beg n z => isNameB n = true ∧ n ∉ keysL s.ps ∧ z ∈ p.zones
  | .go n z => ∃ z0, s.ps.lookup n = some z0 ∧ (z0, z) ∈ p.roads
  | .en n => n ∈ keysL s.ps
  | .fal m => m ∈ p.masts ∧ m ∉ s.down ∧ s.down.length < most
  | .ris m => m ∈ s.down
def Deed.app (s : TSt) : Deed → TSt
  | .beg n z => ⟨putL s.ps n z, s.down⟩
  | .go n z => ⟨putL s.ps n z, s.down⟩
  | .en n => ⟨delL s.ps n, s.down⟩
  | .fal m => ⟨s.ps, sortS (s.down ++ [m])⟩
  | .ris m => ⟨s.ps, s.down.filter fun x => decide (x ≠ m)⟩
def Deed.taken (p : Plan) (most : Nat) (s : TSt) : Deed → Prop
  | .beg n z => p.Safe (putL s.ps n z) most
  | _ => True
def RunOk (p : Plan) (most : Nat) : TSt → List Deed → Prop
  | _, [] => True
  | s, d :: ds => d.ok p most s ∧ d.taken p most s ∧ RunOk p most (d.app s) ds
def runD : TSt → List Deed → TSt
  | s, [] => s
  | s, d :: ds => runD (d.app s) ds
section
variable {p : Plan} {most : Nat} {s : TSt}
theorem runD_append : ∀ {a b : List Deed} {s : TSt}, runD s (a ++ b) = runD (runD s a) b
  | [], _, _ => rfl
  | _ :: a, _, _ => runD_append (a := a)
theorem runOk_append : ∀ {a b : List Deed} {s : TSt}, RunOk p most s (a ++ b) ↔ RunOk p most s a ∧ RunOk p most (runD s a) b
  | [], _, _ => ⟨fun h => ⟨trivial, h⟩, fun h => h.2⟩
  | d :: a, b, s => by
    have ih := runOk_append (a := a) (b := b) (s := d.app s)
    exact ⟨fun h => ⟨⟨h.1, h.2.1, (ih.mp h.2.2).1⟩, (ih.mp h.2.2).2⟩, fun h => ⟨h.1.1, h.1.2.1, ih.mpr ⟨h.1.2.2, h.2⟩⟩⟩
abbrev SInv (p : Plan) (most : Nat) (s : TSt) : Prop := TInv p most s.ps s.down
theorem room_nn (ok : p.Ok) : ∀ {M : List Str}, 0 ≤ p.room M
  | [] => Int.le_refl _
  | m :: M => by
    have ih := room_nn ok (M := M)
    have h : 0 ≤ p.chanOf m := by
      unfold Plan.chanOf
      cases e : p.chan.lookup m with
      | none => exact Int.le_refl _
      | some v => exact (ok.cw _ (lookup_mem e)).1
    unfold Plan.room at ih ⊢
    rw [List.map_cons, List.sum_cons]
    omega
theorem lots_nil {l : List Str} {k : Nat} : ([] : List Str) ∈ lots l k := List.mem_cons_self
theorem inv_zero (P : PInv p most) : SInv p most TSt.zero := by
  refine ⟨⟨List.nodup_nil, fun c hc => (by cases hc), Nat.zero_le _⟩, fun c hc => (by cases hc), fun falls _ Z M _ => ?_, lots_nil⟩
  exact room_nn P.ok
theorem putL_new {l : List (Str × Str)} {n z : Str} (h : n ∉ keysL l) : putL l n z = l ++ [(n, z)] := if_neg h
theorem sort_one (m : Str) : sortS [m] = [m] := by
  have := sortS_perm [m]
  exact List.perm_singleton.mp this
theorem step_inv (P : PInv p most) (h : SInv p most s) {d : Deed} (ok : d.ok p most s) (tk : d.taken p most s) (hl : s.ps.length + 1 ≤ 100) : SInv p most (d.app s) ∧ (d.app s).ps.length ≤ s.ps.length + 1 := by
  obtain ⟨hd1, hd2⟩ := h.dsub P
  have lp := @length_putL _ s.ps
  cases d with
  | beg n z =>
    obtain ⟨h1, h2, h3⟩ := ok
    have e : putL s.ps n z = s.ps ++ [(n, z)] := putL_new h2
    refine ⟨⟨⟨nodup_putL h.pok.nd, fun c hc => ?_, ?_⟩, fun c hc => ?_, tk, h.dn⟩, length_putL⟩
    · have hc : c ∈ putL s.ps n z := hc
      rw [e, List.mem_append, List.mem_singleton] at hc
      rcases hc with hc | rfl
      · exact h.pok.zin c hc
      · exact h3
    · show (putL s.ps n z).length ≤ _
      have := length_putL (l := s.ps) (k := n) (v := z)
      omega
    · have hc : c ∈ putL s.ps n z := hc
      rw [e, List.mem_append, List.mem_singleton] at hc
      rcases hc with hc | rfl
      · exact h.nm c hc
      · exact h1
  | go n z =>
    obtain ⟨z0, h1, h2⟩ := ok
    have hn : n ∈ keysL s.ps := mem_keysL.mpr ⟨_, h1⟩
    have e : putL s.ps n z = s.ps.map (fun c => if c.1 = n then (n, z) else c) := if_pos hn
    refine ⟨⟨⟨nodup_putL h.pok.nd, fun c hc => ?_, ?_⟩, fun c hc => ?_, safe_le (fun down M => hits_go h.pok.nd h1 h2) h.safe, h.dn⟩, length_putL⟩
    · have hc : c ∈ putL s.ps n z := hc
      rw [e] at hc
      obtain ⟨c0, hc0, rfl⟩ := List.mem_map.mp hc
      split
      · exact (P.ok.rin _ h2).2
      · exact h.pok.zin c0 hc0
    · show (putL s.ps n z).length ≤ _
      have := length_putL (l := s.ps) (k := n) (v := z)
      omega
    · have hc : c ∈ putL s.ps n z := hc
      rw [e] at hc
      obtain ⟨c0, hc0, rfl⟩ := List.mem_map.mp hc
      split
      · next e0 =>
        show isNameB n = true
        rw [← e0]
        exact h.nm c0 hc0
      · exact h.nm c0 hc0
  | en n =>
    have hs : (delL s.ps n).Sublist s.ps := List.filter_sublist
    refine ⟨⟨⟨(hs.map _).nodup h.pok.nd, fun c hc => h.pok.zin c (hs.subset hc), Nat.le_trans hs.length_le h.pok.len⟩, fun c hc => h.nm c (hs.subset hc), safe_le (fun down M => hits_end) h.safe, h.dn⟩, Nat.le_succ_of_le hs.length_le⟩
  | fal m =>
    obtain ⟨h1, h2, h3⟩ := ok
    have hm : most = 1 := by have := P.m1; omega
    have hdn : s.down = [] := List.length_eq_zero_iff.mp (by omega)
    refine ⟨⟨h.pok, h.nm, h.safe, ?_⟩, Nat.le_succ _⟩
    show sortS (s.down ++ [m]) ∈ _
    rw [hdn, List.nil_append, sort_one]
    have hc : 1 ≤ p.chan.length := by
      obtain ⟨c, hc, _⟩ := List.mem_map.mp h1
      exact List.length_pos_of_mem hc
    have : min most p.chan.length = 1 := by omega
    rw [this]
    unfold lots
    rw [if_neg (by decide)]
    exact List.mem_cons_of_mem _ (List.mem_map.mpr ⟨m, h1, rfl⟩)
  | ris m =>
    have hdn : s.down = [m] := by
      have h0 : m ∈ s.down := ok
      cases e : s.down with
      | nil => rw [e] at h0; cases h0
      | cons a r =>
        rw [e] at h0 hd1
        have hr : r = [] := List.length_eq_zero_iff.mp (by rw [List.length_cons] at hd1; omega)
        subst hr
        rw [List.mem_singleton.mp h0]
    refine ⟨⟨h.pok, h.nm, h.safe, ?_⟩, Nat.le_succ _⟩
    show (s.down.filter fun x => decide (x ≠ m)) ∈ _
    rw [hdn]
    have : [m].filter (fun x => decide (x ≠ m)) = [] := by simp
    rw [this]
    exact lots_nil
theorem run_inv (P : PInv p most) : ∀ {ds : List Deed} {s : TSt}, SInv p most s → RunOk p most s ds → s.ps.length + ds.length ≤ 100 → SInv p most (runD s ds) ∧ (runD s ds).ps.length ≤ s.ps.length + ds.length
  | [], _, h, _, _ => ⟨h, Nat.le_refl _⟩
  | d :: ds, s, h, r, hl => by
    rw [List.length_cons] at hl
    obtain ⟨h1, h2⟩ := step_inv P h r.1 r.2.1 (by omega)
    obtain ⟨a, b⟩ := run_inv P (ds := ds) h1 r.2.2 (by omega)
    refine ⟨a, ?_⟩
    rw [List.length_cons]
    show (runD (d.app s) ds).ps.length ≤ _
    omega
/-- a word of a line -/
def PlainW (w : Str) : Prop := w.length ≤ 8 ∧ ∀ c ∈ w.cps.toList, c ≠ 32 ∧ c ≠ 10
theorem signs_plain : ∀ c ∈ (letS ++ figS).cps.toList, c ≠ 32 ∧ c ≠ 10 := by decide +kernel
theorem name_plain {z : Str} (h : isNameB z = true) : PlainW z := by
  refine ⟨name_len h, fun c hc => ?_⟩
  unfold isNameB nameL at h
  simp only [Bool.and_eq_true, decide_eq_true_eq, List.all_eq_true] at h
  exact signs_plain c (h.2.2.2 c hc)
theorem plain_begin : PlainW "begin" := ⟨by decide +kernel, by decide +kernel⟩
theorem plain_go : PlainW "go" := ⟨by decide +kernel, by decide +kernel⟩
theorem plain_end : PlainW "end" := ⟨by decide +kernel, by decide +kernel⟩
theorem plain_fall : PlainW "fall" := ⟨by decide +kernel, by decide +kernel⟩
theorem plain_rise : PlainW "rise" := ⟨by decide +kernel, by decide +kernel⟩
def Deed.plain (d : Deed) : Prop := ∀ w ∈ d.row, PlainW w
theorem row_len (d : Deed) : 2 ≤ d.row.length ∧ d.row.length ≤ 3 := by
  cases d <;> (constructor <;> simp [Deed.row])
theorem deed_plain (P : PInv p most) (h : SInv p most s) {d : Deed} (ok : d.ok p most s) : d.plain := by
  have key : ∀ n ∈ keysL s.ps, PlainW n := fun n hn => by
    obtain ⟨c, hc, rfl⟩ := List.mem_map.mp hn
    exact name_plain (h.nm c hc)
  have two : ∀ {a b w : Str}, PlainW a → PlainW b → w ∈ [a, b] → PlainW w := fun ha hb hw => by
    rcases List.mem_cons.mp hw with rfl | hw
    · exact ha
    · rw [List.mem_singleton.mp hw]; exact hb
  have three : ∀ {a b c w : Str}, PlainW a → PlainW b → PlainW c → w ∈ [a, b, c] → PlainW w := fun ha hb hc hw => by
    rcases List.mem_cons.mp hw with rfl | hw
    · exact ha
    · exact two hb hc hw
  intro w hw
  cases d with
  | beg n z => exact three plain_begin (name_plain ok.1) (name_plain (P.zn z ok.2.2)) hw
  | go n z =>
    obtain ⟨z0, h1, h2⟩ := ok
    exact three plain_go (key n (mem_keysL.mpr ⟨_, h1⟩)) (name_plain (P.zn z (P.ok.rin _ h2).2)) hw
  | en n => exact two plain_end (key n ok) hw
  | fal m => exact two plain_fall (name_plain (P.mn m ok.1)) hw
  | ris m => exact two plain_rise (name_plain (P.mn m ((h.dsub P).2 m ok))) hw
theorem runOk_plain (P : PInv p most) : ∀ {ds : List Deed} {s : TSt}, SInv p most s → RunOk p most s ds → s.ps.length + ds.length ≤ 100 → ∀ d ∈ ds, d.plain
  | [], _, _, _, _, d, hd => by cases hd
  | d0 :: ds, s, h, r, hl, d, hd => by
    rw [List.length_cons] at hl
    obtain ⟨h1, h2⟩ := step_inv P h r.1 r.2.1 (by omega)
    rcases List.mem_cons.mp hd with rfl | hd
    · exact deed_plain P h r.1
    · exact runOk_plain P h1 r.2.2 (by omega) d hd
theorem runOk_take {ds : List Deed} {s : TSt} (h : RunOk p most s ds) (k : Nat) : RunOk p most s (ds.take k) := by
  rw [← List.take_append_drop k ds] at h
  exact (runOk_append.mp h).1
end
end MC
end
section
set_option Elab.async false
set_option linter.all false
set_option maxRecDepth 100000
set_option maxHeartbeats 4000000
/-! The defs, 27: town_line. -/
namespace MC
open PySem PySem.Spec PyProof.Rows L2
/-- a deed's line -/
def lineOf (n : Nat) (deed : List Str) : Str := Txt.join " " ((toString (n : Int) : Str) :: (deed ++ [(toString (n : Int) : Str)]))
theorem numLen : ∀ n : Nat, n < 1001 → ((toString (n : Int) : Str)).length ≤ 4 := by decide +kernel
section
variable {P : Program} {w : World} {K : PySem.W.Frag} {mg : Str → Option Value} {base : Heap}
def spTownLine (K : PySem.W.Frag) : Sp := fun vs H Q _ => ∃ (dd : Addr) (n : Nat) (deed : List Str), vs = [.int (n : Int), .ref dd] ∧ SqT K H dd (deed.map V.str) ∧ deed.length ≤ 10 ∧ n ≤ 1000 ∧ (∀ d ∈ deed, d.length ≤ 1000) ∧ ∀ H', Same H H' → Q (.str (lineOf n deed)) H'
theorem ok_townLine (T : Txt P w K mg) : Has P w K mg base CX0 1 (He.fAd K ("town_line", none)) ["number", "deed"] (spTownLine K) := by
  obtain ⟨fd, F⟩ := T.d_TownLine
  have sc : FnScope ["number", "deed"] ["number", "deed"] (defScope sTownLine) := ⟨rfl, rfl, rfl, by decide +kernel, rfl, by decide +kernel, by decide +kernel⟩
  refine ⟨fd, F.ok sc (fun vs H Q E h => ?_) (fun cdv A outer s H vs Q E hr h => ?_), F.bindsN fun _ _ _ _ _ _ us hl => match us, hl with | [_, _], _ => rfl, F.kp⟩
  · obtain ⟨dd, n, deed, rfl, _⟩ := h
    rfl
  · obtain ⟨dd, n, deed, rfl, hd, hl, hn, hdl, k⟩ := h
    refine ⟨_, pss_one (ps_ret (pe_bm PySem.F.plainAttrs_str PySem.F.slot_str_join PySem.F.type_str_join mt_join pe_str (pa_cons (pe_lst (pa_cons (pe_callTy call_str_int (by rfl) T.z_str bt_str (pa_cons (pv 0) pa_nil)) (StX.pa_star (pv 1) (pa_cons (pe_callTy call_str_int (by rfl) T.z_str bt_str (pa_cons (pv 0) pa_nil)) pa_nil)))) pa_nil))), ?_⟩
    have hlog : (n : Int).natAbs.log2 < 1920 := by
      rw [Int.natAbs_natCast]
      exact Nat.lt_of_le_of_lt (Nat.log2_le_self n) (by omega)
    refine ⟨?_, _, rfl, (n : Int), rfl, hlog, _, rfl, dd, deed.map V.str, rfl, ?_, _, rfl, (n : Int), rfl, hlog, ?_, fun l hl0 => ?_⟩
    · rfl
    · exact .inl hd
    · refine szN ?_
      rw [List.length_cons, List.length_append, List.length_map]
      show deed.length + 1 + 1 ≤ _
      omega
    · refine ⟨" ", l, (toString (n : Int) : Str) :: (deed ++ [(toString (n : Int) : Str)]), rfl, rfl, .inl (sqL ?_), ?_, k _ (Same.new hl0)⟩
      · rw [upd_same, List.map_cons, List.map_append]
        rfl
      · have h4 := numLen n (by omega)
        have hs : (deed.map (·.length)).sum ≤ deed.length * 1000 := sum_le hdl
        have hsum : (((toString (n : Int) : Str) :: (deed ++ [(toString (n : Int) : Str)])).map (·.length)).sum = (toString (n : Int) : Str).length + ((deed.map (·.length)).sum + (toString (n : Int) : Str).length) := by
          rw [List.map_cons, List.sum_cons, List.map_append, List.sum_append]
          simp
        rw [hsum, List.length_cons, List.length_append]
        have h1 : (" " : Str).length = 1 := by decide +kernel
        rw [h1]
        simp only [List.length_singleton]
        have : deed.length * 1000 ≤ 10 * 1000 := Nat.mul_le_mul_right _ hl
        omega
end
end MC
end
section
set_option Elab.async false
set_option linter.all false
set_option maxRecDepth 100000
set_option maxHeartbeats 4000000
/-! The defs, 28: TownJournal.sync. -/
namespace MC
open PySem PySem.Spec PyProof.Rows L2
/-- the journal as it lies -/
def jourO (K : PySem.W.Frag) (dx tw : Addr) (text loose : Str) (many : Nat) : HO := .ins (He.ga K "TownJournal") dx [("town", .ref tw), ("text", .str text), ("loose", .str loose), ("many", .int (many : Int))]
section
variable {P : Program} {w : World} {K : PySem.W.Frag} {mg : Str → Option Value} {base : Heap}
def spSync (K : PySem.W.Frag) : Sp := fun vs H Q _ => ∃ (jo dx tw : Addr) (text loose : Str) (many : Nat), vs = [.ref jo] ∧ H jo = some (jourO K dx tw text loose many) ∧ text.length + loose.length ≤ 1000000 ∧ Q .non (upd H jo (jourO K dx tw (text ++ loose) "" many))
theorem ok_sync (T : Txt P w K mg) : Has P w K mg base CX0 1 (He.fAd K ("TownJournal", some "sync")) ["self"] (spSync K) := by
  obtain ⟨fd, F⟩ := T.d_TownJournalSync
  have sc : FnScope ["self"] ["self"] (defScope sTownJournalSync) := ⟨rfl, rfl, rfl, by decide +kernel, rfl, by decide +kernel, by decide +kernel⟩
  refine ⟨fd, F.ok sc (fun vs H Q E h => ?_) (fun cdv A outer s H vs Q E hr h => ?_), F.bindsN fun _ _ _ _ _ _ us hl => match us, hl with | [_], _ => rfl, F.kp⟩
  · obtain ⟨jo, dx, tw, text, loose, many, rfl, _⟩ := h
    rfl
  · obtain ⟨jo, dx, tw, text, loose, many, rfl, hj, hl, k⟩ := h
    refine ⟨_, PSs.nox (pss_cons (ps_fld (pv 0) (pe_op op_add_str (pe_fld (pv 0) rfl) (pe_fld (pv 0) rfl)) rfl) (pss_one (ps_fld (pv 0) pe_str rfl))), ?_⟩
    refine ⟨_, rfl, jo, _, dx, _, _, rfl, hj, T.c_TownJournal, T.a_TownJournal_text, rfl, _, rfl, jo, _, dx, _, _, rfl, hj, T.c_TownJournal, T.a_TownJournal_loose, rfl, text, loose, rfl, rfl, ?_, ?_⟩
    · rw [sizeLine_eq]; omega
    refine ⟨_, rfl, jo, _, dx, _, rfl, hj, T.c_TownJournal, T.a_TownJournal_text, (by show 4 < 1000; decide), ?_⟩
    refine ⟨_, rfl, jo, _, dx, _, rfl, upd_same, T.c_TownJournal, T.a_TownJournal_loose, (by show 4 < 1000; decide), ?_⟩
    rw [upd_upd]
    exact k
end
end MC
end
section
set_option Elab.async false
set_option linter.all false
set_option maxRecDepth 100000
set_option maxHeartbeats 4000000
/-! The defs, 34: check_deed, do_in. -/
namespace MC
open PySem PySem.Spec PyProof.Rows L2
theorem ix_kd {X : Cx} {d : Addr} {es : Array DictEntry} {n : Nat} (D : KDict X.K X.w d es n) : IxR X (fun x y H Q => ∃ (z : Str) (u0 : Value) (v0 : V), x = .ref d ∧ y = .str z ∧ PySem.W.nsIn X.K d z = some (some u0) ∧ RelV v0 u0 ∧ Q v0 H) := by
  intro value slice pins s σ H x y v u Q I rx ry h hs
  obtain ⟨z, u0, v0, rfl, rfl, e, r, q⟩ := h
  cases rx
  obtain ⟨t, rfl⟩ := ry
  exact tail_any (kd_type D I) PySem.F.slot_dict_getitem.lookup (wpAny_getItem_of (PySem.strKind_is X.prog X.w z t) (PySem.W.mapOf_K (prog := X.prog) I.kIn D.at_ D.lit) (PySem.W.find_K D.at_ e) ⟨v0, H, I.tok _, r, q⟩) hs
/-- a thing that is no deed -/
def BadDeed (H : Hp) (v : V) : Prop := (∃ z, v = .str z) ∨ ∃ (dd : Addr) (row : List Str), v = .ref dd ∧ H dd = some (.tup (row.map V.str)) ∧ (row = [] ∨ row = ([("begn" : Str), "a", "b"] : List Str) ∨ row = ([("begin" : Str), "a"] : List Str) ∨ row = ([("tick" : Str)] : List Str))
section
variable {P : Program} {w : World} {K : PySem.W.Frag} {mg : Str → Option Value} {base : Heap}
/-- how many words a deed of this word has -/
def ShpAt (K : PySem.W.Frag) (z : Str) (o : Option Int) : Prop := match o with
  | some i => ∃ t, PySem.W.nsIn K (He.ga K "SHAPES") z = some (some (.int i t))
  | none => PySem.W.nsIn K (He.ga K "SHAPES") z = some none
theorem shp_row (T : Txt P w K mg) (d : Deed) : ∃ a r, d.row = a :: r ∧ ShpAt K a (some (d.row.length : Int)) := by
  cases d with
  | beg n z => exact ⟨_, _, rfl, T.sh_begin⟩
  | go n z => exact ⟨_, _, rfl, T.sh_go⟩
  | en n => exact ⟨_, _, rfl, T.sh_end⟩
  | fal m => exact ⟨_, _, rfl, T.sh_fall⟩
  | ris m => exact ⟨_, _, rfl, T.sh_rise⟩
def spCheckDeed (K : PySem.W.Frag) : Sp := fun vs H Q E => ∃ v : V, vs = [v] ∧ ((∃ (dd : Addr) (d : Deed), v = .ref dd ∧ H dd = some (.tup (d.row.map V.str)) ∧ ∀ H', Same H H' → Q .non H') ∨
  (BadDeed H v ∧ ∀ H' d, Same H H' → H' d = none → E (.ref (He.ga K "BadName")) (some d) (upd H' d (.xd [("name", v)]))))
theorem ok_checkDeed (T : Txt P w K mg) : Has P w K mg base (L2.CX P w) 2 (He.fAd K ("check_deed", none)) ["deed"] (spCheckDeed K) := by
  obtain ⟨fd, F⟩ := T.d_CheckDeed
  obtain ⟨fI, cc, cda, hbad⟩ := T.badName
  obtain ⟨es, en, D⟩ := T.shapes
  have sc : FnScope ["deed"] ["deed"] (defScope sCheckDeed) := ⟨rfl, rfl, rfl, by decide +kernel, rfl, by decide +kernel, by decide +kernel⟩
  refine ⟨fd, F.ok sc (fun vs H Q E h => ?_) (fun cdv A outer s H vs Q E hr h => ?_), F.bindsN fun _ _ _ _ _ _ us hl => match us, hl with | [_], _ => rfl, F.kp⟩
  · obtain ⟨v, rfl, _⟩ := h
    rfl
  · obtain ⟨v, rfl, h⟩ := h
    refine ⟨_, pss_cons (ps_if (PW.pt (pw_or (pt_not (pt_val (pe_callB call_isi (by rfl) T.z_isinstance bt_isinstance (pa_cons (pv 0) (pa_cons (pe_bltn (v := .ty "tuple") (by rfl) T.z_tuple bt_tuple rfl) pa_nil)))))
        (pw_or (pt_cmpR (op_eqT (PySem.W.Tup Str) (by exact Fit.of hr (by decide))) (pv 0) (pe_tup pa_nil) (nomark _))
          (pw_or1 (pt_not (pt_val (pe_callB call_isi (by rfl) T.z_isinstance bt_isinstance (pa_cons (pe_ix ix_tup (pv 0) pe_int (fun _ _ => rfl)) (pa_cons (pe_bltn (v := .ty "str") (by rfl) T.z_str bt_str rfl) pa_nil)))))))))
        (pss_one (ps_raise (by rfl) (takes_of rfl rfl rfl rfl) (pmk_bad hbad fld_name hr (pa_cons (pv 0) pa_nil) (by rfl)))) pss_nil)
      (pss_one (ps_if (PW.pt (pw_or (pt_cmpR (op_notIn_kd D) (pe_ix ix_tup (pv 0) pe_int (fun _ _ => rfl)) (pe_glob (v := .ref (He.ga K "SHAPES")) (by rfl) T.g_SHAPES rfl) rfl)
          (pw_or1 (pt_cmpR op_ne (pe_callB call_len_seq (by rfl) T.z_len bt_len (pa_cons (pv 0) pa_nil)) (pe_ix (ix_kd D) (pe_glob (v := .ref (He.ga K "SHAPES")) (by rfl) T.g_SHAPES rfl) (pe_ix ix_tup (pv 0) pe_int (fun _ _ => rfl)) (fun _ _ => rfl)) (nomark _)))))
        (pss_one (ps_raise (by rfl) (takes_of rfl rfl rfl rfl) (pmk_bad hbad fld_name hr (pa_cons (pv 0) pa_nil) (by rfl)))) pss_nil)), ?_⟩
    have h' : ((∃ z, v = .str z) ∧ ∀ H' d, Same H H' → H' d = none → E (.ref (He.ga K "BadName")) (some d) (upd H' d (.xd [("name", v)]))) ∨ ((∃ dd : Addr, v = .ref dd ∧ H dd = some (.tup (([] : List Str).map V.str))) ∧ ∀ H' d, Same H H' → H' d = none → E (.ref (He.ga K "BadName")) (some d) (upd H' d (.xd [("name", v)]))) ∨
        ∃ (dd : Addr) (a : Str) (r : List Str) (o : Option Int), v = .ref dd ∧ H dd = some (.tup ((a :: r).map V.str)) ∧ ShpAt K a o ∧ (∀ H', Same H H' → o = some (((a :: r).length : Nat) : Int) → Q .non H') ∧
        (∀ H' d, Same H H' → H' d = none → o ≠ some (((a :: r).length : Nat) : Int) → E (.ref (He.ga K "BadName")) (some d) (upd H' d (.xd [("name", v)]))) := by
      rcases h with ⟨dd, d, rfl, hdd, k⟩ | ⟨hb, k⟩
      · obtain ⟨a, r, er, hs⟩ := shp_row T d
        rw [er] at hdd hs
        exact .inr (.inr ⟨dd, a, r, _, rfl, hdd, hs, fun H' e _ => k H' e, fun H' x _ _ hn => absurd rfl hn⟩)
      · rcases hb with ⟨z, rfl⟩ | ⟨dd, row, rfl, hdd, hrow⟩
        · exact .inl ⟨⟨z, rfl⟩, k⟩
        · rcases hrow with rfl | rfl | rfl | rfl
          · exact .inr (.inl ⟨⟨dd, rfl, hdd⟩, k⟩)
          · exact .inr (.inr ⟨dd, "begn", ["a", "b"], none, rfl, hdd, T.sh_begn, (fun H' _ z => by cases z), fun H' d e hd _ => k H' d e hd⟩)
          · exact .inr (.inr ⟨dd, "begin", ["a"], some 3, rfl, hdd, T.sh_begin, (fun H' _ z => absurd (Option.some.inj z) (by decide)), fun H' d e hd _ => k H' d e hd⟩)
          · exact .inr (.inr ⟨dd, "tick", [], none, rfl, hdd, T.sh_tick, (fun H' _ z => by cases z), fun H' d e hd _ => k H' d e hd⟩)
    clear h
    rcases h' with ⟨⟨z, rfl⟩, k⟩ | ⟨⟨dd, rfl, hdd⟩, k⟩ | ⟨dd, a, r, o, rfl, hdd, hs, kY, kN⟩
    · exact ⟨_, rfl, _, _, _, _, false, rfl, .ty _, .base (.str z), by kernel_rfl, false, rfl, itT (itT ⟨_, rfl, _, rfl, fun d hd => k _ d (Same.refl _) hd⟩)⟩
    · refine ⟨_, rfl, _, _, _, _, true, rfl, .ty _, .base (.tup hdd), by kernel_rfl, true, rfl, itF ?_⟩
      refine ⟨_, rfl, sz0, fun em hem => ⟨PySem.W.Tup.mk [], PySem.W.Tup.mk [], hv_tup (sqT (by rw [upd_ne (ne_of_none hdd hem)]; exact hdd)) ha_nil, hv_tup (sqT upd_same) ha_nil, _, rfl, ?_⟩⟩
      rw [show decide (PySem.W.Tup.mk ([] : List Str) = PySem.W.Tup.mk []) = true by simp]
      exact itT (itT ⟨_, rfl, _, rfl, fun d hd => k _ d (Same.new hem) hd⟩)
    · refine ⟨_, rfl, _, _, _, _, true, rfl, .ty _, .base (.tup hdd), by kernel_rfl, true, rfl, itF ?_⟩
      refine ⟨_, rfl, sz0, fun em hem => ⟨PySem.W.Tup.mk (a :: r), PySem.W.Tup.mk [], hv_tup (sqT (by rw [upd_ne (ne_of_none hdd hem)]; exact hdd)) (ha_strs _), hv_tup (sqT upd_same) ha_nil, _, rfl, ?_⟩⟩
      have e1 : Same H (upd H em (.tup [])) := Same.new hem
      obtain ⟨H1, eH1⟩ : ∃ H1, H1 = upd H em (.tup []) := ⟨_, rfl⟩
      rw [← eH1] at e1
      rw [← eH1]
      have h1dd := e1 _ _ hdd
      rw [show decide (PySem.W.Tup.mk (a :: r) = PySem.W.Tup.mk []) = false by simp]
      refine itF ⟨_, rfl, dd, _, 0, .str a, rfl, rfl, sqT h1dd, atI0 _ _, _, _, _, _, true, rfl, .ty _, .base (.str a), by kernel_rfl, true, rfl, itF ?_⟩
      cases o with
      | none =>
        refine ⟨_, rfl, dd, _, 0, .str a, rfl, rfl, sqT h1dd, atI0 _ _, a, none, rfl, rfl, hs, _, rfl, itT (itT ⟨_, rfl, _, rfl, fun d hd => kN _ d e1 hd (by intro z; cases z)⟩)⟩
      | some i =>
        obtain ⟨t, hs⟩ := hs
        refine ⟨_, rfl, dd, _, 0, .str a, rfl, rfl, sqT h1dd, atI0 _ _, a, some (.int i t), rfl, rfl, hs, _, rfl, itF ?_⟩
        refine ⟨_, rfl, dd, _, rfl, .inr (sqT h1dd), _, rfl, dd, _, 0, .str a, rfl, rfl, sqT h1dd, atI0 _ _, a, .int i t, .int i, rfl, rfl, hs, ⟨t, rfl⟩, rfl, _, rfl, ?_⟩
        have ev : (!decide (V.int (((a :: r).map V.str).length : Int) = V.int i)) = !decide ((((a :: r).length : Nat) : Int) = i) := by
          rw [List.length_map]
          congr 1
          exact decide_eq_decide.mpr ⟨fun h => by injection h, fun h => by rw [h]⟩
        rw [ev]
        by_cases hi : (((a :: r).length : Nat) : Int) = i
        · rw [decide_eq_true hi]
          exact itF (kY _ e1 (by rw [hi]))
        · rw [decide_eq_false hi]
          exact itT ⟨_, rfl, _, rfl, fun d hd => kN _ d e1 hd (fun z => hi (Option.some.inj z).symm)⟩
end
end MC
end
section
set_option Elab.async false
set_option linter.all false
set_option maxRecDepth 100000
set_option maxHeartbeats 4000000
/-! The defs, 35: do_in. -/
namespace MC
open PySem PySem.Spec PyProof.Rows L2
/-- a town as it lies, its seating at st -/
def TownS (K : PySem.W.Frag) (H : Hp) (y : TAd) (p : Plan) (most : Nat) (s : TSt) (st : Addr) : Prop :=
  ∃ (R : List (Str × Str)) (dn : Addr) (r v : Int), TownF K H y p most s.ps s.down R dn st r v ∧ y.pa ≠ st ∧ Full (townScn p s.ps s.down).sorted R
/-- what of a town may turn -/
def mutS (y : TAd) (st : Addr) (b : Addr) : Prop := y.mut b ∨ b = st
theorem TownS.same {K : PySem.W.Frag} {H H' : Hp} {y : TAd} {p : Plan} {most : Nat} {s : TSt} {st : Addr} (h : TownS K H y p most s st) (e : Same H H') : TownS K H' y p most s st := by
  obtain ⟨R, dn, r, v, hT, hne, full⟩ := h
  exact ⟨R, dn, r, v, hT.same e, hne, full⟩
theorem TownS.live {K : PySem.W.Frag} {H : Hp} {y : TAd} {p : Plan} {most : Nat} {s : TSt} {st : Addr} (h : TownS K H y p most s st) : ∀ b, mutS y st b → ∃ u, H b = some u := by
  obtain ⟨R, dn, r, v, hT, hne, full⟩ := h
  rintro b ((rfl | rfl) | rfl)
  · exact ⟨_, hT.at_⟩
  · exact ⟨_, hT.pa⟩
  · exact ⟨_, hT.st⟩
/-- what a deed that is done answers -/
def Deed.out (H : Hp) : Deed → V → Prop
  | .beg _ _, u => u = .non
  | _, u => ∃ q, u = .ref q
/-- a row of words that cannot be done -/
def RowBad (p : Plan) (s : TSt) (row : List Str) : Prop :=
  (∃ n z, row = [("go" : Str), n, z] ∧ n ∉ keysL s.ps) ∨ (∃ n, row = [("end" : Str), n] ∧ n ∉ keysL s.ps) ∨ (∃ m, row = [("rise" : Str), m] ∧ m ∉ s.down) ∨ (∃ n z, row = [("begin" : Str), n, z] ∧ n.length ≤ 10000 ∧ z ∉ p.zones)
theorem rowBad_row {p : Plan} {s : TSt} {row : List Str} (h : RowBad p s row) : ∃ d : Deed, d.row = row := by
  rcases h with ⟨n, z, rfl, _⟩ | ⟨n, rfl, _⟩ | ⟨m, rfl, _⟩ | ⟨n, z, rfl, _⟩
  · exact ⟨.go n z, rfl⟩
  · exact ⟨.en n, rfl⟩
  · exact ⟨.ris m, rfl⟩
  · exact ⟨.beg n z, rfl⟩
theorem dec_str (a b : Str) : decide (V.str a = V.str b) = decide (a = b) := decide_eq_decide.mpr ⟨fun h => by injection h, fun h => by rw [h]⟩
theorem atI2 {α : Type} (a b c : α) (l : List α) : atI (a :: b :: c :: l) 2 = some c := by
  have h : (2 : Int) < (l.length : Int) + 1 + 1 + 1 := by omega
  unfold atI ixN
  simp [h]
theorem wd_gb : decide (("go" : Str) = "begin") = false := by decide +kernel
theorem wd_eb : decide (("end" : Str) = "begin") = false := by decide +kernel
theorem wd_eg : decide (("end" : Str) = "go") = false := by decide +kernel
theorem wd_fb : decide (("fall" : Str) = "begin") = false := by decide +kernel
theorem wd_fg : decide (("fall" : Str) = "go") = false := by decide +kernel
theorem wd_fe : decide (("fall" : Str) = "end") = false := by decide +kernel
theorem wd_rb : decide (("rise" : Str) = "begin") = false := by decide +kernel
theorem wd_rg : decide (("rise" : Str) = "go") = false := by decide +kernel
theorem wd_re : decide (("rise" : Str) = "end") = false := by decide +kernel
theorem wd_rf : decide (("rise" : Str) = "fall") = false := by decide +kernel
section
variable {P : Program} {w : World} {K : PySem.W.Frag} {mg : Str → Option Value} {base : Heap}
def spDoIn (K : PySem.W.Frag) : Sp := fun vs H Q E => ∃ (y : TAd) (p : Plan) (most : Nat) (s : TSt) (st : Addr) (v : V), vs = [.ref y.tw, v] ∧ TownS K H y p most s st ∧ PInv p most ∧ SInv p most s ∧ s.ps.length ≤ 90 ∧
  ((∃ (dd : Addr) (d : Deed), v = .ref dd ∧ H dd = some (.tup (d.row.map V.str)) ∧ d.ok p most s ∧
      (d.taken p most s → ∀ H' st' u, Off (mutS y st) H H' → H st' = none → TownS K H' y p most (d.app s) st' → d.out H' u → Q u H') ∧
      (¬ d.taken p most s → ∀ H' q, Off (mutS y st) H H' → TownS K H' y p most s st → Q (.ref q) H')) ∨
    (∃ (dd : Addr) (row : List Str), v = .ref dd ∧ H dd = some (.tup (row.map V.str)) ∧ RowBad p s row ∧ ∀ H' d x, Same H H' → H' d = none → E (.ref (He.ga K "BadName")) (some d) (upd H' d (.xd [("name", x)]))) ∨
    (BadDeed H v ∧ ∀ H' d, Same H H' → H' d = none → E (.ref (He.ga K "BadName")) (some d) (upd H' d (.xd [("name", v)]))))
theorem ok_doIn (T : Txt P w K mg) : Has P w K mg base (L2.CX P w) 10 (He.fAd K ("do_in", none)) ["town", "deed"] (spDoIn K) := by
  obtain ⟨fd, F⟩ := T.d_DoIn
  obtain ⟨fdC, GC, bC, kC⟩ := ok_checkDeed (base := base) T
  obtain ⟨fdB, GB, bB, kB⟩ := ok_begin (base := base) T
  obtain ⟨fdG, GG, bG, kG⟩ := ok_go (base := base) T
  obtain ⟨fdE, GE, bE, kE⟩ := ok_end (base := base) T
  obtain ⟨fdF, GF, bF, kF⟩ := ok_fall (base := base) T
  obtain ⟨fdR, GR, bR, kR⟩ := ok_rise (base := base) T
  have sc : FnScope ["town", "deed"] ["town", "deed"] (defScope sDoIn) := ⟨rfl, rfl, rfl, by decide +kernel, rfl, by decide +kernel, by decide +kernel⟩
  refine ⟨fd, F.ok sc (fun vs H Q E h => ?_) (fun cdv A outer s H vs Q E hr h => ?_), F.bindsN fun _ _ _ _ _ _ us hl => match us, hl with | [_, _], _ => rfl, F.kp⟩
  · obtain ⟨y, p, most, s, st, v, rfl, _⟩ := h
    rfl
  · obtain ⟨y, p, most, s, st, v, rfl, hS, PI, SI, hpl, h⟩ := h
    refine ⟨_, pss_cons (ps_expr (pe_call GC (hr.mono (by decide)) (by rfl) T.g_check_deed kC bC .nil (passes_call (takes_of rfl rfl rfl rfl) (fun _ _ _ _ h => h)) (pa_cons (pv 1) pa_nil)))
      (pss_cons (ps_if (pt_cmpR op_eq (pe_ix ix_tup (pv 1) pe_int (fun _ _ => rfl)) pe_str (nomark _)) (pss_one (ps_ret (pe_meth (pv 0) T.c_Town T.m_Town_begin GB hr bB .nil (passes_call (takes_of rfl rfl rfl rfl) (fun _ _ _ _ h => h)) (pa_cons (pe_ix ix_tup (pv 1) pe_int (fun _ _ => rfl)) (pa_cons (pe_ix ix_tup (pv 1) pe_int (fun _ _ => rfl)) pa_nil))))) pss_nil)
      (pss_cons (ps_if (pt_cmpR op_eq (pe_ix ix_tup (pv 1) pe_int (fun _ _ => rfl)) pe_str (nomark _)) (pss_one (ps_ret (pe_meth (pv 0) T.c_Town T.m_Town_go GG hr bG .nil (passes_call (takes_of rfl rfl rfl rfl) (fun _ _ _ _ h => h)) (pa_cons (pe_ix ix_tup (pv 1) pe_int (fun _ _ => rfl)) (pa_cons (pe_ix ix_tup (pv 1) pe_int (fun _ _ => rfl)) pa_nil))))) pss_nil)
      (pss_cons (ps_if (pt_cmpR op_eq (pe_ix ix_tup (pv 1) pe_int (fun _ _ => rfl)) pe_str (nomark _)) (pss_one (ps_ret (pe_meth (pv 0) T.c_Town T.m_Town_end GE hr bE .nil (passes_call (takes_of rfl rfl rfl rfl) (fun _ _ _ _ h => h)) (pa_cons (pe_ix ix_tup (pv 1) pe_int (fun _ _ => rfl)) pa_nil)))) pss_nil)
      (pss_one (ps_ret (pe_ifExp (pt_cmpR op_eq (pe_ix ix_tup (pv 1) pe_int (fun _ _ => rfl)) pe_str (nomark _))
        (pe_meth (pv 0) T.c_Town T.m_Town_fall GF hr bF .nil (passes_call (takes_of rfl rfl rfl rfl) (fun _ _ _ _ h => h)) (pa_cons (pe_ix ix_tup (pv 1) pe_int (fun _ _ => rfl)) pa_nil))
        (pe_meth (pv 0) T.c_Town T.m_Town_rise GR hr bR .nil (passes_call (takes_of rfl rfl rfl rfl) (fun _ _ _ _ h => h)) (pa_cons (pe_ix ix_tup (pv 1) pe_int (fun _ _ => rfl)) pa_nil)))))))), ?_⟩
    have ok := PI.ok
    have hdl := (SI.dsub PI).1
    rcases h with ⟨dd, d, rfl, hdd, dok, kT, kN⟩ | ⟨dd, row, rfl, hdd, rb, kX⟩ | ⟨bad, kX⟩
    · refine ⟨_, rfl, _, rfl, .inl ⟨dd, d, rfl, hdd, fun H1 e1 => ?_⟩⟩
      have hd1 := e1 _ _ hdd
      have hS1 := hS.same e1
      obtain ⟨R, dn, r, v, hT, hne, full⟩ := hS1
      have w1 : ∀ {H' : Hp} {A : Addr → Prop}, (∀ b, A b → mutS y st b) → Off A H1 H' → Off (mutS y st) H H' := fun ha o => (Off.same e1).trans (o.mono ha)
      have n1 : ∀ {q : Addr}, H1 q = none → H q = none := fun hq => none_back e1 hq
      have step : d.taken p most s → Good p (d.app s).ps (d.app s).down := fun tk => good_of PI (step_inv PI SI dok tk (by omega)).1
      cases d with
      | beg n z =>
        obtain ⟨o1, o2, o3⟩ := dok
        refine ⟨_, rfl, dd, _, 0, .str "begin", rfl, rfl, sqT hd1, atI0 _ _, rfl, _, rfl, ?_⟩
        rw [dec_str, decide_eq_true rfl]
        refine itT ⟨_, rfl, y.tw, y.dx, _, rfl, hT.at_, rfl, _, rfl, dd, _, 1, .str n, rfl, rfl, sqT hd1, atI1 _ _ _, _, rfl, dd, _, 2, .str z, rfl, rfl, sqT hd1, atI2 _ _ _ _, ?_⟩
        have hnl := name_len o1
        refine ⟨y, p, most, s.ps, s.down, R, dn, st, r, v, n, z, rfl, hT, ok, PI.cne, PI.zne, SI.pok, hpl, PI.m1, by omega, by omega, hne, fun hh => ⟨step hh.2.2.2, fun H' R' st' v' o h0 hT' full' => ?_⟩, fun hh H' q o hT' => ?_, fun hh => absurd ⟨o1, o2⟩ hh, fun hh => absurd o3 hh.2.2⟩
        · exact kT hh.2.2.2 H' st' .non (w1 (fun b hb => .inl hb) o) (n1 h0) ⟨R', dn, r, v', hT', ne_of_none hT.pa h0, full'⟩ rfl
        · exact kN hh.2.2.2 H' q (w1 (fun b hb => .inl (.inl hb)) o) ⟨R, dn, r + 1, v, hT', hne, full⟩
      | go n z =>
        refine ⟨_, rfl, dd, _, 0, .str "go", rfl, rfl, sqT hd1, atI0 _ _, rfl, _, rfl, ?_⟩
        rw [dec_str, wd_gb]
        refine itF ⟨_, rfl, dd, _, 0, .str "go", rfl, rfl, sqT hd1, atI0 _ _, rfl, _, rfl, ?_⟩
        rw [dec_str, decide_eq_true rfl]
        refine itT ⟨_, rfl, y.tw, y.dx, _, rfl, hT.at_, rfl, _, rfl, dd, _, 1, .str n, rfl, rfl, sqT hd1, atI1 _ _ _, _, rfl, dd, _, 2, .str z, rfl, rfl, sqT hd1, atI2 _ _ _ _, ?_⟩
        obtain ⟨z0, o1, o2⟩ := id dok
        refine ⟨y, p, most, s.ps, s.down, R, dn, st, r, v, n, z, rfl, hT, ok, by omega, hne, by omega, fun _ => ⟨step trivial, fun H' R' st' v' q M o h0 hT' full' hq => ?_⟩, fun hh => absurd (mem_keysL.mpr ⟨_, o1⟩) hh, fun hh => ?_⟩
        · exact kT trivial H' st' (.ref q) (w1 (fun b hb => .inl hb) o) (n1 h0) ⟨R', dn, r, v', hT', ne_of_none hT.pa h0, full'⟩ ⟨q, rfl⟩
        · obtain ⟨z1, hz1, hz2⟩ := hh
          rw [o1] at hz1
          cases hz1
          exact absurd o2 hz2
      | en n =>
        refine ⟨_, rfl, dd, _, 0, .str "end", rfl, rfl, sqT hd1, atI0 _ _, rfl, _, rfl, ?_⟩
        rw [dec_str, wd_eb]
        refine itF ⟨_, rfl, dd, _, 0, .str "end", rfl, rfl, sqT hd1, atI0 _ _, rfl, _, rfl, ?_⟩
        rw [dec_str, wd_eg]
        refine itF ⟨_, rfl, dd, _, 0, .str "end", rfl, rfl, sqT hd1, atI0 _ _, rfl, _, rfl, ?_⟩
        rw [dec_str, decide_eq_true rfl]
        refine itT ⟨_, rfl, y.tw, y.dx, _, rfl, hT.at_, rfl, _, rfl, dd, _, 1, .str n, rfl, rfl, sqT hd1, atI1 _ _ _, ?_⟩
        refine ⟨y, p, most, s.ps, s.down, R, dn, st, r, v, n, rfl, hT, ok, by omega, hne, SI.pok.nd, full.nd, fun _ => ⟨step trivial, fun H' R' st' v' q M o h0 hT' full' hq => ?_⟩, fun hh => absurd dok hh⟩
        exact kT trivial H' st' (.ref q) (w1 (fun b hb => hb) o) (n1 h0) ⟨R', dn, r, v', hT', ne_of_none hT.pa h0, full'⟩ ⟨q, rfl⟩
      | fal m =>
        refine ⟨_, rfl, dd, _, 0, .str "fall", rfl, rfl, sqT hd1, atI0 _ _, rfl, _, rfl, ?_⟩
        rw [dec_str, wd_fb]
        refine itF ⟨_, rfl, dd, _, 0, .str "fall", rfl, rfl, sqT hd1, atI0 _ _, rfl, _, rfl, ?_⟩
        rw [dec_str, wd_fg]
        refine itF ⟨_, rfl, dd, _, 0, .str "fall", rfl, rfl, sqT hd1, atI0 _ _, rfl, _, rfl, ?_⟩
        rw [dec_str, wd_fe]
        refine itF ⟨_, rfl, dd, _, 0, .str "fall", rfl, rfl, sqT hd1, atI0 _ _, rfl, _, rfl, ?_⟩
        rw [dec_str, decide_eq_true rfl]
        refine itT ⟨_, rfl, y.tw, y.dx, _, rfl, hT.at_, rfl, _, rfl, dd, _, 1, .str m, rfl, rfl, sqT hd1, atI1 _ _ _, ?_⟩
        refine ⟨y, p, most, s.ps, s.down, R, dn, st, r, v, m, rfl, hT, ok, by omega, fun _ => ⟨step trivial, fun H' R' dn' st' v' q M o h0 hT' full' hq => ?_⟩, fun hh => absurd dok hh⟩
        exact kT trivial H' st' (.ref q) (w1 (fun b hb => .inl (.inl hb)) o) (n1 h0) ⟨R', dn', r, v', hT', ne_of_none hT.pa h0, full'⟩ ⟨q, rfl⟩
      | ris m =>
        refine ⟨_, rfl, dd, _, 0, .str "rise", rfl, rfl, sqT hd1, atI0 _ _, rfl, _, rfl, ?_⟩
        rw [dec_str, wd_rb]
        refine itF ⟨_, rfl, dd, _, 0, .str "rise", rfl, rfl, sqT hd1, atI0 _ _, rfl, _, rfl, ?_⟩
        rw [dec_str, wd_rg]
        refine itF ⟨_, rfl, dd, _, 0, .str "rise", rfl, rfl, sqT hd1, atI0 _ _, rfl, _, rfl, ?_⟩
        rw [dec_str, wd_re]
        refine itF ⟨_, rfl, dd, _, 0, .str "rise", rfl, rfl, sqT hd1, atI0 _ _, rfl, _, rfl, ?_⟩
        rw [dec_str, wd_rf]
        refine itF ⟨_, rfl, y.tw, y.dx, _, rfl, hT.at_, rfl, _, rfl, dd, _, 1, .str m, rfl, rfl, sqT hd1, atI1 _ _ _, ?_⟩
        refine ⟨y, p, most, s.ps, s.down, R, dn, st, r, v, m, rfl, hT, ok, by omega, fun _ => ⟨step trivial, fun H' R' dn' st' v' q M o h0 hT' full' hq => ?_⟩, fun hh => absurd dok hh⟩
        exact kT trivial H' st' (.ref q) (w1 (fun b hb => .inl (.inl hb)) o) (n1 h0) ⟨R', dn', r, v', hT', ne_of_none hT.pa h0, full'⟩ ⟨q, rfl⟩
    · obtain ⟨d, ed⟩ := rowBad_row rb
      refine ⟨_, rfl, _, rfl, .inl ⟨dd, d, rfl, by rw [ed]; exact hdd, fun H1 e1 => ?_⟩⟩
      have hd1 := e1 _ _ hdd
      obtain ⟨R, dn, r, v, hT, hne, full⟩ := hS.same e1
      rcases rb with ⟨n, z, rfl, hn⟩ | ⟨n, rfl, hn⟩ | ⟨m, rfl, hm⟩ | ⟨n, z, rfl, hnl, hz⟩
      · refine ⟨_, rfl, dd, _, 0, .str "go", rfl, rfl, sqT hd1, atI0 _ _, rfl, _, rfl, ?_⟩
        rw [dec_str, wd_gb]
        refine itF ⟨_, rfl, dd, _, 0, .str "go", rfl, rfl, sqT hd1, atI0 _ _, rfl, _, rfl, ?_⟩
        rw [dec_str, decide_eq_true rfl]
        refine itT ⟨_, rfl, y.tw, y.dx, _, rfl, hT.at_, rfl, _, rfl, dd, _, 1, .str n, rfl, rfl, sqT hd1, atI1 _ _ _, _, rfl, dd, _, 2, .str z, rfl, rfl, sqT hd1, atI2 _ _ _ _, ?_⟩
        refine ⟨y, p, most, s.ps, s.down, R, dn, st, r, v, n, z, rfl, hT, ok, by omega, hne, by omega, fun hh => ?_, fun _ d hd => kX _ d _ e1 hd, fun hh => ?_⟩
        · obtain ⟨z1, hz1, _⟩ := hh
          exact absurd (mem_keysL.mpr ⟨_, hz1⟩) hn
        · obtain ⟨z1, hz1, _⟩ := hh
          exact absurd (mem_keysL.mpr ⟨_, hz1⟩) hn
      · refine ⟨_, rfl, dd, _, 0, .str "end", rfl, rfl, sqT hd1, atI0 _ _, rfl, _, rfl, ?_⟩
        rw [dec_str, wd_eb]
        refine itF ⟨_, rfl, dd, _, 0, .str "end", rfl, rfl, sqT hd1, atI0 _ _, rfl, _, rfl, ?_⟩
        rw [dec_str, wd_eg]
        refine itF ⟨_, rfl, dd, _, 0, .str "end", rfl, rfl, sqT hd1, atI0 _ _, rfl, _, rfl, ?_⟩
        rw [dec_str, decide_eq_true rfl]
        refine itT ⟨_, rfl, y.tw, y.dx, _, rfl, hT.at_, rfl, _, rfl, dd, _, 1, .str n, rfl, rfl, sqT hd1, atI1 _ _ _, ?_⟩
        exact ⟨y, p, most, s.ps, s.down, R, dn, st, r, v, n, rfl, hT, ok, by omega, hne, SI.pok.nd, full.nd, fun hh => absurd hh hn, fun _ d hd => kX _ d _ e1 hd⟩
      · refine ⟨_, rfl, dd, _, 0, .str "rise", rfl, rfl, sqT hd1, atI0 _ _, rfl, _, rfl, ?_⟩
        rw [dec_str, wd_rb]
        refine itF ⟨_, rfl, dd, _, 0, .str "rise", rfl, rfl, sqT hd1, atI0 _ _, rfl, _, rfl, ?_⟩
        rw [dec_str, wd_rg]
        refine itF ⟨_, rfl, dd, _, 0, .str "rise", rfl, rfl, sqT hd1, atI0 _ _, rfl, _, rfl, ?_⟩
        rw [dec_str, wd_re]
        refine itF ⟨_, rfl, dd, _, 0, .str "rise", rfl, rfl, sqT hd1, atI0 _ _, rfl, _, rfl, ?_⟩
        rw [dec_str, wd_rf]
        refine itF ⟨_, rfl, y.tw, y.dx, _, rfl, hT.at_, rfl, _, rfl, dd, _, 1, .str m, rfl, rfl, sqT hd1, atI1 _ _ _, ?_⟩
        exact ⟨y, p, most, s.ps, s.down, R, dn, st, r, v, m, rfl, hT, ok, by omega, fun hh => absurd hh hm, fun _ d hd => kX _ d _ e1 hd⟩
      · refine ⟨_, rfl, dd, _, 0, .str "begin", rfl, rfl, sqT hd1, atI0 _ _, rfl, _, rfl, ?_⟩
        rw [dec_str, decide_eq_true rfl]
        refine itT ⟨_, rfl, y.tw, y.dx, _, rfl, hT.at_, rfl, _, rfl, dd, _, 1, .str n, rfl, rfl, sqT hd1, atI1 _ _ _, _, rfl, dd, _, 2, .str z, rfl, rfl, sqT hd1, atI2 _ _ _ _, ?_⟩
        exact ⟨y, p, most, s.ps, s.down, R, dn, st, r, v, n, z, rfl, hT, ok, PI.cne, PI.zne, SI.pok, hpl, PI.m1, hnl, by omega, hne, fun hh => absurd hh.2.2.1 hz, fun hh => absurd hh.2.2.1 hz, fun _ H' d e hd => kX _ d _ (e1.trans e) hd, fun _ H' d e hd => kX _ d _ (e1.trans e) hd⟩
    · exact ⟨_, rfl, _, rfl, .inr ⟨bad, fun H' d e hd => kX H' d e hd⟩⟩
end
end MC
end
section
set_option Elab.async false
set_option linter.all false
set_option maxRecDepth 100000
set_option maxHeartbeats 4000000
/-! The journal's text in plain terms: written, cut, read back. -/
namespace MC
open PySem PyProof.Rows L2 TL
/-- lines, each with a line feed behind it -/
def textOf : List Str → Str
  | [] => Str.empty
  | l :: r => l ++ "\n" ++ textOf r
def linesF (n : Nat) : List Deed → List Str
  | [] => []
  | d :: ds => lineOf n d.row :: linesF (n + 1) ds
theorem tl_nl : tl ("\n" : Str) = [10] := by decide +kernel
theorem tl_bl : tl (" " : Str) = [32] := by decide +kernel
theorem tl_empty : tl Str.empty = [] := rfl
theorem tl_textOf : ∀ ls : List Str, tl (textOf ls) = ls.flatMap fun l => tl l ++ [10]
  | [] => rfl
  | l :: r => by
    show tl (l ++ "\n" ++ textOf r) = _
    rw [tl_append, tl_append, tl_nl, tl_textOf r, List.flatMap_cons]
theorem textOf_append (a b : List Str) : textOf (a ++ b) = textOf a ++ textOf b := by
  refine ext_tl ?_
  rw [tl_append, tl_textOf, tl_textOf, tl_textOf, List.flatMap_append]
theorem append_empty (x : Str) : x ++ Str.empty = x := ext_tl (by rw [tl_append, tl_empty, List.append_nil])
theorem empty_append (x : Str) : Str.empty ++ x = x := ext_tl (by rw [tl_append, tl_empty, List.nil_append])
theorem append_assocS (a b c : Str) : a ++ b ++ c = a ++ (b ++ c) := ext_tl (by rw [tl_append, tl_append, tl_append, tl_append, List.append_assoc])
theorem textOf_snoc (a : List Str) (l : Str) : textOf (a ++ [l]) = textOf a ++ l ++ "\n" := by
  rw [textOf_append]
  show textOf a ++ (l ++ "\n" ++ Str.empty) = _
  rw [append_empty, append_assocS]
theorem linesF_append : ∀ (n : Nat) (a b : List Deed), linesF n (a ++ b) = linesF n a ++ linesF (n + a.length) b
  | _, [], _ => rfl
  | n, d :: a, b => by
    show lineOf n d.row :: linesF (n + 1) (a ++ b) = lineOf n d.row :: (linesF (n + 1) a ++ linesF (n + (a.length + 1)) b)
    rw [linesF_append (n + 1) a b, show n + 1 + a.length = n + (a.length + 1) by omega]
theorem linesF_length : ∀ (n : Nat) (a : List Deed), (linesF n a).length = a.length
  | _, [] => rfl
  | n, d :: a => by
    show (linesF (n + 1) a).length + 1 = a.length + 1
    rw [linesF_length (n + 1) a]
theorem linesF_take : ∀ (n k : Nat) (a : List Deed), (linesF n a).take k = linesF n (a.take k)
  | _, 0, _ => rfl
  | _, k + 1, [] => rfl
  | n, k + 1, d :: a => by
    show lineOf n d.row :: (linesF (n + 1) a).take k = lineOf n d.row :: linesF (n + 1) (a.take k)
    rw [linesF_take]
theorem linesF_get : ∀ {n i : Nat} {a : List Deed} {d : Deed}, a[i]? = some d → (linesF n a)[i]? = some (lineOf (n + i) d.row)
  | n, 0, e :: a, d, h => by
    cases h
    rfl
  | n, i + 1, e :: a, d, h => by
    have := linesF_get (n := n + 1) (i := i) (a := a) (d := d) h
    show (linesF (n + 1) a)[i]? = _
    rw [this, show n + 1 + i = n + (i + 1) by omega]
/-- the words of a line -/
def wordsOf (n : Nat) (row : List Str) : List Str := (toString (n : Int) : Str) :: (row ++ [(toString (n : Int) : Str)])
theorem lineOf_eq (n : Nat) (row : List Str) : lineOf n row = Txt.join " " (wordsOf n row) := rfl
theorem num_free {n c : Nat} (hc : c < 48) : c ∉ tl (toString (n : Int) : Str) := by
  rw [tl_num]
  exact numL_free (.inl hc)
theorem split_line {n : Nat} {row : List Str} (h : ∀ w ∈ row, PlainW w) : Txt.split (lineOf n row) " " = wordsOf n row := by
  rw [lineOf_eq]
  refine split_join (s := 32) (S := []) tl_bl (by decide +kernel) (by intro e; cases e) fun w hw => ?_
  rcases List.mem_cons.mp hw with rfl | hw
  · exact num_free (by decide)
  · rcases List.mem_append.mp hw with hw | hw
    · exact fun z => ((h w hw).2 32 z).1 rfl
    · rw [List.mem_singleton.mp hw]
      exact num_free (by decide)
theorem joinL_free {s x : Nat} (hx : x ≠ s) : ∀ {l : List (List Nat)}, (∀ w ∈ l, x ∉ w) → x ∉ joinL [s] l
  | [], _ => List.not_mem_nil
  | [p], h => h p (List.mem_singleton.mpr rfl)
  | p :: q :: r, h => by
    have ih := joinL_free hx (l := q :: r) fun w hw => h w (List.mem_cons_of_mem _ hw)
    show x ∉ p ++ ([s] ++ joinL [s] (q :: r))
    rw [List.mem_append, List.mem_append, List.mem_singleton]
    rintro (z | z | z)
    · exact h p List.mem_cons_self z
    · exact hx z
    · exact ih z
theorem line_free {n : Nat} {row : List Str} (h : ∀ w ∈ row, PlainW w) : 10 ∉ tl (lineOf n row) := by
  rw [lineOf_eq, join_eq, tl_join, tl_bl]
  refine joinL_free (by decide) fun w hw => ?_
  obtain ⟨v, hv, rfl⟩ := List.mem_map.mp hw
  rcases List.mem_cons.mp hv with rfl | hv
  · exact num_free (by decide)
  · rcases List.mem_append.mp hv with hv | hv
    · exact fun z => ((h v hv).2 10 z).2 rfl
    · rw [List.mem_singleton.mp hv]
      exact num_free (by decide)
theorem linesF_free : ∀ {n : Nat} {ds : List Deed}, (∀ d ∈ ds, d.plain) → ∀ l ∈ linesF n ds, 10 ∉ tl l
  | _, [], _, l, hl => by cases hl
  | n, d :: ds, h, l, hl => by
    rcases List.mem_cons.mp hl with rfl | hl
    · exact line_free (h d List.mem_cons_self)
    · exact linesF_free (fun x hx => h x (List.mem_cons_of_mem _ hx)) l hl
/-- a text of whole lines with a rest, split -/
theorem joinL_flat : ∀ (ls : List (List Nat)) (t : List Nat), joinL [10] (ls ++ [t]) = (ls.flatMap fun l => l ++ [10]) ++ t
  | [], _ => rfl
  | [a], t => by
    show a ++ ([10] ++ t) = ([a].flatMap fun l => l ++ [10]) ++ t
    simp
  | a :: b :: r, t => by
    have ih := joinL_flat (b :: r) t
    show a ++ ([10] ++ joinL [10] (b :: r ++ [t])) = _
    rw [ih]
    simp
theorem split_text {ls : List Str} {t : Str} (h : ∀ l ∈ ls, 10 ∉ tl l) (ht : 10 ∉ tl t) : Txt.split (textOf ls ++ t) "\n" = ls ++ [t] := by
  have e : textOf ls ++ t = Txt.join "\n" (ls ++ [t]) := by
    refine ext_tl ?_
    rw [tl_append, tl_textOf, join_eq, tl_join, tl_nl, List.map_append]
    show _ = joinL [10] (ls.map tl ++ [tl t])
    rw [joinL_flat, List.flatMap_map]
  rw [e]
  refine split_join (s := 10) (S := []) tl_nl (by decide +kernel) (by simp) fun w hw => ?_
  rcases List.mem_append.mp hw with hw | hw
  · exact h w hw
  · rw [List.mem_singleton.mp hw]
    exact ht
theorem nl_one : ("\n" : Str) = ⟨#[10]⟩ := by decide +kernel
theorem count_text {ls : List Str} {t : Str} (h : ∀ l ∈ ls, 10 ∉ tl l) (ht : 10 ∉ tl t) : Txt.count (textOf ls ++ t) "\n" = (ls.length : Int) := by
  have h1 := split_len (textOf ls ++ t) 10
  have h2 := count_is (textOf ls ++ t) 10
  rw [← nl_one, split_text h ht, List.length_append] at h1
  rw [nl_one, h2]
  unfold cnt at h1
  rw [List.length_singleton] at h1
  push_cast at h1
  omega
/-- a text cut: whole lines, and a rest -/
theorem cut_flat : ∀ (ls : List (List Nat)) (k : Nat), (∀ l ∈ ls, 10 ∉ l) → k ≤ (ls.flatMap fun l => l ++ [10]).length → ∃ j t, j ≤ ls.length ∧ 10 ∉ t ∧ (ls.flatMap fun l => l ++ [10]).take k = ((ls.take j).flatMap fun l => l ++ [10]) ++ t
  | [], k, _, _ => ⟨0, [], Nat.le_refl _, List.not_mem_nil, by simp⟩
  | a :: r, k, h, hk => by
    rw [List.flatMap_cons, List.length_append, List.length_append, List.length_singleton] at hk
    by_cases hka : k ≤ a.length
    · refine ⟨0, a.take k, Nat.zero_le _, fun z => h a List.mem_cons_self (List.mem_of_mem_take z), ?_⟩
      rw [List.flatMap_cons, List.take_append_of_le_length (by rw [List.length_append]; omega), List.take_append_of_le_length hka]
      rfl
    · obtain ⟨j, t, h1, h2, h3⟩ := cut_flat r (k - (a.length + 1)) (fun l hl => h l (List.mem_cons_of_mem _ hl)) (by omega)
      refine ⟨j + 1, t, by rw [List.length_cons]; omega, h2, ?_⟩
      rw [List.flatMap_cons, List.take_append, List.length_append, List.length_singleton, h3, List.take_succ_cons, List.flatMap_cons, List.take_of_length_le (by rw [List.length_append, List.length_singleton]; omega)]
      simp
theorem cutS_take (z : Str) (k : Nat) (hk : k ≤ z.length) : tl (cutS z none (some (k : Int))) = (tl z).take k := by
  unfold cutS
  rw [tl_mk, HT.sIx_none, HT.sIx_nat, List.drop_zero, Nat.sub_zero, Nat.min_eq_left hk]
theorem cut_text {ls : List Str} {k : Nat} (h : ∀ l ∈ ls, 10 ∉ tl l) (hk : k ≤ (textOf ls).length) : ∃ j t, j ≤ ls.length ∧ 10 ∉ tl t ∧ cutS (textOf ls) none (some (k : Int)) = textOf (ls.take j) ++ t := by
  have hk' : k ≤ ((ls.map tl).flatMap fun l => l ++ [10]).length := by
    rw [List.flatMap_map, ← tl_textOf, ← len_tl]
    exact hk
  obtain ⟨j, t, h1, h2, h3⟩ := cut_flat (ls.map tl) k (fun l hl => by
    obtain ⟨v, hv, rfl⟩ := List.mem_map.mp hl
    exact h v hv) hk'
  refine ⟨j, ⟨t.toArray⟩, by rw [List.length_map] at h1; exact h1, by rw [tl_mk]; exact h2, ext_tl ?_⟩
  have e1 := cutS_take (textOf ls) k hk
  rw [tl_textOf] at e1
  have e2 : tl (textOf (ls.take j) ++ (⟨t.toArray⟩ : Str)) = tl (textOf (ls.take j)) ++ t := tl_append _ _
  refine e1.trans ?_
  rw [e2, tl_textOf]
  rw [List.flatMap_map, ← List.map_take, List.flatMap_map] at h3
  exact h3
/-- the whole lines' part of a text -/
theorem cut_lines (ls : List Str) (t : Str) : cutS (textOf ls ++ t) none (some (((textOf ls).length : Nat) : Int)) = textOf ls := by
  refine ext_tl ?_
  have hl : (textOf ls).length ≤ (textOf ls ++ t).length := by
    rw [len_tl, len_tl (textOf ls ++ t), tl_append, List.length_append]
    omega
  rw [cutS_take _ _ hl, tl_append, len_tl, List.take_left]
theorem textOf_length : ∀ ls : List Str, (textOf ls).length = (ls.map fun l => l.length + 1).sum
  | [] => rfl
  | l :: r => by
    rw [len_tl, tl_textOf, List.flatMap_cons, List.length_append, List.length_append, List.length_singleton, ← tl_textOf, ← len_tl, ← len_tl, textOf_length r, List.map_cons, List.sum_cons]
theorem lenAppend (a b : Str) : (a ++ b).length = a.length + b.length := by rw [len_tl, tl_append, List.length_append, ← len_tl, ← len_tl]
theorem joinL_len {S : List Nat} (hS : S.length ≤ 1) : ∀ (l : List (List Nat)) (k : Nat), (∀ w ∈ l, w.length ≤ k) → (joinL S l).length ≤ l.length * (k + 1)
  | [], _, _ => Nat.zero_le _
  | [p], k, h => by
    have := h p (List.mem_singleton.mpr rfl)
    show p.length ≤ 1 * (k + 1)
    omega
  | p :: q :: r, k, h => by
    have ih := joinL_len hS (q :: r) k fun w hw => h w (List.mem_cons_of_mem _ hw)
    have := h p List.mem_cons_self
    show (p ++ (S ++ joinL S (q :: r))).length ≤ ((q :: r).length + 1) * (k + 1)
    rw [List.length_append, List.length_append, Nat.succ_mul]
    omega
theorem line_len {n : Nat} {row : List Str} (h : ∀ w ∈ row, PlainW w) (hr : row.length ≤ 3) (hn : n ≤ 1000) : (lineOf n row).length ≤ 100 := by
  rw [lineOf_eq, join_eq, len_tl, tl_join, tl_bl]
  have hw : ∀ w ∈ (wordsOf n row).map tl, w.length ≤ 8 := fun w hw => by
    obtain ⟨v, hv, rfl⟩ := List.mem_map.mp hw
    rw [← len_tl]
    have hnum := numLen n (by omega)
    rcases List.mem_cons.mp hv with rfl | hv
    · omega
    · rcases List.mem_append.mp hv with hv | hv
      · exact (h v hv).1
      · rw [List.mem_singleton.mp hv]
        omega
  have := joinL_len (S := [32]) (by decide) _ 8 hw
  have hl : ((wordsOf n row).map tl).length ≤ 5 := by
    unfold wordsOf
    rw [List.length_map, List.length_cons, List.length_append, List.length_singleton]
    omega
  omega
theorem lines_len : ∀ {n : Nat} {ds : List Deed}, (∀ d ∈ ds, d.plain) → n + ds.length ≤ 1000 → (textOf (linesF n ds)).length ≤ 101 * ds.length
  | _, [], _, _ => Nat.zero_le _
  | n, d :: ds, h, hl => by
    rw [List.length_cons] at hl
    have ih := lines_len (n := n + 1) (ds := ds) (fun x hx => h x (List.mem_cons_of_mem _ hx)) (by omega)
    have h1 := line_len (n := n) (h d List.mem_cons_self) (row_len d).2 (by omega)
    show (lineOf n d.row ++ "\n" ++ textOf (linesF (n + 1) ds)).length ≤ _
    have h2 : ("\n" : Str).length = 1 := by decide +kernel
    rw [lenAppend, lenAppend, h2, List.length_cons]
    omega
theorem num_inj {m n : Nat} (h : (toString (m : Int) : Str) = (toString (n : Int) : Str)) : m = n := by
  have := congrArg tl h
  rw [tl_num, tl_num] at this
  exact numL_inj this
end MC
end
section
set_option Elab.async false
set_option linter.all false
set_option maxRecDepth 100000
set_option maxHeartbeats 4000000
/-! The defs, 36: deed_of. -/
namespace MC
open PySem PySem.Spec PyProof.Rows L2 TL
theorem atIL {α : Type} (l : List α) (a : α) : atI (l ++ [a]) (-1) = some a := by
  unfold atI ixN
  have h : ¬ (0 : Int) ≤ -1 := by decide
  rw [if_neg h, List.length_append, List.length_singleton]
  have h2 : -((l.length + 1 : Nat) : Int) ≤ -1 := by omega
  rw [if_pos h2]
  have h3 : ((-1 : Int) + ((l.length : Int) + 1)).toNat = l.length := by omega
  simp [h3]
theorem cut_mid (a b : V) (l : List V) : cutV (a :: (l ++ [b])) (some 1) (some (-1)) = l := by
  unfold cutV
  have h1 : HT.sIx (a :: (l ++ [b])).length 0 (some 1) = 1 := by
    rw [show (some (1 : Int)) = some ((1 : Nat) : Int) from rfl, HT.sIx_nat]
    simp
  have h2 : HT.sIx (a :: (l ++ [b])).length (a :: (l ++ [b])).length (some (-1)) = l.length + 1 := by
    show (if (-1 : Int) < 0 then ((-1 : Int) + ((a :: (l ++ [b])).length : Int)).toNat else min (-1 : Int).toNat (a :: (l ++ [b])).length) = _
    rw [if_pos (by decide), List.length_cons, List.length_append, List.length_singleton]
    omega
  rw [h1, h2]
  simp
section
variable {P : Program} {w : World} {K : PySem.W.Frag} {mg : Str → Option Value} {base : Heap}
/-- a line that is none of number n -/
def NoLine (line : Str) (n : Nat) : Prop := ∃ (ws : List Str) (x : Str), Txt.split line " " = (toString (n : Int) : Str) :: (ws ++ [x]) ∧ 2 ≤ ws.length ∧ x ≠ (toString (n : Int) : Str)
def spDeedOf (K : PySem.W.Frag) : Sp := fun vs H Q _ => ∃ (line : Str) (n : Nat), vs = [.str line, .int (n : Int)] ∧ n ≤ 1000 ∧ line.length ≤ 100000 ∧
  ((∃ d : Deed, d.plain ∧ line = lineOf n d.row ∧ ∀ H' q, Same H H' → H' q = some (.tup (d.row.map V.str)) → Q (.ref q) H') ∨ (NoLine line n ∧ ∀ H', Same H H' → Q .non H'))
theorem ok_deedOf (T : Txt P w K mg) : Has P w K mg base CX0 1 (He.fAd K ("deed_of", none)) ["line", "number"] (spDeedOf K) := by
  obtain ⟨fd, F⟩ := T.d_DeedOf
  obtain ⟨es, en, D⟩ := T.shapes
  have sc : FnScope ["line", "number", "words", "deed"] ["line", "number"] (defScope sDeedOf) := ⟨rfl, rfl, rfl, by decide +kernel, rfl, by decide +kernel, by decide +kernel⟩
  refine ⟨fd, F.ok sc (fun vs H Q E h => ?_) (fun cdv A outer s H vs Q E hr h => ?_), F.bindsN fun _ _ _ _ _ _ us hl => match us, hl with | [_, _], _ => rfl, F.kp⟩
  · obtain ⟨line, n, rfl, _⟩ := h
    rfl
  · obtain ⟨line, n, rfl, hn, hll, h⟩ := h
    refine ⟨_, PSs.nox (pss_cons (ps_set (i := 2) sc.nd rfl (Or.inl rfl) (pe_split (pv 0) pe_str))
      (pss_cons (ps_if (PW.pt (pw_or (pt_cmpR op_lt (pe_callB call_len_seq (by rfl) T.z_len bt_len (pa_cons (pv 2) pa_nil)) pe_int (nomark _))
          (pw_or (pt_cmpR op_ne (pe_ix ix_list (pv 2) pe_int (fun _ _ => rfl)) (pe_callTy call_str_int (by rfl) T.z_str bt_str (pa_cons (pv 1) pa_nil)) (nomark _))
            (pw_or1 (pt_cmpR op_ne (pe_ix ix_list (pv 2) (pe_un un_neg pe_int) (fun _ _ => rfl)) (pe_callTy call_str_int (by rfl) T.z_str bt_str (pa_cons (pv 1) pa_nil)) (nomark _))))))
        (pss_one (ps_ret pe_non)) pss_nil)
      (pss_cons (ps_set (i := 3) sc.nd rfl (Or.inl rfl) (pe_callTy call_tuple_of (by rfl) T.z_tuple bt_tuple (pa_cons (pe_slice sl_list (pv 2) (po_some pe_int) (po_some (pe_un un_neg pe_int))) pa_nil)))
      (pss_one (ps_ret (pe_ifExp (PW.pt (pw_and (pt_cmpR (op_in_kd D) (pe_ix ix_tup (pv 3) pe_int (fun _ _ => rfl)) (pe_glob (v := .ref (He.ga K "SHAPES")) (by rfl) T.g_SHAPES rfl) rfl)
          (pw_and1 (pt_cmpR op_eq (pe_callB call_len_seq (by rfl) T.z_len bt_len (pa_cons (pv 3) pa_nil)) (pe_ix (ix_kd D) (pe_glob (v := .ref (He.ga K "SHAPES")) (by rfl) T.g_SHAPES rfl) (pe_ix ix_tup (pv 3) pe_int (fun _ _ => rfl)) (fun _ _ => rfl)) (nomark _))))) (pv 3) pe_non)))))), ?_⟩
    have hlog : (n : Int).natAbs.log2 < 1920 := by
      rw [Int.natAbs_natCast]
      exact Nat.lt_of_le_of_lt (Nat.log2_le_self n) (by omega)
    obtain ⟨row, x, hsp, hrl, hcase⟩ : ∃ (row : List Str) (x : Str), Txt.split line " " = (toString (n : Int) : Str) :: (row ++ [x]) ∧ 2 ≤ row.length ∧ ((x = (toString (n : Int) : Str) ∧ ∃ d : Deed, d.row = row ∧ ∀ H' q, Same H H' → H' q = some (.tup (d.row.map V.str)) → Q (.ref q) H') ∨ (x ≠ (toString (n : Int) : Str) ∧ ∀ H', Same H H' → Q .non H')) := by
      rcases h with ⟨d, dp, rfl, k⟩ | ⟨⟨ws, x, e, h2, hx⟩, k⟩
      · exact ⟨d.row, _, split_line dp, (row_len d).1, .inl ⟨rfl, d, rfl, k⟩⟩
      · exact ⟨ws, x, e, h2, .inr ⟨hx, k⟩⟩
    refine ⟨_, rfl, ⟨_, rfl⟩, line, " ", rfl, rfl, by decide +kernel, by rw [sizeLine_eq]; omega, fun q hq => ?_⟩
    rw [hsp]
    have e1 : Same H (upd H q (.lst (((toString (n : Int) : Str) :: (row ++ [x])).map V.str))) := Same.new hq
    obtain ⟨H1, eH1⟩ : ∃ H1, H1 = upd H q (.lst (((toString (n : Int) : Str) :: (row ++ [x])).map V.str)) := ⟨_, rfl⟩
    have h1q : H1 q = some (.lst (((toString (n : Int) : Str) :: (row ++ [x])).map V.str)) := by rw [eH1]; exact upd_same
    rw [← eH1] at e1
    rw [← eH1]
    refine ⟨_, rfl, q, _, rfl, .inl (sqL h1q), _, _, rfl, rfl, _, rfl, ?_⟩
    have hlen : ¬ ((((((toString (n : Int) : Str) :: (row ++ [x])).map V.str).length : Nat) : Int) < 4) := by
      rw [List.length_map, List.length_cons, List.length_append, List.length_singleton]
      omega
    rw [decide_eq_false hlen]
    refine itF ⟨_, rfl, q, _, 0, .str (toString (n : Int) : Str), rfl, rfl, sqL h1q, atI0 _ _, _, rfl, (n : Int), rfl, hlog, rfl, _, rfl, ?_⟩
    rw [dec_str, decide_eq_true rfl]
    refine itF ⟨_, rfl, _, rfl, q, _, -1, .str x, rfl, rfl, sqL h1q, ?_, _, rfl, (n : Int), rfl, hlog, rfl, _, rfl, ?_⟩
    · rw [List.map_cons, List.map_append]
      exact atIL (V.str _ :: row.map V.str) (V.str x)
    rw [dec_str]
    rcases hcase with ⟨rfl, d, hd, k⟩ | ⟨hx, k⟩
    · rw [decide_eq_true rfl]
      refine itF ⟨_, rfl, _, rfl, _, rfl, _, rfl, q, _, rfl, sqL h1q, fun l hl => ?_⟩
      rw [List.map_cons, List.map_append]
      rw [show (List.map V.str [(toString (n : Int) : Str)]) = [V.str (toString (n : Int) : Str)] from rfl, cut_mid]
      have e2 : Same H1 (upd H1 l (.lst (row.map V.str))) := Same.new hl
      refine ⟨l, row.map V.str, rfl, .inl ⟨sqL upd_same, fun t ht => ?_⟩⟩
      have e3 := (e1.trans e2).upd (o := .tup (row.map V.str)) ht
      obtain ⟨H2, eH2⟩ : ∃ H2, H2 = upd (upd H1 l (.lst (row.map V.str))) t (.tup (row.map V.str)) := ⟨_, rfl⟩
      have h2t : H2 t = some (.tup (row.map V.str)) := by rw [eH2]; exact upd_same
      rw [← eH2] at e3
      rw [← eH2]
      obtain ⟨a, r, er, hs⟩ := shp_row T d
      rw [hd] at er hs k
      obtain ⟨tk, hs⟩ := hs
      have h2t' : H2 t = some (.tup (V.str a :: r.map V.str)) := by rw [h2t, er]; rfl
      refine ⟨_, rfl, t, _, 0, .str a, rfl, rfl, sqT h2t', atI0 _ _, a, some (.int _ tk), rfl, rfl, hs, _, rfl, itT ?_⟩
      refine ⟨_, rfl, t, _, rfl, .inr (sqT h2t), _, rfl, t, _, 0, .str a, rfl, rfl, sqT h2t', atI0 _ _, a, .int _ tk, .int _, rfl, rfl, hs, ⟨tk, rfl⟩, rfl, _, rfl, ?_⟩
      rw [List.length_map, decide_eq_true rfl]
      exact itT ⟨_, rfl, k _ _ e3 h2t⟩
    · rw [decide_eq_false hx]
      exact itT (k _ e1)
end
end MC
end
section
set_option Elab.async false
set_option linter.all false
set_option maxRecDepth 100000
set_option maxHeartbeats 4000000
/-! The defs, 37: town_deeds. -/
namespace MC
open PySem PySem.Spec PyProof.Rows L2 TL
theorem cut_init (b : V) (l : List V) : cutV (l ++ [b]) none (some (-1)) = l := by
  unfold cutV
  have h2 : HT.sIx (l ++ [b]).length (l ++ [b]).length (some (-1)) = l.length := by
    show (if (-1 : Int) < 0 then ((-1 : Int) + ((l ++ [b]).length : Int)).toNat else min (-1 : Int).toNat (l ++ [b]).length) = _
    rw [if_pos (by decide), List.length_append, List.length_singleton]
    omega
  rw [HT.sIx_none, h2]
  simp
theorem lst_at {H : Hp} {a b : Addr} {xs : List V} (e : b = a) (h : H a = some (.lst xs)) : ∃ xs, H b = some (.lst xs) := ⟨xs, by rw [e]; exact h⟩
theorem TupsAt.offL {H H' : Hp} {A : Addr → Prop} {bs : List Addr} {ks : List (List Str)} (h : TupsAt H bs ks) (o : Off A H H') (ha : ∀ b, A b → ∃ xs, H b = some (.lst xs)) : TupsAt H' bs ks := ⟨h.1, fun i b k h1 h2 => o _ _ (fun e => by
  obtain ⟨xs, hx⟩ := ha _ e
  rw [h.2 i b k h1 h2] at hx
  cases hx) (h.2 i b k h1 h2)⟩
section
variable {P : Program} {w : World} {K : PySem.W.Frag} {mg : Str → Option Value} {base : Heap}
def spTownDeeds (K : PySem.W.Frag) : Sp := fun vs H Q _ => ∃ (text : Str) (ds : List Deed) (r0 : List Str) (t : Str), vs = [.str text] ∧ text.length ≤ 90000 ∧ (∀ d ∈ ds, d.plain) ∧ ds.length ≤ 500 ∧ r0.length ≤ 500 ∧ Txt.split text "\n" = linesF 0 ds ++ (r0 ++ [t]) ∧ (r0 = [] ∨ ∃ b r, r0 = b :: r ∧ NoLine b ds.length) ∧
  ∀ H' q fo bs, Same H H' → H' q = some (.tup [.ref fo, .int (((textOf (linesF 0 ds)).length : Nat) : Int)]) → H' fo = some (.tup (bs.map V.ref)) → TupsAt H' bs (ds.map Deed.row) → Q (.ref q) H'
theorem ok_townDeeds (T : Txt P w K mg) : Has P w K mg base CX0 2 (He.fAd K ("town_deeds", none)) ["text"] (spTownDeeds K) := by
  obtain ⟨fd, F⟩ := T.d_TownDeeds
  obtain ⟨fdD, GD, bD, kD⟩ := ok_deedOf (base := base) T
  have sc : FnScope ["text", "found", "here", "line", "deed"] ["text"] (defScope sTownDeeds) := ⟨rfl, rfl, rfl, by decide +kernel, rfl, by decide +kernel, by decide +kernel⟩
  refine ⟨fd, F.ok sc (fun vs H Q E h => ?_) (fun cdv A outer s H vs Q E hr h => ?_), F.bindsN fun _ _ _ _ _ _ us hl => match us, hl with | [_], _ => rfl, F.kp⟩
  · obtain ⟨text, ds, r0, t, rfl, _⟩ := h
    rfl
  · obtain ⟨text, ds, r0, t, rfl, htl, hp, hdl, hrl, hsp, hr0, k⟩ := h
    refine ⟨_, PSs.nox (pss_cons (ps_par (i := 1) (j := 2) (by rfl) sc.nd rfl rfl (by decide) rfl rfl (pa_cons (pe_lst pa_nil) (pa_cons pe_int pa_nil)) (by rfl))
      (pss_cons (ps_for PassesOwn.never rfl (pi_list (pe_slice sl_list (pe_split (pv 0) pe_str) po_none (po_some (pe_un un_neg pe_int)))) (pg_name (i := 3) sc.nd rfl (Or.inl rfl))
        (pss_cons (ps_set (i := 4) sc.nd rfl (Or.inl rfl) (pe_call GD hr (by rfl) T.g_deed_of kD bD .nil pass0 (pa_cons (pv 3) (pa_cons (pe_callB call_len_seq (by rfl) T.z_len bt_len (pa_cons (pv 1) pa_nil)) pa_nil))))
        (pss_cons (ps_if (pt_cmp (pc_isN (pv 4))) (pss_one (ps_ret (pe_tup (pa_cons (pe_callTy call_tuple_of (by rfl) T.z_tuple bt_tuple (pa_cons (pv 1) pa_nil)) (pa_cons (pv 2) pa_nil))))) pss_nil)
        (pss_cons (ps_expr (pe_bm PySem.F.plainAttrs_list PySem.F.slot_list_append PySem.F.type_list_append mt_append (pv 1) (pa_cons (pv 4) pa_nil)))
        (pss_one (ps_aug (i := 2) sc.nd rfl (Or.inl rfl) (pe_add (pe_callB call_len (by rfl) T.z_len bt_len (pa_cons (pv 3) pa_nil)) pe_int) ip_add))))))
      (pss_one (ps_ret (pe_tup (pa_cons (pe_callTy call_tuple_of (by rfl) T.z_tuple bt_tuple (pa_cons (pv 1) pa_nil)) (pa_cons (pv 2) pa_nil))))))), ?_⟩
    -- how the end goes
    have fin : ∀ (H' : Hp) (fo : Addr) (bs : List Addr), Same H H' → H' fo = some (.lst (bs.map V.ref)) → TupsAt H' bs (ds.map Deed.row) → ∀ (l : Addr), H' l = none → ∀ q, upd H' l (.tup (bs.map V.ref)) q = none → Q (.ref q) (upd (upd H' l (.tup (bs.map V.ref))) q (.tup [.ref l, .int (((textOf (linesF 0 ds)).length : Nat) : Int)])) := by
      intro H' fo bs e hfo ht l hl q hq
      have e1 : Same H' (upd H' l (.tup (bs.map V.ref))) := Same.new hl
      have nql : q ≠ l := fun e => by rw [e, upd_same] at hq; cases hq
      exact k _ q l bs ((e.trans e1).upd hq) upd_same (by rw [upd_ne nql.symm]; exact upd_same) (ht.same (e1.upd hq))
    refine ⟨sz0, fun fo hfo => ⟨_, _, rfl, ?_⟩⟩
    have e1 : Same H (upd H fo (.lst [])) := Same.new hfo
    obtain ⟨H1, eH1⟩ : ∃ H1, H1 = upd H fo (.lst []) := ⟨_, rfl⟩
    have h1fo : H1 fo = some (.lst []) := by rw [eH1]; exact upd_same
    rw [← eH1] at e1
    rw [← eH1]
    refine ⟨_, rfl, ⟨_, rfl⟩, text, "\n", rfl, rfl, by decide +kernel, by rw [sizeLine_eq]; omega, fun sq hsq => ?_⟩
    have e2 : Same H1 (upd H1 sq (.lst ((Txt.split text "\n").map V.str))) := Same.new hsq
    obtain ⟨H2, eH2⟩ : ∃ H2, H2 = upd H1 sq (.lst ((Txt.split text "\n").map V.str)) := ⟨_, rfl⟩
    have h2sq : H2 sq = some (.lst ((Txt.split text "\n").map V.str)) := by rw [eH2]; exact upd_same
    rw [← eH2] at e2
    rw [← eH2]
    refine ⟨_, rfl, _, rfl, sq, _, rfl, sqL h2sq, fun l hl => ?_⟩
    have hcut : cutV ((Txt.split text "\n").map V.str) none (some (-1)) = (linesF 0 ds ++ r0).map V.str := by
      rw [hsp, ← List.append_assoc, List.map_append]
      exact cut_init _ _
    rw [hcut]
    have e3 : Same H2 (upd H2 l (.lst ((linesF 0 ds ++ r0).map V.str))) := Same.new hl
    obtain ⟨H3, eH3⟩ : ∃ H3, H3 = upd H2 l (.lst ((linesF 0 ds ++ r0).map V.str)) := ⟨_, rfl⟩
    have h3l : H3 l = some (.lst ((linesF 0 ds ++ r0).map V.str)) := by rw [eH3]; exact upd_same
    rw [← eH3] at e3
    rw [← eH3]
    have h3fo := e3 _ _ (e2 _ _ h1fo)
    have e03 : Same H H3 := (e1.trans e2).trans e3
    have nlf : l ≠ fo := fun e => by have := e2 _ _ h1fo; rw [← e, hl] at this; cases this
    have hshort : ∀ x ∈ linesF 0 ds ++ r0, x.length ≤ 90000 := fun x hx => by
      have : x ∈ Txt.split text "\n" := by
        rw [hsp, ← List.append_assoc]
        exact List.mem_append_left _ hx
      have := part_short this
      omega
    refine ⟨l, rfl, ⟨_, sqL h3l⟩, ?_⟩
    refine for_it (walk_listM (K := K) (xs := linesF 0 ds ++ r0) (f := V.str)) (fun i σ H' => i ≤ ds.length ∧ ∃ (v3 v4 : Option V) (bs : List Addr), σ = [some (.str text), some (.ref fo), some (.int (((textOf (linesF 0 (ds.take i))).length : Nat) : Int)), v3, v4] ∧ Off (· = fo) H3 H' ∧ H' fo = some (.lst (bs.map V.ref)) ∧ TupsAt H' bs ((ds.take i).map Deed.row))
      ⟨Nat.zero_le _, none, none, [], rfl, Off.refl, h3fo, TupsAt.nil⟩ (fun i σ H' _ ⟨_, _, _, _, _, o, _⟩ => sqL (o _ _ nlf h3l)) ?_ ?_
    · rintro i x σ H' H'' hi ⟨hid, v3, v4, bs, rfl, o, hbs, ht⟩ ⟨rfl, hx⟩
      have hlen : bs.length = i := by
        rw [ht.1, List.length_map, List.length_take]
        omega
      have hfoH : ∀ {H'' : Hp}, Off (· = fo) H3 H'' → Same H H'' := fun o => Off.over e03 (fun b hb => by rw [hb]; exact hfo) o
      by_cases hid' : i < ds.length
      · obtain ⟨d, hd⟩ : ∃ d, ds[i]? = some d := ⟨_, List.getElem?_eq_getElem hid'⟩
        have hdm := List.mem_of_getElem? hd
        obtain rfl : x = .str (lineOf i d.row) := by
          have hg := linesF_get (n := 0) hd
          rw [Nat.zero_add] at hg
          rw [List.getElem?_map, List.getElem?_append_left (by rw [linesF_length]; exact hid'), hg] at hx
          exact (Option.some.inj hx).symm
        have htk : ds.take (i + 1) = ds.take i ++ [d] := by rw [List.take_add_one, hd] <;> rfl
        refine ⟨_, rfl, _, rfl, fo, _, rfl, .inl (sqL hbs), lineOf i d.row, i, ?_, by omega, ?_, .inl ⟨d, hp d hdm, rfl, fun H5 q e5 hq => ?_⟩⟩
        · rw [List.length_map, hlen]
          rfl
        · have := line_len (n := i) (hp d hdm) (row_len d).2 (by omega)
          omega
        have h5fo := e5 _ _ hbs
        refine ⟨_, rfl, _, rfl, itF ⟨_, rfl, .inl ⟨rfl, _, sqL h5fo⟩, _, rfl, fo, _, _, rfl, rfl, h5fo, szL (by rw [List.length_map]; omega), ?_⟩⟩
        have o5 : Off (· = fo) H'' (upd H5 fo (.lst (bs.map V.ref ++ [.ref q]))) := (Off.same e5).upd rfl
        have nq : q ≠ fo := fun e => by rw [e, h5fo] at hq; cases hq
        have eI : ((textOf (linesF 0 (ds.take i))).length : Int) + (((lineOf i d.row).length : Int) + 1) = (((textOf (linesF 0 (ds.take (i + 1)))).length : Nat) : Int) := by
          rw [htk, linesF_append, textOf_append, lenAppend]
          have e1 : (textOf (linesF (0 + (ds.take i).length) [d])).length = (lineOf i d.row).length + 1 := by
            rw [textOf_length]
            have : (ds.take i).length = i := by rw [List.length_take]; omega
            rw [this, Nat.zero_add]
            rfl
          rw [e1]
          push_cast
          rfl
        refine ⟨_, rfl, _, rfl, _, _, rfl, ⟨szN ?_, rfl⟩, _, _, rfl, rfl, _, _, rfl, rfl, by omega, some (.str (lineOf i d.row)), some (.ref q), bs ++ [q], ?_, o.trans o5, ?_, ?_⟩
        · have := line_len (n := i) (hp d hdm) (row_len d).2 (by omega)
          omega
        · rw [← eI]
          rfl
        · rw [upd_same, List.map_append]
          rfl
        · rw [htk, List.map_append]
          refine TupsAt.snoc ((ht.same e5).offL (A := (· = fo)) (Off.refl.upd rfl) fun b hb => lst_at hb h5fo) ?_
          rw [upd_ne nq]
          exact hq
      · have hie : i = ds.length := by omega
        subst hie
        rcases hr0 with rfl | ⟨b, r, rfl, hno⟩
        · rw [List.append_nil, linesF_length] at hi
          omega
        · obtain rfl : x = .str b := by
            rw [List.getElem?_map, List.getElem?_append_right (by rw [linesF_length]; exact Nat.le_refl _), linesF_length, Nat.sub_self] at hx
            exact (Option.some.inj hx).symm
          have hbl := hshort b (List.mem_append_right _ List.mem_cons_self)
          refine ⟨_, rfl, _, rfl, fo, _, rfl, .inl (sqL hbs), b, ds.length, ?_, by omega, by omega, .inr ⟨hno, fun H5 e5 => ?_⟩⟩
          · rw [List.length_map, hlen]
            rfl
          rw [List.take_length] at ht
          refine ⟨_, rfl, _, rfl, itT ⟨_, rfl, fo, _, rfl, .inl ⟨sqL (e5 _ _ hbs), fun l1 hl1 => ⟨_, rfl, sz2, fun q hq => ?_⟩⟩⟩⟩
          rw [List.take_length]
          exact fin H5 fo bs ((hfoH o).trans e5) (e5 _ _ hbs) (ht.same e5) l1 hl1 q hq
    · rintro σ H' ⟨hid, v3, v4, bs, rfl, o, hbs, ht⟩
      rw [List.length_append, linesF_length] at hid ht
      rw [List.length_append, linesF_length]
      have hr00 : r0 = [] := List.length_eq_zero_iff.mp (by omega)
      subst hr00
      rw [List.length_nil, Nat.add_zero, List.take_length] at ht
      rw [List.length_nil, Nat.add_zero, List.take_length]
      refine ⟨_, rfl, fo, _, rfl, .inl ⟨sqL hbs, fun l1 hl1 => ⟨_, rfl, sz2, fun q hq => ?_⟩⟩⟩
      exact fin H' fo bs (Off.over e03 (fun b hb => by rw [hb]; exact hfo) o) hbs ht l1 hl1 q hq
end
end MC
end
section
set_option Elab.async false
set_option linter.all false
set_option maxRecDepth 100000
set_option maxHeartbeats 4000000
/-! The defs, 38: TownJournal's making. -/
namespace MC
open PySem PySem.Spec PyProof.Rows L2 TL
theorem Off.overA {A B : Addr → Prop} {HB H H' : Hp} (o1 : Off A HB H) (hn : ∀ b, B b → HB b = none) (o2 : Off B H H') : Off A HB H' := fun b u na q => o2 b u (fun hb => by rw [hn b hb] at q; cases q) (o1 b u na q)
/-- an object of few fields turns: the town stays -/
theorem TownF.offJ {K : PySem.W.Frag} {H H' : Hp} {y : TAd} {p : Plan} {most : Nat} {ps : List (Str × Str)} {down : List Str} {R : List (Str × Str)} {dn st jo C dx : Addr} {r v : Int} {fs : List (Str × V)} (h : TownF K H y p most ps down R dn st r v) (o : Off (· = jo) H H') (hj : H jo = some (.ins C dx fs)) (h3 : fs.length ≠ 3) (h7 : fs.length ≠ 7) : TownF K H' y p most ps down R dn st r v := by
  refine ⟨o _ _ (fun e => ?_) h.at_, h.pl.off o hj h3, seqT_off h.dn o hj, o _ _ (fun e => ?_) h.pa, o _ _ (fun e => ?_) h.st⟩
  · have := h.at_
    rw [e, hj] at this
    injection this with this
    injection this with _ _ this
    exact h7 (by rw [this]; rfl)
  · have := h.pa
    rw [e, hj] at this
    cases this
  · have := h.st
    rw [e, hj] at this
    cases this
theorem TownS.offJ {K : PySem.W.Frag} {H H' : Hp} {y : TAd} {p : Plan} {most : Nat} {s : TSt} {st jo C dx : Addr} {fs : List (Str × V)} (h : TownS K H y p most s st) (o : Off (· = jo) H H') (hj : H jo = some (.ins C dx fs)) (h3 : fs.length ≠ 3) (h7 : fs.length ≠ 7) : TownS K H' y p most s st := by
  obtain ⟨R, dn, r, v, hT, hne, full⟩ := h
  exact ⟨R, dn, r, v, hT.offJ o hj h3 h7, hne, full⟩
theorem full_zero {p : Plan} : Full (townScn p [] []).sorted [] := by
  refine ⟨List.nodup_nil, fun n => ?_, fun n m h => by cases h⟩
  constructor
  · intro h
    cases h
  · intro h
    have := mem_sortL.mp h
    cases this
section
variable {P : Program} {w : World} {K : PySem.W.Frag} {mg : Str → Option Value} {base : Heap}
def spJInit (K : PySem.W.Frag) : Sp := fun vs H Q _ => ∃ (jo dx pl : Addr) (p : Plan) (most : Nat) (ds : List Deed) (t : Str), vs = [.ref jo, .ref pl, .int (most : Int), .str (textOf (linesF 0 ds) ++ t)] ∧ H jo = some (.ins (He.ga K "TownJournal") dx []) ∧ PlanAt K H pl p ∧ PInv p most ∧ RunOk p most TSt.zero ds ∧ ds.length ≤ 80 ∧ 10 ∉ tl t ∧ t.length ≤ 10000 ∧
  ∀ H' y st, Off (· = jo) H H' → H y.tw = none → H y.pa = none → H st = none → y.pl = pl → H' jo = some (jourO K dx y.tw (textOf (linesF 0 ds)) "" ds.length) → TownS K H' y p most (runD TSt.zero ds) st → Q .non H'
theorem ok_jInit (T : Txt P w K mg) : Has P w K mg base CX0 11 (He.fAd K ("TownJournal", some "__init__")) ["self", "plan", "most", "text"] (spJInit K) := by
  obtain ⟨fd, F⟩ := T.d_TownJournalInit
  obtain ⟨fdP, GP, bP, kP⟩ := ok_townDeeds (base := base) T
  obtain ⟨fdT, GT, bT, kT⟩ := ok_townInit (base := base) T
  obtain ⟨fdD, GD, bD, kD⟩ := ok_doIn (base := base) T
  have sc : FnScope ["self", "plan", "most", "text", "deeds", "here", "deed"] ["self", "plan", "most", "text"] (defScope sTownJournalInit) := ⟨rfl, rfl, rfl, by decide +kernel, rfl, by decide +kernel, by decide +kernel⟩
  refine ⟨fd, F.ok sc (fun vs H Q E h => ?_) (fun cdv A outer s H vs Q E hr h => ?_), F.bindsN fun _ _ _ _ _ _ us hl => match us, hl with | [_, _, _, _], _ => rfl, F.kp⟩
  · obtain ⟨jo, dx, pl, p, most, ds, t, rfl, _⟩ := h
    rfl
  · obtain ⟨jo, dx, pl, p, most, ds, t, rfl, hj, hp, PI, run, hdl, ht10, htl, k⟩ := h
    refine ⟨_, PSs.nox (pss_cons (ps_asg (pe_call GP (hr.mono (by decide)) (by rfl) T.g_town_deeds kP bP .nil pass0 (pa_cons (pv 3) pa_nil)) (pg_tup (by rfl) (pgs_cons (pg_name (i := 4) sc.nd rfl (Or.inl rfl)) (pgs_cons (pg_name (i := 5) sc.nd rfl (Or.inl rfl)) pgs_nil))))
      (pss_cons (ps_fld (pv 0) (pe_make T.k_Town GT (hr.mono (by decide)) (by rfl) T.g_Town bT .nil pass0 (pa_cons (pv 1) (pa_cons (pv 2) pa_nil))) rfl)
      (pss_cons (ps_for PassesOwn.never rfl (pi_tup (pv 4)) (pg_name (i := 6) sc.nd rfl (Or.inl rfl))
        (pss_one (ps_expr (pe_call GD hr (by rfl) T.g_do_in kD bD .nil (passes_call takes0 (fun _ _ _ _ h => h)) (pa_cons (pe_fld (pv 0) rfl) (pa_cons (pv 6) pa_nil))))))
      (pss_cons (ps_fld (pv 0) (pe_slice sl_str (pv 3) po_none (po_some (pv 5))) rfl)
      (pss_cons (ps_fld (pv 0) pe_str rfl)
      (pss_one (ps_fld (pv 0) (pe_callB call_len_seq (by rfl) T.z_len bt_len (pa_cons (pv 4) pa_nil)) rfl))))))), ?_⟩
    have plain : ∀ d ∈ ds, d.plain := runOk_plain PI (inv_zero PI) run (by show 0 + _ ≤ _; omega)
    have hfree := linesF_free (n := 0) plain
    have hll : (textOf (linesF 0 ds)).length ≤ 8080 := by
      have := lines_len (n := 0) plain (by omega)
      omega
    have htx : (textOf (linesF 0 ds) ++ t).length ≤ 90000 := by rw [lenAppend]; omega
    refine ⟨_, rfl, _, ds, [], t, rfl, htx, plain, by omega, by decide, by rw [split_text hfree ht10]; rfl, .inl rfl, fun H1 q fo bs e1 hq hfo hT => ?_⟩
    refine ⟨q, _, rfl, sqT hq, rfl, _, _, rfl, _, _, rfl, rfl, ?_⟩
    refine ⟨_, rfl, _, rfl, fun tx dtx htx0 hdtx hne => ?_⟩
    have eM : Same H1 (upd (upd H1 dtx (.own tx)) tx (.ins (He.ga K "Town") dtx [])) := (Same.new hdtx).upd (by rw [upd_ne hne.symm]; exact htx0)
    refine ⟨tx, dtx, pl, p, most, rfl, upd_same, (hp.same e1).same eM, fun H2 y dn st ey1 ey2 hpa0 hst0 hpst o2 hT2 => ⟨rfl, ?_⟩⟩
    subst ey1 ey2
    have e12 : Same H1 H2 := Off.over eM (fun b hb => by rw [hb]; exact htx0) o2
    have e2 := e1.trans e12
    have hpa1 : H1 y.pa = none := none_back eM hpa0
    have hst1 : H1 st = none := none_back eM hst0
    have h2j := e2 _ _ hj
    have njt : y.tw ≠ jo := fun e => by have := e1 _ _ hj; rw [← e, htx0] at this; cases this
    refine ⟨_, rfl, jo, _, dx, _, rfl, h2j, T.c_TownJournal, T.a_TownJournal_town, (by show 0 < 1000; decide), ?_⟩
    -- from now on what stood at H1 stands, but for the journal
    obtain ⟨H3, eH3⟩ : ∃ H3, H3 = upd H2 jo (.ins (He.ga K "TownJournal") dx (putF "town" (.ref y.tw) [])) := ⟨_, rfl⟩
    have o3 : Off (· = jo) H2 H3 := by rw [eH3]; exact Off.refl.upd rfl
    have h3j : H3 jo = some (.ins (He.ga K "TownJournal") dx [("town", .ref y.tw)]) := by rw [eH3]; exact upd_same
    have o13 : Off (· = jo) H1 H3 := (Off.same e12).trans o3
    have hT3 : TownS K H3 y p most TSt.zero st := ⟨[], dn, 0, 0, hT2.offJ o3 h2j (by decide) (by decide), hpst, full_zero⟩
    rw [← eH3]
    have nfo : fo ≠ jo := fun e => by have := e1 _ _ hj; rw [← e, hfo] at this; cases this
    have hbsj : ∀ (i : Nat) (b : Addr) (r : List Str), H1 b = some (.tup (r.map V.str)) → b ≠ jo := fun i b r hb e => by have := e1 _ _ hj; rw [← e, hb] at this; cases this
    have hblen : bs.length = ds.length := by rw [hT.1, List.length_map]
    refine ⟨_, rfl, fo, rfl, ⟨_, sqT (o13 _ _ nfo hfo)⟩, ?_⟩
    refine for_it (walk_tupM (K := K) (xs := bs) (f := V.ref)) (fun i σ H' => ∃ (v6 : Option V) (st' : Addr), σ = [some (.ref jo), some (.ref y.pl), some (.int (most : Int)), some (.str (textOf (linesF 0 ds) ++ t)), some (.ref fo), some (.int (((textOf (linesF 0 ds)).length : Nat) : Int)), v6] ∧ Off (· = jo) H1 H' ∧ H' jo = some (.ins (He.ga K "TownJournal") dx [("town", .ref y.tw)]) ∧ H1 st' = none ∧ TownS K H' y p most (runD TSt.zero (ds.take i)) st')
      ⟨none, st, rfl, o13, h3j, hst1, hT3⟩ (fun i σ H' _ ⟨_, _, _, o, _⟩ => sqT (o _ _ nfo hfo)) ?_ ?_
    · rintro i x σ H' H'' hi ⟨v6, st', rfl, o, hjj, hst', hS⟩ ⟨rfl, hx⟩
      have hid : i < ds.length := by omega
      obtain ⟨d, hd⟩ : ∃ d, ds[i]? = some d := ⟨_, List.getElem?_eq_getElem hid⟩
      have hbi : bs[i]? = some bs[i] := List.getElem?_eq_getElem hi
      obtain rfl : x = .ref bs[i] := by
        rw [List.getElem?_map, hbi] at hx
        exact (Option.some.inj hx).symm
      have htk : ds.take (i + 1) = ds.take i ++ [d] := by rw [List.take_add_one, hd] <;> rfl
      have hb1 := hT.2 i _ _ hbi (by rw [List.getElem?_map, hd]; rfl)
      have hbH := o _ _ (hbsj i _ _ hb1) hb1
      have hrun : RunOk p most TSt.zero (ds.take i ++ [d]) := by rw [← htk]; exact runOk_take run (i + 1)
      obtain ⟨r1, r2⟩ := runOk_append.mp hrun
      have htl' : (ds.take i).length ≤ 80 := by rw [List.length_take]; omega
      obtain ⟨inv, len⟩ := run_inv PI (inv_zero PI) r1 (by show 0 + _ ≤ _; omega)
      have len' : (runD TSt.zero (ds.take i)).ps.length ≤ 90 := by
        have : (TSt.zero).ps.length = 0 := rfl
        omega
      refine ⟨_, rfl, _, _, _, _, _, rfl, hjj, T.c_TownJournal, T.a_TownJournal_town, rfl, _, rfl, y, p, most, _, st', _, rfl, hS, PI, inv, len', .inl ⟨_, d, rfl, hbH, r2.1, fun _ H4 st4 u o4 h4 hS4 _ => ?_, fun nt => absurd r2.2.1 nt⟩⟩
      have nm : ∀ b, mutS y st' b → H1 b = none := fun b hb => by
        rcases hb with (rfl | rfl) | rfl
        · exact htx0
        · exact hpa1
        · exact hst'
      refine ⟨_, st4, rfl, o.overA nm o4, o4 _ _ (fun hb => ?_) hjj, ?_, ?_⟩
      · have := nm _ hb
        rw [e1 _ _ hj] at this
        cases this
      · exact none_off o (fun b hb => by rw [hb]; exact ⟨_, hjj⟩) h4
      · rw [htk, runD_append]
        exact hS4
    · rintro σ H' ⟨v6, st', rfl, o, hjj, hst', hS⟩
      rw [hblen, List.take_length] at hS
      refine ⟨_, rfl, _, rfl, _, rfl, _, rfl, by rw [sizeLine_eq]; omega, ?_⟩
      rw [cut_lines]
      refine ⟨_, rfl, jo, _, dx, _, rfl, hjj, T.c_TownJournal, T.a_TownJournal_text, (by show 1 < 1000; decide), ?_⟩
      refine ⟨_, rfl, jo, _, dx, _, rfl, upd_same, T.c_TownJournal, T.a_TownJournal_loose, (by show 2 < 1000; decide), ?_⟩
      have nfo' : fo ≠ jo := nfo
      have hfo' := o _ _ nfo hfo
      refine ⟨_, rfl, fo, _, rfl, .inr (sqT (by rw [upd_ne nfo, upd_ne nfo]; exact hfo')), _, rfl, jo, _, dx, _, rfl, upd_same, T.c_TownJournal, T.a_TownJournal_many, (by show 3 < 1000; decide), ?_⟩
      rw [List.length_map, hblen, upd_upd, upd_upd]
      have o4 : ∀ {u : HO}, Off (· = jo) H' (upd H' jo u) := fun {u} => Off.refl.upd rfl
      exact k _ y st' ((Off.same e1).trans (o.trans o4)) (none_back e1 htx0) (none_back e1 hpa1) (none_back e1 hst') rfl upd_same (hS.offJ o4 hjj (by show (1 : Nat) ≠ 3; decide) (by show (1 : Nat) ≠ 7; decide))
end
end MC
end
section
set_option Elab.async false
set_option linter.all false
set_option maxRecDepth 100000
set_option maxHeartbeats 4000000
/-! The defs, 39: TownJournal: do. -/
namespace MC
open PySem PySem.Spec PyProof.Rows L2 TL
/-- what of a journal's town may turn -/
def mutJ (jo : Addr) (y : TAd) (st : Addr) (b : Addr) : Prop := b = jo ∨ mutS y st b
/-- a journal as it lies, its town too -/
structure JourS (K : PySem.W.Frag) (H : Hp) (jo dx : Addr) (y : TAd) (p : Plan) (most : Nat) (s : TSt) (st : Addr) (text loose : Str) (many : Nat) : Prop where
  at_ : H jo = some (jourO K dx y.tw text loose many)
  tn : TownS K H y p most s st
theorem mutS_kind {K : PySem.W.Frag} {H : Hp} {y : TAd} {p : Plan} {most : Nat} {s : TSt} {st : Addr} (h : TownS K H y p most s st) {b : Addr} (hb : mutS y st b) : (∃ dx fs, H b = some (.ins (He.ga K "Town") dx fs) ∧ fs.length = 7) ∨ ∃ kvs, H b = some (.dK kvs) := by
  obtain ⟨R, dn, r, v, hT, hne, full⟩ := h
  rcases hb with (rfl | rfl) | rfl
  · exact .inl ⟨_, _, hT.at_, rfl⟩
  · exact .inr ⟨_, hT.pa⟩
  · exact .inr ⟨_, hT.st⟩
theorem mutS_not {K : PySem.W.Frag} {H : Hp} {y : TAd} {p : Plan} {most : Nat} {s : TSt} {st : Addr} (h : TownS K H y p most s st) {b : Addr} {u : HO} (hu : H b = some u) (n1 : ∀ C dx fs, u = .ins C dx fs → fs.length ≠ 7) (n2 : ∀ kvs, u ≠ .dK kvs) : ¬ mutS y st b := fun hb => by
  rcases mutS_kind h hb with ⟨dx, fs, e, hl⟩ | ⟨kvs, e⟩
  · rw [hu] at e
    exact n1 _ _ _ (Option.some.inj e) hl
  · rw [hu] at e
    exact n2 _ (Option.some.inj e)
theorem JourS.njo {K : PySem.W.Frag} {H : Hp} {jo dx : Addr} {y : TAd} {p : Plan} {most : Nat} {s : TSt} {st : Addr} {text loose : Str} {many : Nat} (h : JourS K H jo dx y p most s st text loose many) : ¬ mutS y st jo := mutS_not h.tn h.at_ (fun C dx fs e => by
  injection e with _ _ e
  rw [← e]
  show (4 : Nat) ≠ 7
  decide) fun kvs e => by cases e
theorem JourS.same {K : PySem.W.Frag} {H H' : Hp} {jo dx : Addr} {y : TAd} {p : Plan} {most : Nat} {s : TSt} {st : Addr} {text loose : Str} {many : Nat} (h : JourS K H jo dx y p most s st text loose many) (e : Same H H') : JourS K H' jo dx y p most s st text loose many := ⟨e _ _ h.at_, h.tn.same e⟩
theorem Deed.out.upd {H H' : Hp} {d : Deed} {u : V} (h : d.out H u) : d.out H' u := by cases d <;> exact h
section
variable {P : Program} {w : World} {K : PySem.W.Frag} {mg : Str → Option Value} {base : Heap}
def spJDo (K : PySem.W.Frag) : Sp := fun vs H Q E => ∃ (jo dx : Addr) (y : TAd) (p : Plan) (most : Nat) (s : TSt) (st : Addr) (text loose : Str) (many : Nat) (dd : Addr) (row : List Str), vs = [.ref jo, .ref dd] ∧ JourS K H jo dx y p most s st text loose many ∧ PInv p most ∧ SInv p most s ∧ s.ps.length ≤ 90 ∧ loose.length ≤ 50000 ∧ many ≤ 900 ∧ H dd = some (.tup (row.map V.str)) ∧
  ((∃ d : Deed, row = d.row ∧ d.ok p most s ∧
      (d.taken p most s → ∀ H' st' u, Off (mutJ jo y st) H H' → H st' = none → JourS K H' jo dx y p most (d.app s) st' text (loose ++ lineOf many d.row ++ "\n") (many + 1) → d.out H' u → Q u H') ∧
      (¬ d.taken p most s → ∀ H' q, Off (mutJ jo y st) H H' → JourS K H' jo dx y p most s st text loose many → Q (.ref q) H')) ∨
    (RowBad p s row ∧ ∀ H' d x, Same H H' → H' d = none → E (.ref (He.ga K "BadName")) (some d) (upd H' d (.xd [("name", x)]))))
theorem ok_jDo (T : Txt P w K mg) : Has P w K mg base (L2.CX P w) 11 (He.fAd K ("TownJournal", some "do")) ["self", "deed"] (spJDo K) := by
  obtain ⟨fd, F⟩ := T.d_TownJournalDo
  obtain ⟨fdD, GD, bD, kD⟩ := ok_doIn (base := base) T
  obtain ⟨fdL, GL, bL, kL⟩ := ok_townLine (base := base) T
  have sc : FnScope ["self", "deed", "found"] ["self", "deed"] (defScope sTownJournalDo) := ⟨rfl, rfl, rfl, by decide +kernel, rfl, by decide +kernel, by decide +kernel⟩
  refine ⟨fd, F.ok sc (fun vs H Q E h => ?_) (fun cdv A outer s H vs Q E hr h => ?_), F.bindsN fun _ _ _ _ _ _ us hl => match us, hl with | [_, _], _ => rfl, F.kp⟩
  · obtain ⟨jo, dx, y, p, most, s, st, text, loose, many, dd, row, rfl, _⟩ := h
    rfl
  · obtain ⟨jo, dx, y, p, most, s, st, text, loose, many, dd, row, rfl, hJ, PI, SI, hpl, hll, hml, hdd, h⟩ := h
    refine ⟨_, pss_cons (ps_set (i := 2) sc.nd rfl (Or.inl rfl) (pe_call GD hr (by rfl) T.g_do_in kD bD .nil (passes_call (takes_of rfl rfl rfl rfl) (fun _ _ _ _ h => h)) (pa_cons (pe_fld (pv 0) rfl) (pa_cons (pv 1) pa_nil))))
      (pss_cons (ps_if (PW.pt (pw_or (pt_cmpR op_ne (pe_ix ix_tup (pv 1) pe_int (fun _ _ => rfl)) pe_str (nomark _)) (pw_or1 (pt_cmp (pc_isN (pv 2))))))
        (pss_cons (ps_fld (pv 0) (pe_op op_add_str (pe_op op_add_str (pe_fld (pv 0) rfl) (pe_call GL (hr.mono (by decide)) (by rfl) T.g_town_line kL bL .nil pass0 (pa_cons (pe_fld (pv 0) rfl) (pa_cons (pv 1) pa_nil)))) pe_str) rfl)
          (pss_one (ps_fldaug (pv 0) pe_int in_add))) pss_nil)
      (pss_one (ps_ret (pv 2)))), ?_⟩
    have njo := hJ.njo
    have ndd : ¬ mutS y st dd := mutS_not hJ.tn hdd (fun C dx fs e => by cases e) fun kvs e => by cases e
    rcases h with ⟨d, rfl, dok, kT, kN⟩ | ⟨rb, kX⟩
    · have hpd := deed_plain PI SI dok
      obtain ⟨hr2, hr3⟩ := row_len d
      refine ⟨_, rfl, _, _, _, _, _, rfl, hJ.at_, T.c_TownJournal, T.a_TownJournal_town, rfl, _, rfl, y, p, most, s, st, _, rfl, hJ.tn, PI, SI, hpl, .inl ⟨dd, d, rfl, hdd, dok, fun tk H1 st1 u o1 h1 hS1 hu => ?_, fun nt H1 q o1 hS1 => ?_⟩⟩
      · have h1j := o1 _ _ njo hJ.at_
        have h1d := o1 _ _ ndd hdd
        obtain ⟨a, r, er⟩ : ∃ a r, d.row = a :: r := by cases d <;> exact ⟨_, _, rfl⟩
        have h1d' : H1 dd = some (.tup (V.str a :: r.map V.str)) := by rw [h1d, er]; rfl
        have hcase : (a = "begin" ∧ u = .non) ∨ a ≠ "begin" := by
          cases d with
          | beg n z => exact .inl ⟨by injection er with e _; exact e.symm, hu⟩
          | go n z => exact .inr (by injection er with e _; rw [← e]; decide +kernel)
          | en n => exact .inr (by injection er with e _; rw [← e]; decide +kernel)
          | fal m => exact .inr (by injection er with e _; rw [← e]; decide +kernel)
          | ris m => exact .inr (by injection er with e _; rw [← e]; decide +kernel)
        have kk := kT tk
        refine ⟨_, rfl, dd, _, 0, .str a, rfl, rfl, sqT h1d', atI0 _ _, rfl, _, rfl, ?_⟩
        rw [dec_str]
        rcases hcase with ⟨ha, rfl⟩ | ha
        case' inl =>
          rw [decide_eq_true ha]
          refine itF ⟨_, rfl, _, rfl, itT ?_⟩
        case' inr =>
          rw [decide_eq_false ha]
          refine itT (itT ?_)
        all_goals
          refine ⟨_, rfl, jo, _, dx, _, _, rfl, h1j, T.c_TownJournal, T.a_TownJournal_loose, rfl, _, rfl, jo, _, dx, _, _, rfl, h1j, T.c_TownJournal, T.a_TownJournal_many, rfl, _, rfl, dd, many, d.row, rfl, sqT h1d, by omega, by omega, fun w hw => by have := (hpd w hw).1; omega, fun H2 e2 => ?_⟩
          have hlen := line_len (n := many) hpd hr3 (by omega)
          have h2j := e2 _ _ h1j
          have hnl : ("\n" : Str).length = 1 := by decide +kernel
          refine ⟨_, _, rfl, rfl, by rw [sizeLine_eq]; omega, _, _, rfl, rfl, by rw [lenAppend, hnl, sizeLine_eq]; omega, ?_⟩
          refine ⟨_, rfl, jo, _, dx, _, rfl, h2j, T.c_TownJournal, T.a_TownJournal_loose, (by show 4 < 1000; decide), ?_⟩
          refine ⟨_, rfl, jo, _, dx, _, _, rfl, upd_same, T.c_TownJournal, T.a_TownJournal_many, rfl, _, _, rfl, rfl, dx, _, upd_same, (by show 4 < 1000; decide), ?_⟩
          rw [upd_upd]
          have o2 : ∀ {v : HO}, Off (· = jo) H2 (upd H2 jo v) := fun {v} => Off.refl.upd rfl
          refine ⟨_, rfl, kk _ st1 _ ((o1.mono fun b hb => .inr hb).trans ((Off.same e2).trans (o2.mono fun b hb => .inl hb))) h1 ⟨upd_same, (hS1.same e2).offJ o2 h2j (by show (4 : Nat) ≠ 3; decide) (by show (4 : Nat) ≠ 7; decide)⟩ ?_⟩
          exact hu.upd
      · have h1j := o1 _ _ njo hJ.at_
        have h1d := o1 _ _ ndd hdd
        cases d with
        | beg n z =>
          refine ⟨_, rfl, dd, _, 0, .str "begin", rfl, rfl, sqT h1d, atI0 _ _, rfl, _, rfl, ?_⟩
          rw [dec_str, decide_eq_true rfl]
          refine itF ⟨_, rfl, _, rfl, itF ⟨_, rfl, ?_⟩⟩
          exact kN nt H1 q (o1.mono fun b hb => .inr hb) ⟨h1j, hS1⟩
        | go n z => exact absurd trivial nt
        | en n => exact absurd trivial nt
        | fal m => exact absurd trivial nt
        | ris m => exact absurd trivial nt
    · exact ⟨_, rfl, _, _, _, _, _, rfl, hJ.at_, T.c_TownJournal, T.a_TownJournal_town, rfl, _, rfl, y, p, most, s, st, _, rfl, hJ.tn, PI, SI, hpl, .inr (.inl ⟨dd, row, rfl, hdd, rb, fun H' d x e hd => kX H' d x e hd⟩)⟩
end
end MC
end
section
set_option Elab.async false
set_option linter.all false
set_option maxRecDepth 100000
set_option maxHeartbeats 4000000
/-! The defs, 40: TownJournal: fallen. -/
namespace MC
open PySem PySem.Spec PyProof.Rows L2 TL
section
variable {P : Program} {w : World} {K : PySem.W.Frag} {mg : Str → Option Value} {base : Heap}
/-- no place of a cut -/
def BadPlace (n : Nat) (v : V) : Prop := (∃ z, v = .str z) ∨ ∃ i : Int, v = .int i ∧ ¬ (0 ≤ i ∧ i ≤ (n : Int))
def spFallen (K : PySem.W.Frag) : Sp := fun vs H Q E => ∃ (jo dx tw : Addr) (text loose : Str) (many : Nat) (v : V), vs = [.ref jo, v] ∧ H jo = some (jourO K dx tw text loose many) ∧ text.length + loose.length ≤ 90000 ∧
  ((∃ c : Nat, v = .int (c : Int) ∧ c ≤ loose.length ∧ ∀ H', Same H H' → Q (.str (text ++ cutS loose none (some (c : Int)))) H') ∨
    (BadPlace loose.length v ∧ ∀ H' d, Same H H' → H' d = none → E (.ref (He.ga K "BadCut")) (some d) (upd H' d (.xd [("place", v)]))))
theorem ok_fallen (T : Txt P w K mg) : Has P w K mg base (L2.CX P w) 2 (He.fAd K ("TownJournal", some "fallen")) ["self", "cut"] (spFallen K) := by
  obtain ⟨fd, F⟩ := T.d_TownJournalFallen
  obtain ⟨fdW, GW, bW, kW⟩ := ok_isWhole (base := base) T
  obtain ⟨fI, cc, cda, hbad⟩ := T.badCut
  have sc : FnScope ["self", "cut"] ["self", "cut"] (defScope sTownJournalFallen) := ⟨rfl, rfl, rfl, by decide +kernel, rfl, by decide +kernel, by decide +kernel⟩
  refine ⟨fd, F.ok sc (fun vs H Q E h => ?_) (fun cdv A outer s H vs Q E hr h => ?_), F.bindsN fun _ _ _ _ _ _ us hl => match us, hl with | [_, _], _ => rfl, F.kp⟩
  · obtain ⟨jo, dx, tw, text, loose, many, v, rfl, _⟩ := h
    rfl
  · obtain ⟨jo, dx, tw, text, loose, many, v, rfl, hj, hl, h⟩ := h
    refine ⟨_, pss_cons (ps_if (pt_not (pt_val (pe_call GW (hr.mono (by decide)) (by rfl) T.g_is_whole kW bW .nil pass0 (pa_cons (pv 1) (pa_cons pe_int (pa_cons (pe_callB call_len (by rfl) T.z_len bt_len (pa_cons (pe_fld (pv 0) rfl) pa_nil)) pa_nil))))))
        (pss_one (ps_raise (by rfl) (takes_of rfl rfl rfl rfl) (pmk_bad hbad fld_place hr (pa_cons (pv 1) pa_nil) (by rfl)))) pss_nil)
      (pss_one (ps_ret (pe_op op_add_str (pe_fld (pv 0) rfl) (pe_slice sl_str (pe_fld (pv 0) rfl) po_none (po_some (pv 1)))))), ?_⟩
    refine ⟨_, rfl, _, rfl, jo, _, dx, _, _, rfl, hj, T.c_TownJournal, T.a_TownJournal_loose, rfl, _, _, rfl, ⟨by show loose.length ≤ _; rw [sizeLine_eq]; omega, rfl⟩, ?_⟩
    have hsz : loose.length ≤ sizeLine := by rw [sizeLine_eq]; omega
    rcases h with ⟨c, rfl, hc, k⟩ | ⟨hb, k⟩
    · refine .inl ⟨(c : Int), 0, (loose.length : Int), rfl, true, ?_, itF ?_⟩
      · rw [decide_eq_true (show (0 : Int) ≤ (c : Int) by omega), decide_eq_true (show (c : Int) ≤ (loose.length : Int) by omega)]
        rfl
      · have hcl := cutS_length loose none (some (c : Int))
        refine ⟨_, rfl, jo, _, dx, _, _, rfl, hj, T.c_TownJournal, T.a_TownJournal_text, rfl, _, rfl, jo, _, dx, _, _, rfl, hj, T.c_TownJournal, T.a_TownJournal_loose, rfl, _, rfl, _, rfl, loose, rfl, hsz, _, _, rfl, rfl, by rw [sizeLine_eq]; omega, k _ (Same.refl _)⟩
    · rcases hb with ⟨z, rfl⟩ | ⟨i, rfl, hi⟩
      · exact .inr ⟨z, 0, (loose.length : Int), rfl, false, rfl, itT ⟨_, rfl, _, rfl, fun d hd => k _ d (Same.refl _) hd⟩⟩
      · refine .inl ⟨i, 0, (loose.length : Int), rfl, false, ?_, itT ⟨_, rfl, _, rfl, fun d hd => k _ d (Same.refl _) hd⟩⟩
        by_cases h0 : 0 ≤ i
        · rw [decide_eq_false (show ¬ i ≤ (loose.length : Int) from fun h => hi ⟨h0, h⟩), Bool.and_false]
        · rw [decide_eq_false h0, Bool.false_and]
end
end MC
end
section
set_option Elab.async false
set_option linter.all false
set_option maxRecDepth 100000
set_option maxHeartbeats 4000000
/-! The defs, 41: Map's making. -/
namespace MC
open PySem PySem.Spec PyProof.Rows L2
/-- what the map is made of -/
structure RawOk (chan : List (Str × Int)) (hd : List (Str × List Str)) (R : List (Addr × (Str × Str))) : Prop where
  cn : (keysL chan).Nodup
  hn : (keysL hd).Nodup
  cw : ∀ c ∈ chan, isNameB c.1 = true ∧ 0 ≤ c.2 ∧ c.2 ≤ 1000
  hw : ∀ h ∈ hd, isNameB h.1 = true ∧ (∀ m ∈ h.2, m ∈ keysL chan) ∧ h.2.Nodup ∧ h.2.length ≤ 8
  rw' : ∀ r ∈ R, r.2.1 ∈ keysL hd ∧ r.2.2 ∈ keysL hd
  rn : (R.map (·.2)).Nodup
  cl : chan.length ≤ 8
  hl : hd.length ≤ 8
  rl : R.length ≤ 60
def rTupOf (K : PySem.W.Frag) : List V → Hp → VK → Prop := fun xs H Q => ∃ p ys, xs = [.ref p] ∧ ((SqL K H p ys ∧ ∀ l, H l = none → Q (.ref l) (upd H l (.tup ys))) ∨ (SqT K H p ys ∧ Q (.ref p) H))
/-- the map that comes of it -/
def mkPlan (chan : List (Str × Int)) (hd : List (Str × List Str)) (R : List (Addr × (Str × Str))) : Plan := ⟨sortL 0 chan, (sortL [] hd).map fun h => (h.1, sortS h.2), R.map (·.2)⟩
theorem mkPlan_masts {chan : List (Str × Int)} {hd : List (Str × List Str)} {R : List (Addr × (Str × Str))} {m : Str} : m ∈ (mkPlan chan hd R).masts ↔ m ∈ keysL chan := mem_sortL
theorem mkPlan_zones0 {chan : List (Str × Int)} {hd : List (Str × List Str)} {R : List (Addr × (Str × Str))} : (mkPlan chan hd R).zones = keysL (sortL [] hd) := keysL_map _ _
theorem mkPlan_zones {chan : List (Str × Int)} {hd : List (Str × List Str)} {R : List (Addr × (Str × Str))} {z : Str} : z ∈ (mkPlan chan hd R).zones ↔ z ∈ keysL hd := by
  rw [mkPlan_zones0]
  exact mem_sortL
theorem mkPlan_ok {chan : List (Str × Int)} {hd : List (Str × List Str)} {R R' : List (Addr × (Str × Str))} (h : RawOk chan hd R) (pm : R'.Perm R) : (mkPlan chan hd R').Ok := by
  have hh : ∀ x ∈ (mkPlan chan hd R').heard, ∃ c ∈ hd, x = (c.1, sortS c.2) := fun x hx => by
    obtain ⟨c, hc, rfl⟩ := List.mem_map.mp hx
    exact ⟨c, (sortL_mem h.hn).mp hc, rfl⟩
  refine ⟨nodup_sortL h.cn, by rw [mkPlan_zones0]; exact nodup_sortL h.hn, fun c hc => (h.cw c ((sortL_mem h.cn).mp hc)).2, fun x hx m hm => ?_, fun x hx => ?_, fun x hx => ?_, fun r hr => ?_, ?_, ?_, ?_⟩
  · obtain ⟨c, hc, rfl⟩ := hh x hx
    exact mkPlan_masts.mpr ((h.hw c hc).2.1 m ((sortS_perm _).mem_iff.mp hm))
  · obtain ⟨c, hc, rfl⟩ := hh x hx
    exact (sortS_perm _).nodup_iff.mpr (h.hw c hc).2.2.1
  · obtain ⟨c, hc, rfl⟩ := hh x hx
    show (sortS c.2).length ≤ 8
    rw [(sortS_perm _).length_eq]
    exact (h.hw c hc).2.2.2
  · obtain ⟨q, hq, rfl⟩ := List.mem_map.mp hr
    obtain ⟨a, b⟩ := h.rw' q (pm.mem_iff.mp hq)
    exact ⟨mkPlan_zones.mpr a, mkPlan_zones.mpr b⟩
  · show (sortL 0 chan).length ≤ 8
    rw [length_sortL]
    exact h.cl
  · show (List.map _ (sortL [] hd)).length ≤ 8
    rw [List.length_map, length_sortL]
    exact h.hl
  · show (List.map _ R').length ≤ 60
    rw [List.length_map, pm.length_eq]
    exact h.rl
theorem itFe {c : Bool} {p q : Prop} (e : c = false) (h : q) : if c = true then p else q := by subst e; exact itF h
theorem itTe {c : Bool} {p q : Prop} (e : c = true) (h : p) : if c = true then p else q := by subst e; exact itT h
theorem roads_pre {R : List (Addr × (Str × Str))} {L : List (Addr × List Str)} (pm : L.Perm (R.map fun q => (q.1, [q.2.1, q.2.2]))) : ∃ R' : List (Addr × (Str × Str)), R'.Perm R ∧ L = R'.map fun q => (q.1, [q.2.1, q.2.2]) := by
  have h1 : (L.map fun e => (e.1, (e.2.getD 0 "", e.2.getD 1 ""))).Perm ((R.map fun q => (q.1, [q.2.1, q.2.2])).map fun e => (e.1, (e.2.getD 0 "", e.2.getD 1 ""))) := pm.map _
  have h2 : ((R.map fun q => (q.1, [q.2.1, q.2.2])).map fun e => (e.1, (e.2.getD 0 ("" : Str), e.2.getD 1 ("" : Str)))) = R := by
    rw [List.map_map]
    conv => rhs; rw [← List.map_id R]
    exact List.map_congr_left fun q _ => rfl
  rw [h2] at h1
  refine ⟨_, h1, ?_⟩
  rw [List.map_map]
  conv => lhs; rw [← List.map_id L]
  refine List.map_congr_left fun e he => ?_
  obtain ⟨q, hq, rfl⟩ := List.mem_map.mp (pm.mem_iff.mp he)
  rfl
theorem nodup_map_inj {α β : Type} {f : α → β} (hf : ∀ a b, f a = f b → a = b) : ∀ {l : List α}, l.Nodup → (l.map f).Nodup
  | [], _ => List.nodup_nil
  | a :: l, h => by
    rw [List.nodup_cons] at h
    rw [List.map_cons, List.nodup_cons]
    refine ⟨fun hm => ?_, nodup_map_inj hf h.2⟩
    obtain ⟨x, hx, e⟩ := List.mem_map.mp hm
    exact h.1 (hf _ _ e ▸ hx)
def addrOf (R : List (Addr × (Str × Str))) (r : Str × Str) : Addr := ((R.find? fun q => decide (q.2 = r)).map (·.1)).getD 0
theorem addrOf_eq : ∀ {R : List (Addr × (Str × Str))} {q : Addr × (Str × Str)}, (R.map (·.2)).Nodup → q ∈ R → addrOf R q.2 = q.1
  | [], _, _, h => by cases h
  | a :: R, q, hn, h => by
    rw [List.map_cons, List.nodup_cons] at hn
    unfold addrOf
    rw [List.find?_cons]
    by_cases e : a.2 = q.2
    · rw [decide_eq_true e]
      rcases List.mem_cons.mp h with rfl | h
      · rfl
      · exact absurd (e ▸ List.mem_map_of_mem h) hn.1
    · rw [decide_eq_false e]
      rcases List.mem_cons.mp h with rfl | h
      · exact absurd rfl e
      · exact addrOf_eq hn.2 h
section
variable {P : Program} {w : World} {K : PySem.W.Frag} {mg : Str → Option Value} {base : Heap}
def spMapInit (K : PySem.W.Frag) : Sp := fun vs H Q _ => ∃ (x dx ca ha ra : Addr) (chan : List (Str × Int)) (hd : List (Str × List Str)) (β : Str → Addr) (R : List (Addr × (Str × Str))), vs = [.ref x, .ref ca, .ref ha, .ref ra] ∧ H x = some (.ins (He.ga K "Map") dx []) ∧
  H ca = some (.dK (dV V.int chan)) ∧ H ha = some (.dK (dV V.ref (hd.map fun h => (h.1, β h.1)))) ∧ (∀ h ∈ hd, H (β h.1) = some (.lst (h.2.map V.str))) ∧ H ra = some (.lst (R.map fun q => V.ref q.1)) ∧ (∀ q ∈ R, H q.1 = some (.tup [.str q.2.1, .str q.2.2])) ∧ RawOk chan hd R ∧
  ∀ H' R', Off (· = x) H H' → R'.Perm R → PlanAt K H' x (mkPlan chan hd R') → Q .non H'
theorem ok_mapInit (T : Txt P w K mg) : Has P w K mg base CX0 2 (He.fAd K ("Map", some "__init__")) ["self", "channels", "heard", "roads"] (spMapInit K) := by
  obtain ⟨fd, F⟩ := T.d_MapInit
  obtain ⟨fdN, GN, bN, kN⟩ := ok_isName (base := base) T
  obtain ⟨fdW, GW, bW, kW⟩ := ok_isWhole (base := base) T
  obtain ⟨tm, hM⟩ := T.most
  have sc : FnScope ["self", "channels", "heard", "roads", "mast", "many", "zone", "masts", "road"] ["self", "channels", "heard", "roads"] (defScope sMapInit) := ⟨rfl, rfl, rfl, by decide +kernel, rfl, by decide +kernel, by decide +kernel⟩
  refine ⟨fd, F.ok sc (fun vs H Q E h => ?_) (fun cdv A outer s H vs Q E hr h => ?_), F.bindsN fun _ _ _ _ _ _ us hl => match us, hl with | [_, _, _, _], _ => rfl, F.kp⟩
  · obtain ⟨x, dx, ca, ha, ra, chan, hd, β, R, rfl, _⟩ := h
    rfl
  · obtain ⟨x, dx, ca, ha, ra, chan, hd, β, R, rfl, hx, hca, hha, hβ, hra, hR, ok, k⟩ := h
    refine ⟨_, PSs.nox (pss_cons (ps_lock (ps_for PassesOwn.never rfl (pi_items (pv 1)) (pg_tup (by rfl) (pgs_cons (pg_name (i := 4) sc.nd rfl (by first | exact Or.inl rfl | exact Or.inr rfl)) (pgs_cons (pg_name (i := 5) sc.nd rfl (Or.inl rfl)) pgs_nil)))
        (pss_cons (ps_if (pt_not (pt_val (pe_call GN (hr.mono (by decide)) (by rfl) T.g_is_name kN bN .nil pass0 (pa_cons (pv 4) pa_nil)))) (pss_one ps_never) pss_nil)
        (pss_one (ps_if (pt_not (pt_val (pe_call GW (hr.mono (by decide)) (by rfl) T.g_is_whole kW bW .nil pass0 (pa_cons (pv 5) (pa_cons pe_int (pa_cons (pe_glob (v := .int 1000) (by rfl) hM ⟨_, rfl⟩) pa_nil)))))) (pss_one ps_never) pss_nil)))))
      (pss_cons (ps_lock (ps_for PassesOwn.never rfl (pi_items (pv 2)) (pg_tup (by rfl) (pgs_cons (pg_name (i := 6) sc.nd rfl (by first | exact Or.inl rfl | exact Or.inr rfl)) (pgs_cons (pg_name (i := 7) sc.nd rfl (Or.inl rfl)) pgs_nil)))
        (pss_cons (ps_if (pt_not (pt_val (pe_call GN (hr.mono (by decide)) (by rfl) T.g_is_name kN bN .nil pass0 (pa_cons (pv 6) pa_nil)))) (pss_one ps_never) pss_nil)
        (pss_one (ps_if (PW.pt (pw_or (pt_not (pt_val (pe_callB (cr_all (by rfl)) (by rfl) T.z_all bt_all (pa_cons (pe_lc (own := [("mast", 4)]) (te := tDIn (tVar 4) (tVar 1)) (by rfl) sc.nd (pi_list (pv 7))
            (by exact blk_ok (N := ["self", "channels", "heard", "roads", "mast", "many", "zone", "masts", "road"]) (sc := defScope sMapInit) (by decide +kernel)) (fun _ _ _ _ _ => pg_name (i := 4) sc.nd rfl (Or.inl rfl)) (fun _ _ _ _ _ => pts_nil) (fun _ _ _ _ _ => pe_cmp (pc_din (by exact hr.u1) (pv 4) (pv 1)))) pa_nil))))
          (pw_or1 (pt_cmpR op_ne (pe_callB cr_lenSetS (by rfl) T.z_len bt_len (pa_cons (pe_callTy (cr_setS (by rfl)) (by rfl) T.z_set bt_set (pa_cons (pv 7) pa_nil)) pa_nil)) (pe_callB call_len_seq (by rfl) T.z_len bt_len (pa_cons (pv 7) pa_nil)) (nomark _))))) (pss_one ps_never) pss_nil)))))
      (pss_cons (ps_for PassesOwn.never rfl (pi_list (pv 3)) (pg_name (i := 8) sc.nd rfl (by first | exact Or.inl rfl | exact Or.inr rfl))
        (pss_one (ps_if (PW.pt (pw_or (pt_cmpR op_ne (pe_callB call_len_seq (by rfl) T.z_len bt_len (pa_cons (pv 8) pa_nil)) pe_int (nomark _)) (pw_or1 (pt_not (pt_val (pe_callB (cr_all (by rfl)) (by rfl) T.z_all bt_all (pa_cons (pe_lc (own := [("zone", 6)]) (te := tDIn (tVar 6) (tVar 2)) (by rfl) sc.nd (pi_tup (pv 8))
            (by exact blk_ok (N := ["self", "channels", "heard", "roads", "mast", "many", "zone", "masts", "road"]) (sc := defScope sMapInit) (by decide +kernel)) (fun _ _ _ _ _ => pg_name (i := 6) sc.nd rfl (Or.inl rfl)) (fun _ _ _ _ _ => pts_nil) (fun _ _ _ _ _ => pe_cmp (pc_din (by exact hr.u1) (pv 6) (pv 2)))) pa_nil))))))) (pss_one ps_never) pss_nil)))
      (pss_cons (ps_fld (pv 0) (pe_dc (own := [("mast", 4)]) (tk := tVar 4) (tv := tDGet (tVar 1) (tVar 4)) (by rfl) sc.nd (pi_list (pe_callB (cr_sortedStr (by rfl) (by exact hr.units)) (by rfl) T.z_sorted bt_sorted (pa_cons (pv 1) pa_nil)))
          (by exact blk_ok (N := ["self", "channels", "heard", "roads", "mast", "many", "zone", "masts", "road"]) (sc := defScope sMapInit) (by decide +kernel)) (fun _ _ _ _ _ => pg_name (i := 4) sc.nd rfl (Or.inl rfl)) (fun _ _ _ _ _ => pts_nil) (fun _ _ _ _ _ => pv 4) (fun _ _ _ _ _ => pe_dget (by exact hr.u1) (pv 1) (pv 4) (fun _ _ => rfl))) rfl)
      (pss_cons (ps_fld (pv 0) (pe_dc (own := [("zone", 6)]) (tk := tVar 6) (tv := tCB (rTupOf K) (tCons (tCB (rSortedStr K) (tCons (tDGet (tVar 2) (tVar 6)) tNil)) tNil)) (by rfl) sc.nd (pi_list (pe_callB (cr_sortedStr (by rfl) (by exact hr.units)) (by rfl) T.z_sorted bt_sorted (pa_cons (pv 2) pa_nil)))
          (by exact blk_ok (N := ["self", "channels", "heard", "roads", "mast", "many", "zone", "masts", "road"]) (sc := defScope sMapInit) (by decide +kernel)) (fun _ _ _ _ _ => pg_name (i := 6) sc.nd rfl (Or.inl rfl)) (fun _ _ _ _ _ => pts_nil) (fun _ _ _ _ _ => pv 6)
          (fun _ _ _ _ _ => pe_callTy call_tuple_of (by rfl) T.z_tuple bt_tuple (pa_cons (pe_callB (cr_sortedStr (by rfl) (by exact hr.units)) (by rfl) T.z_sorted bt_sorted (pa_cons (pe_dget (by exact hr.u1) (pv 2) (pv 6) (fun _ _ => rfl)) pa_nil)) pa_nil))) rfl)
      (pss_one (ps_fld (pv 0) (pe_callTy call_tuple_of (by rfl) T.z_tuple bt_tuple (pa_cons (pe_callB (cr_sortedSetR (by rfl) (by exact hr.units)) (by rfl) T.z_sorted bt_sorted (pa_cons (pe_callTy (cr_setR (by rfl) (by exact hr.units)) (by rfl) T.z_set bt_set (pa_cons
          (pe_lc (own := [("road", 8)]) (te := tCB (rTupOf K) (tCons (tVar 8) tNil)) (by rfl) sc.nd (pi_list (pv 3)) (by exact blk_ok (N := ["self", "channels", "heard", "roads", "mast", "many", "zone", "masts", "road"]) (sc := defScope sMapInit) (by decide +kernel)) (fun _ _ _ _ _ => pg_name (i := 8) sc.nd rfl (Or.inl rfl)) (fun _ _ _ _ _ => pts_nil)
            (fun _ _ _ _ _ => pe_callTy call_tuple_of (by rfl) T.z_tuple bt_tuple (pa_cons (pv 8) pa_nil))) pa_nil)) pa_nil)) pa_nil)) rfl))))))), ?_⟩
    have hha' := hha
    have hln : (keysL (hd.map fun h => (h.1, β h.1))) = keysL hd := keysL_map _ _
    -- the first loop
    refine ⟨ca, _, hca, trivial, fun od => ?_⟩
    obtain ⟨HB, eHB⟩ : ∃ HB, HB = upd H ca (.frz od (.dK (dV V.int chan))) := ⟨_, rfl⟩
    have hBc : HB ca = some (.frz od (.dK (dV V.int chan))) := by rw [eHB]; exact upd_same
    rw [← eHB]
    refine ⟨_, rfl, ca, od, _, rfl, hBc, ?_⟩
    refine for_it walk_itemsL (fun i σ H' => ∃ v4 v5, σ = [some (.ref x), some (.ref ca), some (.ref ha), some (.ref ra), v4, v5, none, none, none] ∧ Same HB H') ⟨none, none, rfl, Same.refl _⟩ (fun i σ H' _ ⟨_, _, _, e⟩ => e _ _ hBc) ?_ ?_
    · rintro i y σ H' H'' hi ⟨v4, v5, rfl, e⟩ ⟨t, c, hc, rfl, ht, rfl⟩
      obtain ⟨o1, o2, o3⟩ := ok.cw c (List.mem_of_getElem? hc)
      have o4 := name_len o1
      have e1 : Same HB (upd H' t (.tup [.str c.1, .int c.2])) := e.upd ht
      refine ⟨t, _, rfl, sqT upd_same, rfl, _, _, rfl, _, _, rfl, rfl, ?_⟩
      refine ⟨_, rfl, c.1, rfl, by omega, fun H1 e2 => ⟨true, by rw [o1], itF ?_⟩⟩
      refine ⟨_, rfl, .inl ⟨c.2, 0, 1000, rfl, true, by rw [decide_eq_true o2, decide_eq_true o3]; rfl, itF ?_⟩⟩
      exact ⟨_, _, rfl, e1.trans e2⟩
    rintro σ H1 ⟨v4, v5, rfl, e⟩
    refine ⟨e _ _ hBc, ?_⟩
    have eA : Same H (upd H1 ca (.dK (dV V.int chan))) := same_lock hca (by rw [← eHB]; exact e)
    obtain ⟨H2, eH2⟩ : ∃ H2, H2 = upd H1 ca (.dK (dV V.int chan)) := ⟨_, rfl⟩
    rw [← eH2] at eA ⊢
    clear eH2 e eHB hBc
    -- the second
    have hha2 := eA _ _ hha
    refine ⟨ha, _, hha2, trivial, fun od => ?_⟩
    obtain ⟨HB, eHB⟩ : ∃ HB, HB = upd H2 ha (.frz od (.dK (dV V.ref (hd.map fun h => (h.1, β h.1))))) := ⟨_, rfl⟩
    have hBc : HB ha = some (.frz od (.dK (dV V.ref (hd.map fun h => (h.1, β h.1))))) := by rw [eHB]; exact upd_same
    have hcB : Rd HB ca (.dK (dV V.int chan)) := by rw [eHB]; exact rd_lock hha2 trivial (.inl (eA _ _ hca))
    have hgB : ∀ c ∈ hd, HB (β c.1) = some (.lst (c.2.map V.str)) := fun c hc => by
      rw [eHB]
      exact at_lock hha2 (eA _ _ (hβ c hc)) (by intro z; cases z)
    rw [← eHB]
    refine ⟨_, rfl, ha, od, _, rfl, hBc, ?_⟩
    refine for_it walk_itemsL (fun i σ H' => ∃ v6 v7, σ = [some (.ref x), some (.ref ca), some (.ref ha), some (.ref ra), v4, v5, v6, v7, none] ∧ Same HB H') ⟨none, none, rfl, Same.refl _⟩ (fun i σ H' _ ⟨_, _, _, e⟩ => e _ _ hBc) ?_ ?_
    · rintro i y σ H' H'' hi ⟨v6, v7, rfl, e⟩ ⟨t, c', hc', rfl, ht, rfl⟩
      obtain ⟨c, hc, rfl⟩ : ∃ c, hd[i]? = some c ∧ c' = (c.1, β c.1) := by
        rw [List.getElem?_map] at hc'
        obtain ⟨c, h1, h2⟩ := Option.map_eq_some_iff.mp hc'
        exact ⟨c, h1, h2.symm⟩
      have hcm := List.mem_of_getElem? hc
      obtain ⟨o1, o2, o3, o4⟩ := ok.hw c hcm
      have o5 := name_len o1
      have e1 : Same HB (upd H' t (.tup [.str c.1, .ref (β c.1)])) := e.upd ht
      refine ⟨t, _, rfl, sqT upd_same, rfl, _, _, rfl, _, _, rfl, rfl, ?_⟩
      refine ⟨_, rfl, c.1, rfl, by omega, fun H3 e2 => ⟨true, by rw [o1], itF ?_⟩⟩
      have e3 := e1.trans e2
      have q2 := e3 _ _ (hgB c hcm)
      refine ⟨_, rfl, _, rfl, ⟨_, sqL q2⟩, fun D hD => ?_⟩
      refine lc_list c.2 walk_listM (fun _ => true) (fun _ => .bl true) hD (by omega) (fun H' e => sqL (e _ _ q2)) ?_ ?_
      · intro j a x' H5 H6 ha' e5 y
        obtain ⟨rfl, rfl⟩ := yat_map ha' y
        obtain ⟨v, hv⟩ := mem_keysL.mp (o2 a (List.mem_of_getElem? ha'))
        exact ⟨Same.refl _, fun R S' hR hS => ⟨rfl, yesT ⟨_, rfl, _, rfl, ca, _, rfl, dgetS ((e3.trans e5).rd hcB) hv, hR _ (Same.refl _) rfl⟩⟩⟩
      · intro H5 e5 hDl
        rw [List.filter_eq_self.mpr fun _ _ => rfl] at hDl
        refine ⟨D, c.2.map fun _ => true, rfl, sqL (by rw [hDl, List.map_map]; rfl), true, by rw [List.all_map]; simp, itF ?_⟩
        have q2 := e5 _ _ q2
        refine ⟨_, rfl, β c.1, c.2, rfl, .inl (sqL q2), by omega, fun sa L hsa hLn hLm => ?_⟩
        have hll : L.length = c.2.length := ((List.perm_ext_iff_of_nodup hLn o3).mpr hLm).length_eq
        have e6 := e5.upd (o := SetSO P w sa L) hsa
        refine ⟨sa, L, rfl, upd_same, _, rfl, _, _, rfl, .inl (sqL (by rw [upd_ne (ne_of_none q2 hsa)]; exact q2)), ?_⟩
        refine ⟨rfl, false, by rw [decide_eq_true (by rw [hll, List.length_map])]; rfl, itF ⟨_, _, rfl, (e3.trans e5).upd hsa⟩⟩
    rintro σ H3 ⟨v6, v7, rfl, e⟩
    refine ⟨e _ _ hBc, ?_⟩
    have eB : Same H2 (upd H3 ha (.dK (dV V.ref (hd.map fun h => (h.1, β h.1))))) := same_lock hha2 (by rw [← eHB]; exact e)
    obtain ⟨H4, eH4⟩ : ∃ H4, H4 = upd H3 ha (.dK (dV V.ref (hd.map fun h => (h.1, β h.1)))) := ⟨_, rfl⟩
    rw [← eH4] at eB ⊢
    have eC := eA.trans eB
    clear eH4 e eHB hBc hgB hcB eB hha2 eA
    -- the roads
    have hca4 := eC _ _ hca
    have hha4 := eC _ _ hha
    have hra4 := eC _ _ hra
    refine ⟨_, rfl, ra, rfl, ⟨_, sqL hra4⟩, ?_⟩
    refine for_it (walk_listM (K := K) (xs := R) (f := fun q => V.ref q.1)) (fun i σ H' => ∃ v8, σ = [some (.ref x), some (.ref ca), some (.ref ha), some (.ref ra), v4, v5, v6, v7, v8] ∧ Same H4 H') ⟨none, rfl, Same.refl _⟩ (fun i σ H' _ ⟨_, _, e⟩ => sqL (e _ _ hra4)) ?_ ?_
    · rintro i y σ H' H'' hi ⟨v8, rfl, e⟩ ⟨rfl, hy⟩
      obtain ⟨q, hq⟩ : ∃ q, R[i]? = some q := ⟨_, List.getElem?_eq_getElem hi⟩
      have hqm := List.mem_of_getElem? hq
      obtain rfl : y = .ref q.1 := by
        rw [List.getElem?_map, hq] at hy
        exact (Option.some.inj hy).symm
      have hqt := e _ _ (eC _ _ (hR q hqm))
      obtain ⟨o1, o2⟩ := ok.rw' q hqm
      refine ⟨_, rfl, q.1, _, rfl, .inr (sqT hqt), rfl, _, rfl, itFe (by simp) ?_⟩
      refine ⟨_, rfl, q.1, rfl, ⟨_, sqT hqt⟩, fun D hD => ?_⟩
      refine lc_list [q.2.1, q.2.2] (walk_tupM (K := K) (a := q.1) (f := V.str)) (fun _ => true) (fun _ => .bl true) hD (by show 2 ≤ 50000; decide) (fun H' e => sqT (e _ _ hqt)) ?_ ?_
      · intro j a x' H5 H6 ha' e5 y
        obtain ⟨rfl, rfl⟩ := yat_map ha' y
        have ham : a ∈ keysL (hd.map fun h => (h.1, β h.1)) := by
          rw [hln]
          rcases List.mem_cons.mp (List.mem_of_getElem? ha') with rfl | h
          · exact o1
          · rw [List.mem_singleton.mp h]; exact o2
        obtain ⟨v, hv⟩ := mem_keysL.mp ham
        exact ⟨Same.refl _, fun R S' hR hS => ⟨rfl, yesT ⟨_, rfl, _, rfl, ha, _, rfl, dgetS (.inl ((e.trans e5) _ _ hha4)) hv, hR _ (Same.refl _) rfl⟩⟩⟩
      · intro H5 e5 hDl
        refine ⟨D, [true, true], rfl, sqL hDl, true, rfl, itF ⟨_, rfl, e.trans e5⟩⟩
    rintro σ H5 ⟨v8, rfl, e45⟩
    have eD := eC.trans e45
    have hca5 := eD _ _ hca
    have hha5 := eD _ _ hha
    have hra5 := eD _ _ hra
    have hx5 := eD _ _ hx
    have hβ5 : ∀ h ∈ hd, H5 (β h.1) = some (.lst (h.2.map V.str)) := fun h hh => eD _ _ (hβ h hh)
    have hR5 : ∀ q ∈ R, H5 q.1 = some (.tup [.str q.2.1, .str q.2.2]) := fun q hq => eD _ _ (hR q hq)
    clear hca4 hha4 hra4 eC e45
    -- the fields
    have hlc : (keysL chan).length ≤ 8 := by unfold keysL; rw [List.length_map]; exact ok.cl
    have hll : (keysL hd).length ≤ 8 := by unfold keysL; rw [List.length_map]; exact ok.hl
    have hls := (sortS_perm (keysL chan)).length_eq
    have hls2 := (sortS_perm (keysL hd)).length_eq
    have hxa : x ≠ ca := fun z => by rw [z, hca] at hx; cases hx
    have hxl : x ≠ ha := fun z => by rw [z, hha] at hx; cases hx
    have hxr : x ≠ ra := fun z => by rw [z, hra] at hx; cases hx
    refine ⟨_, rfl, ca, keysL chan, rfl, .inr (.inr ⟨_, .inl hca5, dV_keys.symm⟩), by omega, fun q hq => ⟨q, rfl, ⟨_, sqL upd_same⟩, fun D hD => ?_⟩⟩
    have e5 : Same H5 (upd H5 q (.lst ((sortS (keysL chan)).map V.str))) := Same.new hq
    refine dc_list V.int (sortS (keysL chan)) walk_listM (fun _ => true) id (fun k => (chan.lookup k).getD 0) hD (by omega) (by rw [List.map_id]; exact (sortS_perm _).nodup_iff.mpr ok.cn) (fun H' e => sqL (e _ _ upd_same)) ?_ ?_
    · intro i a y H' H6 ha e _ yy
      obtain ⟨rfl, rfl⟩ := yat_map ha yy
      obtain ⟨v, hv⟩ := mem_keysL.mp ((sortS_perm _).mem_iff.mp (List.mem_of_getElem? ha))
      refine ⟨Same.refl _, fun R S' hR hS => ⟨rfl, yesT ⟨_, rfl, _, rfl, _, rfl, ca, _, rfl, dgetS (.inl ((e5.trans e) _ _ hca5)) hv, ?_⟩⟩⟩
      have := hR _ (Same.refl _) rfl
      rw [hv] at this
      exact this
    intro H6 e6 hD6
    rw [List.filter_eq_self.mpr fun _ _ => rfl] at hD6
    have e56 := e5.trans e6
    refine ⟨_, rfl, x, _, dx, _, rfl, e56 _ _ hx5, T.c_Map, T.a_Map_channels, (by show 0 < 1000; decide), ?_⟩
    have hxD : x ≠ D := fun z => by have := e56 _ _ hx5; rw [z, hD6] at this; cases this
    obtain ⟨H7, eH7⟩ : ∃ H7, H7 = upd H6 x (.ins (He.ga K "Map") dx (putF "channels" (.ref D) [])) := ⟨_, rfl⟩
    have hx7 : H7 x = some (.ins (He.ga K "Map") dx [("channels", .ref D)]) := by rw [eH7]; exact upd_same
    have o7 : Off (· = x) H5 H7 := by rw [eH7]; exact (Off.same e56).upd rfl
    have hD7 : H7 D = some (.dK (dV V.int (sortL 0 chan))) := by
      rw [eH7, upd_ne hxD.symm]
      exact hD6
    have hha7 := o7 _ _ hxl.symm hha5
    have hra7 := o7 _ _ hxr.symm hra5
    have hβ7 : ∀ h ∈ hd, H7 (β h.1) = some (.lst (h.2.map V.str)) := fun h hh => o7 _ _ (fun e => by have := hβ5 h hh; rw [e, hx5] at this; cases this) (hβ5 h hh)
    have hR7 : ∀ q ∈ R, H7 q.1 = some (.tup [.str q.2.1, .str q.2.2]) := fun q hq => o7 _ _ (fun e => by have := hR5 q hq; rw [e, hx5] at this; cases this) (hR5 q hq)
    rw [← eH7]
    refine ⟨_, rfl, ha, keysL hd, rfl, .inr (.inr ⟨_, .inl hha7, by rw [dV_keys, hln]⟩), by omega, fun q2 hq2 => ⟨q2, rfl, ⟨_, sqL upd_same⟩, fun D2 hD2 => ?_⟩⟩
    have e8 : Same H7 (upd H7 q2 (.lst ((sortS (keysL hd)).map V.str))) := Same.new hq2
    refine dc_new (sortS (keysL hd)) walk_listM (fun _ => true) id (fun a b H => b ≠ D2 ∧ H b = some (.tup ((sortS ((hd.lookup a).getD [])).map V.str))) hD2 (by omega) (by rw [List.map_id]; exact (sortS_perm _).nodup_iff.mpr ok.hn) (fun H' e => sqL (e _ _ upd_same)) (fun a b H H' o h => ⟨h.1, o _ _ h.1 h.2⟩) (fun a b H h => ⟨_, h.2⟩) ?_ ?_
    · rintro i a y H' H9 ha' e ⟨kvs, hDk⟩ yy
      obtain ⟨rfl, rfl⟩ := yat_map ha' yy
      have ham := (sortS_perm _).mem_iff.mp (List.mem_of_getElem? ha')
      obtain ⟨c, hc, rfl⟩ := List.mem_map.mp ham
      have hv : (hd.map fun h => (h.1, β h.1)).lookup c.1 = some (β c.1) := lookup_nodup (by show (keysL _).Nodup; rw [hln]; exact ok.hn) (List.mem_map.mpr ⟨c, hc, rfl⟩)
      have hl2 : hd.lookup c.1 = some c.2 := lookup_nodup ok.hn hc
      have hb := (e8.trans e) _ _ (hβ7 c hc)
      obtain ⟨_, _, _, o4⟩ := ok.hw c hc
      refine ⟨Same.refl _, fun R S' hR hS => ⟨rfl, yesT ⟨_, rfl, _, rfl, _, rfl, ha, _, rfl, dgetS (.inl ((e8.trans e) _ _ hha7)) hv, β c.1, c.2, rfl, .inl (sqL hb), by omega, fun q3 hq3 => ⟨q3, _, rfl, .inl ⟨sqL upd_same, fun l hl => ?_⟩⟩⟩⟩⟩
      have nl : l ≠ q3 := fun e => by rw [e, upd_same] at hl; cases hl
      have hl0 := hl
      rw [upd_ne nl] at hl0
      refine hR _ l ((Same.new hq3).upd hl) rfl hl0 ⟨(ne_of_none hDk hl0).symm, ?_⟩
      rw [upd_same, hl2]
      rfl
    intro H9 val e9 hD9 hval _ _
    rw [List.filter_eq_self.mpr fun _ _ => rfl] at hD9
    have e10 := e8.trans e9
    refine ⟨_, rfl, x, _, dx, _, rfl, e10 _ _ hx7, T.c_Map, T.a_Map_heard, (by show 1 < 1000; decide), ?_⟩
    have hx9 := e10 _ _ hx7
    have hxD2 : x ≠ D2 := fun z => by rw [z, hD9] at hx9; cases hx9
    obtain ⟨HA, eHA⟩ : ∃ HA, HA = upd H9 x (.ins (He.ga K "Map") dx (putF "heard" (.ref D2) [("channels", .ref D)])) := ⟨_, rfl⟩
    have hxA : HA x = some (.ins (He.ga K "Map") dx [("channels", .ref D), ("heard", .ref D2)]) := by rw [eHA]; exact upd_same
    have oA : Off (· = x) H7 HA := by rw [eHA]; exact (Off.same e10).upd rfl
    have hDA : HA D = some (.dK (dV V.int (sortL 0 chan))) := oA _ _ hxD.symm hD7
    have hD2A : HA D2 = some (.dK (dV V.ref ((sortS (keysL hd)).map fun a => (a, val a)))) := by rw [eHA, upd_ne hxD2.symm]; exact hD9
    have hraA := oA _ _ hxr.symm hra7
    have hRA : ∀ q ∈ R, HA q.1 = some (.tup [.str q.2.1, .str q.2.2]) := fun q hq => oA _ _ (fun e => by have := hR7 q hq; rw [e, hx7] at this; cases this) (hR7 q hq)
    have hvA : ∀ a ∈ keysL hd, HA (val a) = some (.tup ((sortS ((hd.lookup a).getD [])).map V.str)) := fun a ha => by
      obtain ⟨_, h2⟩ := hval a ((sortS_perm _).mem_iff.mpr ha) rfl
      have : val a ≠ x := fun e => by
        have h2' : H9 (val a) = _ := h2
        rw [e, hx9] at h2'
        cases h2'
      rw [eHA, upd_ne this]
      exact h2
    rw [← eHA]
    -- the roads' tuple
    refine ⟨_, rfl, ra, rfl, ⟨_, sqL hraA⟩, fun D3 hD3 => ?_⟩
    refine lc_list R (walk_listM (K := K) (a := ra) (f := fun q => V.ref q.1)) (fun _ => true) (fun q => .ref q.1) hD3 (by have := ok.rl; omega) (fun H' e => sqL (e _ _ hraA)) ?_ ?_
    · intro i q y H' H6 hq e yy
      obtain ⟨rfl, rfl⟩ := yat_map hq yy
      exact ⟨Same.refl _, fun R' S' hR' hS => ⟨rfl, yesT ⟨_, rfl, q.1, _, rfl, .inr ⟨sqT (e _ _ (hRA q (List.mem_of_getElem? hq))), hR' _ (Same.refl _) rfl⟩⟩⟩⟩
    intro HB eB hDB
    rw [List.filter_eq_self.mpr fun _ _ => rfl] at hDB
    refine ⟨D3, R.map (fun q => (q.1, [q.2.1, q.2.2])), rfl, sqL (by rw [hDB, List.map_map]; rfl), fun e he => ?_, ?_, by rw [List.length_map]; have := ok.rl; omega, fun sp L hsp pL => ?_⟩
    · obtain ⟨q, hq, rfl⟩ := List.mem_map.mp he
      exact sqT (eB _ _ (hRA q hq))
    · rw [List.map_map]
      have := ok.rn
      have e2 : (R.map ((fun e : Addr × List Str => e.2) ∘ fun q => (q.1, [q.2.1, q.2.2]))) = (R.map (·.2)).map fun r => [r.1, r.2] := by
        rw [List.map_map]
        rfl
      rw [e2]
      refine nodup_map_inj (fun a b h => ?_) this
      injection h with h1 h2
      injection h2 with h2 _
      exact Prod.ext h1 h2
    have eS : Same HB (upd HB sp (SetRO P w sp L)) := Same.new hsp
    refine ⟨sp, L, rfl, upd_same, fun e he => ?_, fun e he => ?_, fun sq L' hsq pL' => ?_⟩
    · obtain ⟨q, hq, rfl⟩ := List.mem_map.mp (pL.mem_iff.mp he)
      exact sqT (eS _ _ (eB _ _ (hRA q hq)))
    · obtain ⟨q, hq, rfl⟩ := List.mem_map.mp (pL.mem_iff.mp he)
      intro z
      cases z
    obtain ⟨R', pR, rfl⟩ := roads_pre (pL'.trans pL)
    rw [List.map_map]
    refine ⟨sq, _, rfl, .inl ⟨sqL upd_same, fun l hl => ?_⟩⟩
    have eT := (eB.trans eS).trans ((Same.new (o := .lst (R'.map ((fun p : Addr × List Str => V.ref p.1) ∘ fun q => (q.1, [q.2.1, q.2.2])))) hsq).upd (o := .tup (R'.map ((fun p : Addr × List Str => V.ref p.1) ∘ fun q => (q.1, [q.2.1, q.2.2])))) hl)
    have hCl : upd (upd (upd HB sp (SetRO P w sp L)) sq (.lst (R'.map ((fun p : Addr × List Str => V.ref p.1) ∘ fun q => (q.1, [q.2.1, q.2.2]))))) l (.tup (R'.map ((fun p : Addr × List Str => V.ref p.1) ∘ fun q => (q.1, [q.2.1, q.2.2])))) l = some (.tup (R'.map fun q => V.ref q.1)) := by rw [upd_same]; rfl
    have hxC := eT _ _ hxA
    refine ⟨_, rfl, x, _, dx, _, rfl, hxC, T.c_Map, T.a_Map_roads, (by show 2 < 1000; decide), ?_⟩
    have oF := fun u => (Off.same (A := (· = x)) eT).upd (a := x) (o := u) rfl
    have rn' : (R'.map (·.2)).Nodup := (pR.map _).nodup_iff.mpr ok.rn
    refine k _ R' ((Off.same eD).trans (o7.trans (oA.trans (oF _)))) pR ⟨dx, D, D2, l, val, addrOf R', upd_same, oF _ _ _ hxD.symm hDA, ?_, ?_, fun h hh => ?_, fun r hr => ?_⟩
    · refine (oF _ _ _ hxD2.symm hD2A).trans ?_
      congr 2
      show _ = dS (((sortL [] hd).map fun h => (h.1, sortS h.2)).map fun h => (h.1, V.ref (val h.1)))
      unfold sortL
      simp only [dV, dS, List.map_map]
      rfl
    · have hlx : l ≠ x := fun e => by
        subst e
        have h2 := hCl.symm.trans hxC
        cases h2
      rw [upd_ne hlx]
      refine hCl.trans ?_
      show _ = some (HO.tup ((R'.map (·.2)).map fun r => V.ref (addrOf R' r)))
      rw [List.map_map]
      congr 2
      exact List.map_congr_left fun q hq => by
        show V.ref q.1 = V.ref (addrOf R' q.2)
        rw [addrOf_eq rn' hq]
    · obtain ⟨c, hc, rfl⟩ := List.mem_map.mp hh
      have hcm := (sortL_mem ok.hn).mp hc
      have h1 := hvA c.1 (List.mem_map_of_mem hcm)
      rw [lookup_nodup ok.hn hcm] at h1
      exact oF _ _ _ (fun e => by rw [e, hxA] at h1; cases h1) h1
    · obtain ⟨q, hq, rfl⟩ := List.mem_map.mp hr
      rw [addrOf_eq rn' hq]
      have h1 := hRA q (pR.mem_iff.mp hq)
      exact oF _ _ _ (fun e => by rw [e, hxA] at h1; cases h1) h1
end
end MC
end
section
set_option Elab.async false
set_option linter.all false
set_option maxRecDepth 100000
set_option maxHeartbeats 4000000
/-! The law's own defs, 1: number, take, pick. -/
namespace MC
open PySem PySem.Spec PyProof.Rows L2
/-- the drawn script -/
structure DrawAt (K : PySem.W.Frag) (H : Hp) (dr sc : Addr) (ns : List Int) (k : Int) : Prop where
  at_ : H dr = some (.lst [.ref sc, .int k])
  sq : SqL K H sc (ns.map V.int)
  nl : ns.length ≤ 63
/-- a list is apart from another one that turns -/
theorem sqL_off {K : PySem.W.Frag} {H H' : Hp} {a dr : Addr} {xs ys : List V} (h : SqL K H a xs) (o : Off (· = dr) H H') (hd : H dr = some (.lst ys)) (hne : xs ≠ ys) : SqL K H' a xs := by
  rcases h with (q | ⟨ob, q⟩) | q
  · exact .inl (.inl (o _ _ (fun e => by rw [e, hd] at q; cases q; exact hne rfl) q))
  · exact .inl (.inr ⟨ob, o _ _ (fun e => by rw [e, hd] at q; cases q) q⟩)
  · exact .inr q
theorem ints_ne {ns : List Int} {sc : Addr} {v : V} : ns.map V.int ≠ [.ref sc, v] := fun e => by
  cases ns with
  | nil => cases e
  | cons a l => injection e with e _; cases e
theorem strs_ne {ns : List Str} {sc : Addr} {v : V} : ns.map V.str ≠ [.ref sc, v] := fun e => by
  cases ns with
  | nil => cases e
  | cons a l => injection e with e _; cases e
theorem sqT_offL {K : PySem.W.Frag} {H H' : Hp} {a dr : Addr} {xs ys : List V} (h : SqT K H a xs) (o : Off (· = dr) H H') (hd : H dr = some (.lst ys)) : SqT K H' a xs := by
  rcases h with (q | ⟨ob, q⟩) | q
  · exact .inl (.inl (o _ _ (fun e => by rw [e, hd] at q; cases q) q))
  · exact .inl (.inr ⟨ob, o _ _ (fun e => by rw [e, hd] at q; cases q) q⟩)
  · exact .inr q
theorem DrawAt.same {K : PySem.W.Frag} {H H' : Hp} {dr sc : Addr} {ns : List Int} {k : Int} (h : DrawAt K H dr sc ns k) (e : Same H H') : DrawAt K H' dr sc ns k := ⟨e _ _ h.at_, e.seq h.sq, h.nl⟩
section
variable {P : Program} {w : World} {K : PySem.W.Frag} {mg : Str → Option Value} {base : Heap}
def spNumber (K : PySem.W.Frag) : Sp := fun vs H Q _ => ∃ (sc : Addr) (ns : List Int) (i : Int), vs = [.ref sc, .int i] ∧ SqL K H sc (ns.map V.int) ∧ ns.length ≤ 63 ∧ ∀ H' (n : Int), Same H H' → 0 ≤ n → Q (.int n) H'
theorem ok_number (T : Txt P w K mg) : Has P w K mg base CX0 1 (He.fAd K ("_law_number", none)) ["_law_script", "_law_index"] (spNumber K) := by
  obtain ⟨fd, F⟩ := T.d_Lnumber
  have sc : FnScope ["_law_script", "_law_index", "_law_cell", "_law_blend"] ["_law_script", "_law_index"] (defScope sLnumber) := ⟨rfl, rfl, rfl, by decide +kernel, rfl, by decide +kernel, by decide +kernel⟩
  refine ⟨fd, F.ok sc (fun vs H Q E h => ?_) (fun cdv A outer s H vs Q E hr h => ?_), F.bindsN fun _ _ _ _ _ _ us hl => match us, hl with | [_, _], _ => rfl, F.kp⟩
  · obtain ⟨sc, ns, i, rfl, _⟩ := h
    rfl
  · obtain ⟨sa, ns, i, rfl, hS, hl, k⟩ := h
    refine ⟨_, PSs.nox (pss_cons (ps_if (pt_cmpR (op_eqT (List Int) (by exact Fit.of hr (by decide))) (pv 0) (pe_lst pa_nil) (nomark _)) (pss_one (ps_ret (pe_callTy call_int1 (by rfl) T.z_int bt_int (pa_cons (pe_op op_mod (pe_op op_add (pe_op op_mul (pv 1) pe_int) pe_int) pe_int) pa_nil)))) pss_nil)
      (pss_cons (ps_set (i := 2) sc.nd rfl (Or.inl rfl) (pe_ix ix_list (pv 0) (pe_op op_mod (pv 1) (pe_callB call_len_seq (by rfl) T.z_len bt_len (pa_cons (pv 0) pa_nil))) (fun _ _ => rfl)))
      (pss_cons (ps_if (pt_cmpR op_ge (pe_callB call_abs (by rfl) T.z_abs bt_abs (pa_cons (pv 2) pa_nil)) (pe_op op_pow pe_int pe_int) (nomark _)) (pss_one (ps_set (i := 2) sc.nd rfl (Or.inl rfl) (pe_op op_mod (pv 2) (pe_op op_pow pe_int pe_int)))) pss_nil)
      (pss_cons (ps_set (i := 3) sc.nd rfl (Or.inl rfl) (pe_op op_mod (pe_op op_add (pe_op op_mul (pe_op op_add (pv 2) (pe_op op_mul pe_int (pv 1))) pe_int) (pe_op op_mul pe_int (pe_callB call_len_seq (by rfl) T.z_len bt_len (pa_cons (pv 0) pa_nil)))) pe_int))
      (pss_one (ps_ret (pe_callTy call_int1 (by rfl) T.z_int bt_int (pa_cons (pe_op op_mod (pe_op op_add (pe_op op_mul (pe_op op_mod (pe_op op_mul (pv 3) pe_int) pe_int) pe_int) (pv 1)) pe_int) pa_nil)))))))), ?_⟩
    refine ⟨_, rfl, sz0, fun em hem => ⟨ns, [], hv_list ((Same.new hem).seq hS) (ha_ints ns), hv_list (sqL upd_same) ha_nil, _, rfl, ?_⟩⟩
    have e1 : Same H (upd H em (.lst [])) := Same.new hem
    obtain ⟨H1, eH1⟩ : ∃ H1, H1 = upd H em (.lst []) := ⟨_, rfl⟩
    rw [← eH1] at e1
    rw [← eH1]
    have hS1 := e1.seq hS
    have m64 : ∀ {x : Int}, (-(2 ^ 64) < (48271 : Int) ∧ (48271 : Int) < 2 ^ 64) := ⟨by decide, by decide⟩
    by_cases hns : ns = []
    · rw [decide_eq_true hns]
      exact itT ⟨_, rfl, _, _, rfl, rfl, .inr ⟨by decide, by decide⟩, _, _, rfl, rfl, _, _, rfl, rfl, (by decide : (0 : Int) < 2147483647), .inl ⟨_, rfl, k _ _ e1 (Int.emod_nonneg _ (by decide))⟩⟩
    · rw [decide_eq_false hns]
      have hpos : 0 < ns.length := List.length_pos_iff.mpr hns
      have hlen : (ns.map V.int).length = ns.length := List.length_map _
      refine itF ⟨_, rfl, _, rfl, _, rfl, sa, _, rfl, .inl hS1, _, _, rfl, rfl, ?_, ?_⟩
      · show (0 : Int) < ((ns.map V.int).length : Nat)
        rw [hlen]
        omega
      rw [hlen]
      have h0 : 0 ≤ i % (ns.length : Int) := Int.emod_nonneg _ (by omega)
      have h1 : i % (ns.length : Int) < (ns.length : Int) := Int.emod_lt_of_pos _ (by omega)
      obtain ⟨j, hj⟩ : ∃ j : Nat, i % (ns.length : Int) = (j : Int) := ⟨(i % (ns.length : Int)).toNat, (Int.toNat_of_nonneg h0).symm⟩
      have hjl : j < ns.length := by omega
      have hat : atI (ns.map V.int) (i % (ns.length : Int)) = some (.int ns[j]) := by
        rw [hj]
        exact atI_nat (by rw [List.getElem?_map, List.getElem?_eq_getElem hjl]; rfl)
      refine ⟨sa, _, _, .int ns[j], rfl, rfl, hS1, hat, ?_⟩
      refine ⟨_, rfl, _, rfl, _, _, rfl, rfl, ⟨by decide, by decide, by decide⟩, _, _, rfl, rfl, _, rfl, ?_⟩
      refine itB (fun _ => ⟨_, rfl, _, _, rfl, rfl, ⟨by decide, by decide, by decide⟩, _, _, rfl, rfl, (by decide +kernel : (0 : Int) < 10 ^ (18 : Int).toNat), ?_⟩) fun _ => ?_
      all_goals
        refine ⟨_, rfl, _, rfl, _, _, rfl, rfl, .inl ⟨by decide, by decide⟩, _, _, rfl, rfl, _, _, rfl, rfl, .inr ⟨by decide, by decide⟩, _, rfl, sa, _, rfl, .inl hS1, _, _, rfl, rfl, .inl ⟨by decide, by decide⟩, _, _, rfl, rfl, _, _, rfl, rfl, (by decide : (0 : Int) < 2147483647), ?_⟩
        exact ⟨_, rfl, _, _, rfl, rfl, .inr ⟨by decide, by decide⟩, _, _, rfl, rfl, (by decide : (0 : Int) < 2147483629), _, _, rfl, rfl, .inr ⟨by decide, by decide⟩, _, rfl, _, _, rfl, rfl, _, _, rfl, rfl, (by decide : (0 : Int) < 2147483587), .inl ⟨_, rfl, k _ _ e1 (Int.emod_nonneg _ (by decide))⟩⟩
def spTake (K : PySem.W.Frag) : Sp := fun vs H Q _ => ∃ (dr sc : Addr) (ns : List Int) (c m : Int), vs = [.ref dr, .int m] ∧ DrawAt K H dr sc ns c ∧ 0 < m ∧ ∀ H' (c' r : Int), Off (· = dr) H H' → DrawAt K H' dr sc ns c' → 0 ≤ r → r < m → Q (.int r) H'
theorem ok_take (T : Txt P w K mg) : Has P w K mg base CX0 2 (He.fAd K ("_law_take", none)) ["_law_draw", "_law_many"] (spTake K) := by
  obtain ⟨fd, F⟩ := T.d_Ltake
  obtain ⟨fdN, GN, bN, kN⟩ := ok_number (base := base) T
  have sc : FnScope ["_law_draw", "_law_many"] ["_law_draw", "_law_many"] (defScope sLtake) := ⟨rfl, rfl, rfl, by decide +kernel, rfl, by decide +kernel, by decide +kernel⟩
  refine ⟨fd, F.ok sc (fun vs H Q E h => ?_) (fun cdv A outer s H vs Q E hr h => ?_), F.bindsN fun _ _ _ _ _ _ us hl => match us, hl with | [_, _], _ => rfl, F.kp⟩
  · obtain ⟨dr, sc, ns, c, m, rfl, _⟩ := h
    rfl
  · obtain ⟨dr, sa, ns, c, m, rfl, hD, hm, k⟩ := h
    refine ⟨_, PSs.nox (pss_cons (ps_augS (pv 0) pe_int get_list pe_int ip_add set_list)
      (pss_one (ps_ret (pe_op op_mod (pe_callTy call_int1 (by rfl) T.z_int bt_int (pa_cons (pe_call GN hr (by rfl) T.g__law_number kN bN .nil pass0 (pa_cons (pe_ix ix_list (pv 0) pe_int (fun _ _ => rfl)) (pa_cons (pe_callTy call_int1 (by rfl) T.z_int bt_int (pa_cons (pe_ix ix_list (pv 0) pe_int (fun _ _ => rfl)) pa_nil)) pa_nil))) pa_nil)) (pv 1))))), ?_⟩
    refine ⟨_, rfl, dr, _, 1, .int c, rfl, rfl, hD.at_, rfl, c, 1, rfl, rfl, dr, _, 1, 1, rfl, rfl, hD.at_, rfl, ?_⟩
    have o1 : Off (· = dr) H (upd H dr (.lst [.ref sa, .int (c + 1)])) := Off.refl.upd rfl
    have hD1 : DrawAt K (upd H dr (.lst [.ref sa, .int (c + 1)])) dr sa ns (c + 1) := ⟨upd_same, sqL_off hD.sq o1 hD.at_ ints_ne, hD.nl⟩
    refine ⟨_, rfl, dr, _, 0, .ref sa, rfl, rfl, sqL hD1.at_, atI0 _ _, _, rfl, dr, _, 1, .int (c + 1), rfl, rfl, sqL hD1.at_, atI1 _ _ _, .inl ⟨_, rfl, ?_⟩⟩
    refine ⟨sa, ns, c + 1, rfl, hD1.sq, hD.nl, fun H2 n e2 hn => .inl ⟨_, rfl, _, rfl, _, _, rfl, rfl, hm, ?_⟩⟩
    exact k H2 (c + 1) _ (o1.trans (Off.same e2)) (hD1.same e2) (Int.emod_nonneg _ (by omega)) (Int.emod_lt_of_pos _ hm)
def spPick (K : PySem.W.Frag) : Sp := fun vs H Q _ => ∃ (dr sc l : Addr) (ns : List Int) (c : Int) (xs : List V), vs = [.ref dr, .ref l] ∧ DrawAt K H dr sc ns c ∧ SqL K H l xs ∧ xs ≠ [] ∧ xs ≠ [.ref sc, .int c] ∧ ∀ H' (c' : Int) v, Off (· = dr) H H' → DrawAt K H' dr sc ns c' → v ∈ xs → Q v H'
theorem ok_pick (T : Txt P w K mg) : Has P w K mg base CX0 3 (He.fAd K ("_law_pick", none)) ["_law_draw", "_law_items"] (spPick K) := by
  obtain ⟨fd, F⟩ := T.d_Lpick
  obtain ⟨fdN, GN, bN, kN⟩ := ok_take (base := base) T
  have sc : FnScope ["_law_draw", "_law_items"] ["_law_draw", "_law_items"] (defScope sLpick) := ⟨rfl, rfl, rfl, by decide +kernel, rfl, by decide +kernel, by decide +kernel⟩
  refine ⟨fd, F.ok sc (fun vs H Q E h => ?_) (fun cdv A outer s H vs Q E hr h => ?_), F.bindsN fun _ _ _ _ _ _ us hl => match us, hl with | [_, _], _ => rfl, F.kp⟩
  · obtain ⟨dr, sc, l, ns, c, xs, rfl, _⟩ := h
    rfl
  · obtain ⟨dr, sa, l, ns, c, xs, rfl, hD, hS, hx, hne, k⟩ := h
    refine ⟨_, pss_one (ps_ret (pe_ix ix_list (pv 1) (pe_call GN hr (by rfl) T.g__law_take kN bN .nil pass0 (pa_cons (pv 0) (pa_cons (pe_callB call_len_seq (by rfl) T.z_len bt_len (pa_cons (pv 1) pa_nil)) pa_nil))) (fun _ _ => rfl))), ?_⟩
    have hpos : 0 < xs.length := List.length_pos_iff.mpr hx
    refine ⟨_, rfl, _, rfl, _, rfl, l, _, rfl, .inl hS, dr, sa, ns, c, _, rfl, hD, by omega, fun H' c' r o hD' h0 h1 => ?_⟩
    obtain ⟨j, rfl⟩ : ∃ j : Nat, r = (j : Int) := ⟨r.toNat, (Int.toNat_of_nonneg h0).symm⟩
    have hjl : j < xs.length := by omega
    exact ⟨l, xs, (j : Int), xs[j], rfl, rfl, sqL_off hS o hD.at_ hne, atI_nat (List.getElem?_eq_getElem hjl), k H' c' _ o hD' (List.getElem_mem hjl)⟩
end
end MC
end
section
set_option Elab.async false
set_option linter.all false
set_option maxRecDepth 100000
set_option maxHeartbeats 4000000
/-! The law's own defs, 2: masts, heard. -/
namespace MC
open PySem PySem.Spec PyProof.Rows L2
theorem tup_off {H H' : Hp} {b dr : Addr} {xs ys : List V} (h : H b = some (.tup xs)) (o : Off (· = dr) H H') (hd : H dr = some (.lst ys)) : H' b = some (.tup xs) := o _ _ (fun e => by rw [e, hd] at h; cases h) h
theorem off_lock {A : Addr → Prop} {H H' : Hp} {d : Addr} {o : Obj} {u : HO} (hd : H d = some u) (e : Off A (L2.upd H d (.frz o u)) H') : Off A H (L2.upd H' d u) := fun b x na q => by
  by_cases hb : b = d
  · subst hb
    rw [hd] at q
    cases q
    exact upd_same
  · rw [upd_ne hb]
    exact e b x na (by rw [upd_ne hb]; exact q)
theorem mergeK_app {α : Type} (f : α → V) : ∀ (b a : List (Str × α)), (keysL (a ++ b)).Nodup → mergeK (dV f a) (dV f b) = dV f (a ++ b)
  | [], a, _ => by rw [List.append_nil]; rfl
  | c :: b, a, h => by
    have hc : c.1 ∉ keysL a := fun hm => by
      unfold keysL at h hm
      rw [List.map_append, List.nodup_append] at h
      exact h.2.2 _ hm c.1 (List.mem_map_of_mem List.mem_cons_self) rfl
    have hp : putL a c.1 c.2 = a ++ [c] := if_neg hc
    have ih := mergeK_app f b (a ++ [c]) (by rw [List.append_assoc]; exact h)
    show mergeK (putK (dV f a) (.inr c.1) (f c.2)) (dV f b) = _
    rw [putK_dV, hp, ih, List.append_assoc]
    rfl
theorem mergeK_dV {α : Type} (f : α → V) {l : List (Str × α)} (h : (keysL l).Nodup) : mergeK [] (dV f l) = dV f l := mergeK_app f l [] h
theorem paired_map {α β γ : Type} {R : β → γ → Prop} {f : α → β} {g : α → γ} : ∀ {l : List α}, (∀ a ∈ l, R (f a) (g a)) → Paired R (l.map f) (l.map g)
  | [], _ => .nil
  | a :: l, h => .cons (h a List.mem_cons_self) (paired_map fun b hb => h b (List.mem_cons_of_mem _ hb))
/-- drawn names -/
def dnm (c : Str) (i : Nat) : Str := c ++ (toString (0 + (i : Int)) : Str)
theorem dnm_m : ∀ i, i < 4 → isNameB (dnm "m" i) = true := by decide +kernel
theorem dnm_z : ∀ i, i < 5 → isNameB (dnm "z" i) = true := by decide +kernel
theorem dnm_mn : ∀ n, n < 5 → ((List.range n).map (dnm "m")).Nodup := by decide +kernel
theorem dnm_zn : ∀ n, n < 6 → ((List.range n).map (dnm "z")).Nodup := by decide +kernel
theorem dnm_mz : ∀ i, i < 4 → dnm "m" i ≠ "zz" := by decide +kernel
theorem dnm_zz : ∀ i, i < 5 → dnm "z" i ≠ "zz" := by decide +kernel
theorem dnm_len : ∀ i : Nat, i < 1001 → ((toString (0 + (i : Int)) : Str)).length ≤ 4 := by decide +kernel
def rStrI : List V → Hp → VK → Prop := fun xs H Q => ∃ i, xs = [.int i] ∧ i.natAbs.log2 < 1920 ∧ Q (.str (toString i)) H
theorem log_ok {i : Nat} (h : i < 1000) : (0 + (i : Int)).natAbs.log2 < 1920 := by
  have : (0 + (i : Int)).natAbs = i := by omega
  rw [this]
  exact Nat.lt_of_le_of_lt (Nat.log2_le_self _) (by omega)
theorem refs_ne {α : Type} {l : List α} {f : α → V} {sc : Addr} {c : Int} (h : ∀ a ∈ l, ∀ i : Int, f a ≠ .int i) : l.map f ≠ [.ref sc, .int c] := fun e => by
  have hl := congrArg List.length e
  rw [List.length_map] at hl
  obtain ⟨a, b, rfl⟩ : ∃ a b, l = [a, b] := by
    match l, hl with
    | [a, b], _ => exact ⟨a, b, rfl⟩
  injection e with _ e
  injection e with e _
  exact h b (by simp) c e
theorem _root_.MC.Off.fresh {A : Addr → Prop} {H H' : Hp} {p : Addr} {u : HO} (o : Off A H H') (h : H p = none) : Off A H (L2.upd H' p u) := fun b x na q => by
  rw [upd_ne (ne_of_none q h)]
  exact o b x na q
theorem sqL_upd {K : PySem.W.Frag} {H1 H : Hp} {a D : Addr} {xs ys : List V} {u : HO} (h1 : SqL K H1 a xs) (hD : H1 D = none) (h : SqL K H a xs) : SqL K (L2.upd H D u) a xs := by
  rcases h1 with q | q
  · have hne : a ≠ D := by
      rcases q with q | ⟨o, q⟩
      · exact ne_of_none q hD
      · exact ne_of_none q hD
    rcases h with (q | ⟨ob, q⟩) | q
    · exact .inl (.inl (by rw [upd_ne hne]; exact q))
    · exact .inl (.inr ⟨ob, by rw [upd_ne hne]; exact q⟩)
    · exact .inr q
  · exact .inr q
theorem DrawAt.upd {K : PySem.W.Frag} {H1 H : Hp} {dr sc D : Addr} {ns : List Int} {k1 k : Int} {u : HO} (h1 : DrawAt K H1 dr sc ns k1) (hD : H1 D = none) (h : DrawAt K H dr sc ns k) : DrawAt K (L2.upd H D u) dr sc ns k :=
  ⟨by rw [upd_ne (ne_of_none h1.at_ hD)]; exact h.at_, sqL_upd (ys := []) h1.sq hD h.sq, h.nl⟩
section
variable {P : Program} {w : World} {K : PySem.W.Frag} {mg : Str → Option Value} {base : Heap}
def spMasts (K : PySem.W.Frag) : Sp := fun vs H Q _ => ∃ (dr sc : Addr) (ns : List Int) (c : Int) (m : Int), vs = [.ref dr, .int m] ∧ DrawAt K H dr sc ns c ∧ 0 < m ∧ m ≤ 3 ∧
  ∀ H' (c' : Int) (q : Addr) (chan : List (Str × Int)) (n : Nat), Off (· = dr) H H' → DrawAt K H' dr sc ns c' → H q = none → H' q = some (.dK (dV V.int chan)) → keysL chan = (List.range n).map (dnm "m") → 1 ≤ n → n ≤ 3 → (∀ c ∈ chan, 0 ≤ c.2 ∧ c.2 ≤ 1000) → Q (.ref q) H'
theorem ok_masts (T : Txt P w K mg) : Has P w K mg base CX0 4 (He.fAd K ("_law_masts", none)) ["_law_draw", "_law_most"] (spMasts K) := by
  obtain ⟨fd, F⟩ := T.d_Lmasts
  obtain ⟨fdT, GT, bT, kT⟩ := ok_take (base := base) T
  obtain ⟨fdP, GP, bP, kP⟩ := ok_pick (base := base) T
  have sc : FnScope ["_law_draw", "_law_most", "_law_number_here"] ["_law_draw", "_law_most"] (defScope sLmasts) := ⟨rfl, rfl, rfl, by decide +kernel, rfl, by decide +kernel, by decide +kernel⟩
  refine ⟨fd, F.ok sc (fun vs H Q E h => ?_) (fun cdv A outer s H vs Q E hr h => ?_), F.bindsN fun _ _ _ _ _ _ us hl => match us, hl with | [_, _], _ => rfl, F.kp⟩
  · obtain ⟨dr, sc, ns, c, m, rfl, _⟩ := h
    rfl
  · obtain ⟨dr, sa, ns, c, m, rfl, hD, hm0, hm3, k⟩ := h
    refine ⟨_, PSs.nox (pss_one (ps_ret (pe_callTy (call_dictP (by rfl)) (by rfl) T.z_dict bt_dict (pa_cons
      (pe_lc (own := [("_law_number_here", 2)]) (te := tTup (tCons (tOp rCatS (tC (.str "m")) (tCB rStrI (tCons (tVar 2) tNil))) (tCons (tCall (spPick K) [] E0 (tCons (tVar 0) (tCons (tLst (tCons (tC (.int 0)) (tCons (tC (.int 1)) (tCons (tC (.int 1)) (tCons (tC (.int 1)) (tCons (tC (.int 2)) (tCons (tC (.int 2)) (tCons (tC (.int 3)) tNil)))))))) tNil))) tNil)))
        (by rfl) sc.nd (pi_range1 (by rfl) T.z_range (pa_cons (pe_op op_add pe_int (pe_call GT (hr.mono (by decide)) (by rfl) T.g__law_take kT bT .nil pass0 (pa_cons (pv 0) (pa_cons (pv 1) pa_nil)))) pa_nil))
        (by exact blk_ok (N := ["_law_draw", "_law_most", "_law_number_here"]) (sc := defScope sLmasts) (by decide +kernel)) (fun _ _ _ _ _ => pg_name (i := 2) sc.nd rfl (Or.inl rfl)) (fun _ _ _ _ _ => pts_nil)
        (fun _ _ _ _ _ => pe_tup (pa_cons (pe_op op_add_str pe_str (pe_callTy call_str_int (by rfl) T.z_str bt_str (pa_cons (pv 2) pa_nil))) (pa_cons (pe_call GP hr (by rfl) T.g__law_pick kP bP .nil pass0 (pa_cons (pv 0) (pa_cons (pe_lst (pa_cons pe_int (pa_cons pe_int (pa_cons pe_int (pa_cons pe_int (pa_cons pe_int (pa_cons pe_int (pa_cons pe_int pa_nil)))))))) pa_nil))) pa_nil))))
      pa_nil)))), ?_⟩
    refine ⟨_, rfl, _, rfl, dr, sa, ns, c, m, rfl, hD, hm0, fun H1 c1 r o1 hD1 h0 h1 => ⟨_, _, rfl, rfl, _, rfl, by omega, by omega, fun D hDn => ?_⟩⟩
    have hn : ((1 : Int) + r).toNat ≤ 3 := by omega
    have hn1 : 1 ≤ ((1 : Int) + r).toNat := by omega
    obtain ⟨n, en⟩ : ∃ n, n = ((1 : Int) + r).toNat := ⟨_, rfl⟩
    rw [← en] at hn hn1
    rw [← en]
    have nDd : dr ≠ D := ne_of_none hD1.at_ hDn
    refine lc_it (walk_range (lo := 0) (n := n)) (fun i H' => ∃ (c' : Int) (L : List (Addr × (Str × Int))), Off (· = dr) H1 H' ∧ DrawAt K H' dr sa ns c' ∧ H' D = some (.lst (L.map fun q => V.ref q.1)) ∧ (L.map fun q => q.2.1) = (List.range i).map (dnm "m") ∧ (∀ q ∈ L, H' q.1 = some (.tup [.str q.2.1, .int q.2.2])) ∧ ∀ q ∈ L, 0 ≤ q.2.2 ∧ q.2.2 ≤ 1000)
      ⟨c1, [], Off.refl.new hDn, hD1.same (Same.new hDn), upd_same, rfl, (fun q hq => by cases hq), fun q hq => by cases hq⟩ (fun _ _ _ _ => trivial) ?_ ?_
    · rintro i x H' H2 hi ⟨c', L, o, hD', hDl, hLn, hL, hLv⟩ ⟨rfl, rfl⟩
      have hLl : L.length = i := by
        have := congrArg List.length hLn
        rw [List.length_map, List.length_map, List.length_range] at this
        exact this
      refine ⟨rfl, yesT ⟨_, rfl, 0 + (i : Int), rfl, log_ok (by omega), _, _, rfl, rfl, ?_, _, rfl, by decide, fun l hl => ?_⟩⟩
      · have := dnm_len i (by omega)
        have h1 : ("m" : Str).length = 1 := by decide +kernel
        rw [h1, sizeLine_eq]
        omega
      have e3 : Same H2 (upd H2 l (.lst [.int 0, .int 1, .int 1, .int 1, .int 2, .int 2, .int 3])) := Same.new hl
      refine ⟨dr, sa, l, ns, c', _, rfl, hD'.same e3, sqL upd_same, (by intro e; cases e), (by intro e; cases e), fun H4 c4 v o4 hD4 hv => ⟨sz2, fun t ht => ?_⟩⟩
      have hd3 := e3 _ _ hD'.at_
      have hDl3 := e3 _ _ hDl
      have hDl4 := o4 _ _ nDd.symm hDl3
      obtain ⟨z, rfl, hz0, hz1⟩ : ∃ z : Int, v = .int z ∧ 0 ≤ z ∧ z ≤ 1000 := by
        simp only [List.mem_cons, List.not_mem_nil, or_false] at hv
        rcases hv with h | h | h | h | h | h | h <;> exact ⟨_, h, by decide, by decide⟩
      have e5 : Same H4 (upd H4 t (.tup [.str (dnm "m" i), .int z])) := Same.new ht
      have hDl5 := e5 _ _ hDl4
      have htD : t ≠ D := fun e => by rw [e, hDl4] at ht; cases ht
      refine ⟨_, hDl5, szL (by rw [List.length_map]; omega), c4, L ++ [(t, (dnm "m" i, z))], ?_, ?_, ?_, ?_, fun q hq => ?_, fun q hq => ?_⟩
      · exact ((o.trans (Off.same e3)).trans (o4.trans (Off.same e5))).fresh hDn
      · exact hD1.upd hDn (hD4.same e5)
      · rw [upd_same, List.map_append]
        rfl
      · rw [List.map_append, hLn, List.range_succ, List.map_append]
        rfl
      · rcases List.mem_append.mp hq with hq | hq
        · have h1 := e5 _ _ (tup_off (e3 _ _ (hL q hq)) o4 hd3)
          rw [upd_ne (fun e => by rw [e, hDl5] at h1; cases h1)]
          exact h1
        · rw [List.mem_singleton.mp hq, upd_ne htD]
          exact upd_same
      · rcases List.mem_append.mp hq with hq | hq
        · exact hLv q hq
        · rw [List.mem_singleton.mp hq]
          exact ⟨hz0, hz1⟩
    · rintro H' ⟨c', L, o, hD', hDl, hLn, hL, hLv⟩
      have hkk : keysL (L.map (·.2)) = (List.range n).map (dnm "m") := by
        unfold keysL
        rw [List.map_map]
        exact hLn
      have hnd : (keysL (L.map (·.2))).Nodup := by rw [hkk]; exact dnm_mn n (by omega)
      refine ⟨D, L.map (·.1), L.map (fun q => ((Sum.inr q.2.1 : Key), V.int q.2.2)), rfl, sqL (by rw [hDl, List.map_map]; rfl), paired_map fun q hq => sqT (hL q hq), fun p hp => ?_⟩
      have ekv : L.map (fun q => ((Sum.inr q.2.1 : Key), V.int q.2.2)) = dV V.int (L.map (·.2)) := by
        simp only [dV, dS, List.map_map]
        rfl
      rw [ekv, mergeK_dV V.int hnd]
      have oH := o1.trans o
      exact k _ c' p (L.map (·.2)) n (oH.new hp) (hD'.same (Same.new hp)) (none_off oH (fun b hb => some_at hb hD'.at_) hp) upd_same hkk hn1 hn fun c hc => by
        obtain ⟨q, hq, rfl⟩ := List.mem_map.mp hc
        exact hLv q hq
def spHeard (K : PySem.W.Frag) : Sp := fun vs H Q _ => ∃ (dr sc ca : Addr) (ns : List Int) (c : Int) (chan : List (Str × Int)), vs = [.ref dr, .ref ca] ∧ DrawAt K H dr sc ns c ∧ H ca = some (.dK (dV V.int chan)) ∧ chan.length ≤ 8 ∧
  ∀ H' (c' : Int) (q : Addr) (l : List Str), Off (· = dr) H H' → DrawAt K H' dr sc ns c' → H q = none → H' q = some (.lst (l.map V.str)) → l.Sublist (keysL chan) → Q (.ref q) H'
theorem ok_heard (T : Txt P w K mg) : Has P w K mg base CX0 3 (He.fAd K ("_law_heard", none)) ["_law_draw", "_law_channels"] (spHeard K) := by
  obtain ⟨fd, F⟩ := T.d_Lheard
  obtain ⟨fdT, GT, bT, kT⟩ := ok_take (base := base) T
  have sc : FnScope ["_law_draw", "_law_channels", "_law_mast"] ["_law_draw", "_law_channels"] (defScope sLheard) := ⟨rfl, rfl, rfl, by decide +kernel, rfl, by decide +kernel, by decide +kernel⟩
  refine ⟨fd, F.ok sc (fun vs H Q E h => ?_) (fun cdv A outer s H vs Q E hr h => ?_), F.bindsN fun _ _ _ _ _ _ us hl => match us, hl with | [_, _], _ => rfl, F.kp⟩
  · obtain ⟨dr, sc, ca, ns, c, chan, rfl, _⟩ := h
    rfl
  · obtain ⟨dr, sa, ca, ns, c, chan, rfl, hD, hca, hcl, k⟩ := h
    refine ⟨_, PSs.nox (pss_one (ps_ret (pe_lock (pe_lc (own := [("_law_mast", 2)]) (tt := tTest (tOp rEq (tCall (spTake K) [] E0 (tCons (tVar 0) (tCons (tC (.int 2)) tNil))) (tC (.int 0)))) (te := tVar 2)
        (by rfl) sc.nd (pi_keys (pv 1))
        (by exact blk_ok (N := ["_law_draw", "_law_channels", "_law_mast"]) (sc := defScope sLheard) (by decide +kernel)) (fun _ _ _ _ _ => pg_name (i := 2) sc.nd rfl (Or.inl rfl)) (fun _ _ _ _ _ => pts_one (pt_cmpR op_eq (pe_call GT hr (by rfl) T.g__law_take kT bT .nil pass0 (pa_cons (pv 0) (pa_cons pe_int pa_nil))) pe_int (nomark _)))
        (fun _ _ _ _ _ => pv 2))))), ?_⟩
    have ndc : dr ≠ ca := fun e => by have := hD.at_; rw [e, hca] at this; cases this
    refine ⟨ca, _, hca, trivial, fun od => ?_⟩
    obtain ⟨H1, eH1⟩ : ∃ H1, H1 = upd H ca (.frz od (.dK (dV V.int chan))) := ⟨_, rfl⟩
    have h1c : H1 ca = some (.frz od (.dK (dV V.int chan))) := by rw [eH1]; exact upd_same
    have hD1 : DrawAt K H1 dr sa ns c := by
      refine ⟨by rw [eH1, upd_ne ndc]; exact hD.at_, ?_, hD.nl⟩
      rcases hD.sq with (q | ⟨ob, q⟩) | q
      · exact .inl (.inl (by rw [eH1]; exact at_lock hca q (by intro z; cases z)))
      · exact .inl (.inr ⟨ob, by rw [eH1]; exact at_lock hca q (by intro z; cases z)⟩)
      · exact .inr q
    rw [← eH1]
    refine ⟨_, rfl, ca, od, rfl, .inl ⟨_, h1c, fun D hDn => ?_⟩⟩
    have nDc : D ≠ ca := fun e => by rw [e, h1c] at hDn; cases hDn
    have nDd : dr ≠ D := ne_of_none hD1.at_ hDn
    refine lc_it (walk_keysL (l := chan) (f := V.int) (d := ca) (o := od)) (fun i H' => ∃ (c' : Int) (l : List Str), Off (· = dr) H1 H' ∧ DrawAt K H' dr sa ns c' ∧ H' D = some (.lst (l.map V.str)) ∧ l.Sublist ((keysL chan).take i))
      ⟨c, [], Off.refl.new hDn, hD1.same (Same.new hDn), upd_same, List.nil_sublist _⟩ (fun i H' _ ⟨_, _, o, _⟩ => o _ _ ndc.symm h1c) ?_ ?_
    · rintro i x H' H2 hi ⟨c', l, o, hD', hDl, hs⟩ ⟨rfl, kv, hkv, rfl⟩
      have hti : (keysL chan).take (i + 1) = (keysL chan).take i ++ [kv.1] := by
        unfold keysL
        rw [List.take_add_one, List.getElem?_map, hkv]
        rfl
      refine ⟨rfl, _, rfl, dr, sa, ns, c', 2, rfl, hD', by decide, fun H3 c3 r o3 hD3 _ _ => ⟨rfl, _, rfl, ?_⟩⟩
      have hDl3 := o3 _ _ nDd.symm hDl
      have hll : l.length ≤ 8 := by
        have h1 := hs.length_le
        rw [List.length_take] at h1
        have h2 : (keysL chan).length = chan.length := List.length_map _
        omega
      refine itB (fun _ => ⟨_, rfl, _, hDl3, szL (by rw [List.length_map]; omega), c3, l ++ [kv.1], (o.trans o3).fresh hDn, hD1.upd hDn hD3, ?_, ?_⟩) fun _ => ⟨c3, l, o.trans o3, hD3, hDl3, ?_⟩
      · rw [upd_same, List.map_append]
        rfl
      · rw [hti]
        exact hs.append (List.Sublist.refl _)
      · rw [hti]
        exact hs.trans (List.sublist_append_left _ _)
    · rintro H' ⟨c', l, o, hD', hDl, hs⟩
      have h'c := o _ _ ndc.symm h1c
      refine ⟨h'c, ?_⟩
      have oH : Off (· = dr) H (upd H' ca (.dK (dV V.int chan))) := off_lock hca (by rw [← eH1]; exact o)
      have hk : (keysL chan).take chan.length = keysL chan := List.take_of_length_le (by unfold keysL; rw [List.length_map]; exact Nat.le_refl _)
      rw [hk] at hs
      refine k _ c' D l oH ⟨by rw [upd_ne ndc]; exact hD'.at_, ?_, hD'.nl⟩ (by rw [eH1, upd_ne nDc] at hDn; exact hDn) (by rw [upd_ne nDc]; exact hDl) hs
      rcases hD'.sq with (q | ⟨ob, q⟩) | q
      · exact .inl (.inl (by rw [upd_ne (fun e => by rw [e, h'c] at q; cases q)]; exact q))
      · exact .inl (.inr ⟨ob, by rw [upd_ne (fun e => by rw [e, h'c] at q; cases q)]; exact q⟩)
      · exact .inr q
end
end MC
end
section
set_option Elab.async false
set_option linter.all false
set_option maxRecDepth 100000
set_option maxHeartbeats 4000000
/-! The law's own defs, 3: town. -/
namespace MC
open PySem PySem.Spec PyProof.Rows L2
theorem take_get {zs : List Str} {i : Nat} {a : Str} (h : zs[i]? = some a) : zs.take (i + 1) = zs.take i ++ [a] := by rw [List.take_add_one, h] <;> rfl
theorem nodup_take {zs : List Str} (hn : zs.Nodup) {i : Nat} {a : Str} (h : zs[i]? = some a) : a ∉ zs.take i := by
  have h2 : (zs.take (i + 1)).Nodup := (List.take_sublist _ _).nodup hn
  rw [take_get h, List.nodup_append] at h2
  exact fun hm => h2.2.2 a hm a (List.mem_singleton.mpr rfl) rfl
theorem refs_ne' {α : Type} {l : List α} {f : α → V} {sc : Addr} {c : Int} (h : ∀ a ∈ l, ∀ i : Int, f a ≠ .int i) : l.map f ≠ [.ref sc, .int c] := refs_ne h
section
variable {P : Program} {w : World} {K : PySem.W.Frag} {mg : Str → Option Value} {base : Heap}
def spLTown (K : PySem.W.Frag) : Sp := fun vs H Q _ => ∃ (dr sc : Addr) (ns : List Int) (c : Int), vs = [.ref dr] ∧ DrawAt K H dr sc ns c ∧
  ∀ H' (c' : Int) (pl : Addr) (p : Plan), Off (· = dr) H H' → DrawAt K H' dr sc ns c' → H pl = none → PlanAt K H' pl p → (∀ most, most ≤ 1 → PInv p most) → ("zz" : Str) ∉ p.zones → ("zz" : Str) ∉ p.masts → Q (.ref pl) H'
theorem ok_lTown (T : Txt P w K mg) : Has P w K mg base CX0 5 (He.fAd K ("_law_town", none)) ["_law_draw"] (spLTown K) := by
  obtain ⟨fd, F⟩ := T.d_Ltown
  obtain ⟨fdT, GT, bT, kT⟩ := ok_take (base := base) T
  obtain ⟨fdM, GM, bM, kM⟩ := ok_masts (base := base) T
  obtain ⟨fdH, GH, bH, kH⟩ := ok_heard (base := base) T
  obtain ⟨fdI, GI, bI, kI⟩ := ok_mapInit (base := base) T
  have sc : FnScope ["_law_draw", "_law_channels", "_law_heard_here", "_law_zones", "_law_roads", "_law_one", "_law_other", "_law_number_here"] ["_law_draw"] (defScope sLtown) := ⟨rfl, rfl, rfl, by decide +kernel, rfl, by decide +kernel, by decide +kernel⟩
  refine ⟨fd, F.ok sc (fun vs H Q E h => ?_) (fun cdv A outer s H vs Q E hr h => ?_), F.bindsN fun _ _ _ _ _ _ us hl => match us, hl with | [_], _ => rfl, F.kp⟩
  · obtain ⟨dr, sc, ns, c, rfl, _⟩ := h
    rfl
  · obtain ⟨dr, sa, ns, c, rfl, hD, k⟩ := h
    refine ⟨_, PSs.nox (pss_cons (ps_set (i := 1) sc.nd rfl (by first | exact Or.inl rfl | exact Or.inr rfl) (pe_call GM hr (by rfl) T.g__law_masts kM bM .nil pass0 (pa_cons (pv 0) (pa_cons pe_int pa_nil))))
      (pss_cons (ps_set (i := 2) sc.nd rfl (by first | exact Or.inl rfl | exact Or.inr rfl) (pe_callTy (call_dictP (by rfl)) (by rfl) T.z_dict bt_dict (pa_cons
        (pe_lc (own := [("_law_number_here", 7)]) (te := tTup (tCons (tOp rCatS (tC (.str "z")) (tCB rStrI (tCons (tVar 7) tNil))) (tCons (tCall (spHeard K) [] E0 (tCons (tVar 0) (tCons (tVar 1) tNil))) tNil)))
          (by rfl) sc.nd (pi_range1 (by rfl) T.z_range (pa_cons (pe_op op_add pe_int (pe_call GT (hr.mono (by decide)) (by rfl) T.g__law_take kT bT .nil pass0 (pa_cons (pv 0) (pa_cons pe_int pa_nil)))) pa_nil))
          (by exact blk_ok (N := ["_law_draw", "_law_channels", "_law_heard_here", "_law_zones", "_law_roads", "_law_one", "_law_other", "_law_number_here"]) (sc := defScope sLtown) (by decide +kernel)) (fun _ _ _ _ _ => pg_name (i := 7) sc.nd rfl (Or.inl rfl)) (fun _ _ _ _ _ => pts_nil)
          (fun _ _ _ _ _ => pe_tup (pa_cons (pe_op op_add_str pe_str (pe_callTy call_str_int (by rfl) T.z_str bt_str (pa_cons (pv 7) pa_nil))) (pa_cons (pe_call GH (hr.mono (by decide)) (by rfl) T.g__law_heard kH bH .nil pass0 (pa_cons (pv 0) (pa_cons (pv 1) pa_nil))) pa_nil))))
        pa_nil)))
      (pss_cons (ps_par (i := 3) (j := 4) (by rfl) sc.nd rfl rfl (by decide) rfl rfl (pa_cons (pe_callB (cr_sortedStr (by rfl) (by exact hr.units)) (by rfl) T.z_sorted bt_sorted (pa_cons (pv 2) pa_nil)) (pa_cons (pe_lst pa_nil) pa_nil)) (by rfl))
      (pss_cons (ps_for PassesOwn.never rfl (pi_list (pv 3)) (pg_name (i := 5) sc.nd rfl (Or.inl rfl))
        (pss_one (ps_for PassesOwn.never rfl (pi_list (pv 3)) (pg_name (i := 6) sc.nd rfl (Or.inl rfl))
          (pss_one (ps_if (PW.pt (pw_and (pt_cmpR op_ne (pv 5) (pv 6) (nomark _)) (pw_and1 (pt_cmpR op_eq (pe_call GT (hr.mono (by decide)) (by rfl) T.g__law_take kT bT .nil pass0 (pa_cons (pv 0) (pa_cons pe_int pa_nil))) pe_int (nomark _)))))
            (pss_one (ps_expr (pe_bm PySem.F.plainAttrs_list PySem.F.slot_list_append PySem.F.type_list_append mt_append (pv 4) (pa_cons (pe_tup (pa_cons (pv 5) (pa_cons (pv 6) pa_nil))) pa_nil)))) pss_nil)))))
      (pss_one (ps_ret (pe_make T.k_Map GI (hr.mono (by decide)) (by rfl) T.g_Map bI .nil pass0 (pa_cons (pv 1) (pa_cons (pv 2) (pa_cons (pv 4) pa_nil)))))))))), ?_⟩
    refine ⟨_, rfl, dr, sa, ns, c, 3, rfl, hD, by decide, by decide, fun H1 c1 ca chan nm o1 hD1 hca0 hca hcn hnm1 hnm3 hcw => ?_⟩
    have hcnd : (keysL chan).Nodup := by rw [hcn]; exact dnm_mn nm (by omega)
    have hclen : chan.length = nm := by
      have := congrArg List.length hcn
      rw [List.length_map, List.length_range] at this
      unfold keysL at this
      rw [List.length_map] at this
      exact this
    have hcname : ∀ m ∈ keysL chan, isNameB m = true := fun m hm => by
      rw [hcn] at hm
      obtain ⟨i, hi, rfl⟩ := List.mem_map.mp hm
      exact dnm_m i (by have := List.mem_range.mp hi; omega)
    have ndc : dr ≠ ca := ne_of_none hD.at_ hca0
    -- the zones
    refine ⟨_, rfl, dr, sa, ns, c1, 4, rfl, hD1, by decide, fun H2 c2 r o2 hD2 h0 h1 => ⟨_, _, rfl, rfl, _, rfl, by omega, by omega, fun D hDn => ?_⟩⟩
    have hca2 := o2 _ _ ndc.symm hca
    have hn : ((1 : Int) + r).toNat ≤ 4 := by omega
    have hn1 : 1 ≤ ((1 : Int) + r).toNat := by omega
    obtain ⟨n, en⟩ : ∃ n, n = ((1 : Int) + r).toNat := ⟨_, rfl⟩
    rw [← en] at hn hn1
    rw [← en]
    have nDd : dr ≠ D := ne_of_none hD2.at_ hDn
    have nDc : ca ≠ D := ne_of_none hca2 hDn
    refine lc_it (walk_range (lo := 0) (n := n)) (fun i H' => ∃ (c' : Int) (L : List (Addr × (Str × (Addr × List Str)))), Off (· = dr) H2 H' ∧ DrawAt K H' dr sa ns c' ∧ H' D = some (.lst (L.map fun q => V.ref q.1)) ∧ (L.map fun q => q.2.1) = (List.range i).map (dnm "z") ∧ (∀ q ∈ L, H' q.1 = some (.tup [.str q.2.1, .ref q.2.2.1])) ∧ ∀ q ∈ L, q.2.2.1 ≠ D ∧ H' q.2.2.1 = some (.lst (q.2.2.2.map V.str)) ∧ q.2.2.2.Sublist (keysL chan))
      ⟨c2, [], Off.refl.new hDn, hD2.same (Same.new hDn), upd_same, rfl, (fun q hq => by cases hq), fun q hq => by cases hq⟩ (fun _ _ _ _ => trivial) ?_ ?_
    · rintro i x H' H3 hi ⟨c', L, o, hD', hDl, hLn, hL, hLv⟩ ⟨rfl, rfl⟩
      have hLl : L.length = i := by
        have := congrArg List.length hLn
        rw [List.length_map, List.length_map, List.length_range] at this
        exact this
      refine ⟨rfl, yesT ⟨_, rfl, 0 + (i : Int), rfl, log_ok (by omega), _, _, rfl, rfl, ?_, _, rfl, _, rfl, dr, sa, ca, ns, c', chan, rfl, hD', o _ _ ndc.symm hca2, by omega, fun H4 c4 b l o4 hD4 hb0 hb hsub => ⟨sz2, fun t ht => ?_⟩⟩⟩
      · have := dnm_len i (by omega)
        have h1 : ("z" : Str).length = 1 := by decide +kernel
        rw [h1, sizeLine_eq]
        omega
      have hDl4 := o4 _ _ nDd.symm hDl
      have e5 : Same H4 (upd H4 t (.tup [.str (dnm "z" i), .ref b])) := Same.new ht
      have hDl5 := e5 _ _ hDl4
      have htD : t ≠ D := fun e => by rw [e, hDl4] at ht; cases ht
      have hbD : b ≠ D := fun e => by rw [e, hDl] at hb0; cases hb0
      refine ⟨_, hDl5, szL (by rw [List.length_map]; omega), c4, L ++ [(t, (dnm "z" i, (b, l)))], ?_, ?_, ?_, ?_, fun q hq => ?_, fun q hq => ?_⟩
      · exact (o.trans (o4.trans (Off.same e5))).fresh hDn
      · exact hD2.upd hDn (hD4.same e5)
      · rw [upd_same, List.map_append]
        rfl
      · rw [List.map_append, hLn, List.range_succ, List.map_append]
        rfl
      · rcases List.mem_append.mp hq with hq | hq
        · have h1 := e5 _ _ (tup_off (hL q hq) o4 hD'.at_)
          rw [upd_ne (fun e => by rw [e, hDl5] at h1; cases h1)]
          exact h1
        · rw [List.mem_singleton.mp hq, upd_ne htD]
          exact upd_same
      · rcases List.mem_append.mp hq with hq | hq
        · obtain ⟨z1, z2, z3⟩ := hLv q hq
          have ndr : q.2.2.1 ≠ dr := fun e => by
            rw [e, hD'.at_] at z2
            exact strs_ne (HO.lst.inj (Option.some.inj z2)).symm
          exact ⟨z1, by rw [upd_ne z1]; exact e5 _ _ (o4 _ _ ndr z2), z3⟩
        · rw [List.mem_singleton.mp hq]
          exact ⟨hbD, by rw [upd_ne hbD]; exact e5 _ _ hb, hsub⟩
    rintro H3 ⟨c3, L, o3, hD3, hDl, hLn, hL, hLv⟩
    -- the dict of the zones
    obtain ⟨hd, ehd⟩ : ∃ hd : List (Str × List Str), hd = L.map fun q => (q.2.1, q.2.2.2) := ⟨_, rfl⟩
    obtain ⟨bl, ebl⟩ : ∃ bl : List (Str × Addr), bl = L.map fun q => (q.2.1, q.2.2.1) := ⟨_, rfl⟩
    have hkd : keysL hd = (List.range n).map (dnm "z") := by
      rw [ehd]
      unfold keysL
      rw [List.map_map]
      exact hLn
    have hkb : keysL bl = (List.range n).map (dnm "z") := by
      rw [ebl]
      unfold keysL
      rw [List.map_map]
      exact hLn
    have hdnd : (keysL hd).Nodup := by rw [hkd]; exact dnm_zn n (by omega)
    have hbnd : (keysL bl).Nodup := by rw [hkb]; exact dnm_zn n (by omega)
    have hdlen : hd.length = n := by
      have := congrArg List.length hkd
      rw [List.length_map, List.length_range] at this
      unfold keysL at this
      rw [List.length_map] at this
      exact this
    refine ⟨D, L.map (·.1), L.map (fun q => ((Sum.inr q.2.1 : Key), V.ref q.2.2.1)), rfl, sqL (by rw [hDl, List.map_map]; rfl), paired_map fun q hq => sqT (hL q hq), fun ha hha0 => ?_⟩
    have ekv : L.map (fun q => ((Sum.inr q.2.1 : Key), V.ref q.2.2.1)) = dV V.ref bl := by
      rw [ebl]
      simp only [dV, dS, List.map_map]
      rfl
    rw [ekv, mergeK_dV V.ref hbnd]
    have hbl : bl = hd.map fun h => (h.1, (bl.lookup h.1).getD 0) := by
      have h1 : ∀ q ∈ L, (bl.lookup q.2.1).getD 0 = q.2.2.1 := fun q hq => by
        rw [lookup_nodup hbnd (v := q.2.2.1) (by rw [ebl]; exact List.mem_map.mpr ⟨q, hq, rfl⟩)]
        rfl
      rw [ehd, List.map_map]
      conv => lhs; rw [ebl]
      refine List.map_congr_left fun q hq => ?_
      show (q.2.1, q.2.2.1) = (q.2.1, (bl.lookup q.2.1).getD 0)
      rw [h1 q hq]
    have e4 : Same H3 (upd H3 ha (.dK (dV V.ref bl))) := Same.new hha0
    obtain ⟨H4, eH4⟩ : ∃ H4, H4 = upd H3 ha (.dK (dV V.ref bl)) := ⟨_, rfl⟩
    have h4ha : H4 ha = some (.dK (dV V.ref bl)) := by rw [eH4]; exact upd_same
    rw [← eH4] at e4
    rw [← eH4]
    have hD4 := hD3.same e4
    have hca4 := e4 _ _ (o3 _ _ ndc.symm hca2)
    have hβ4 : ∀ h ∈ hd, H4 ((bl.lookup h.1).getD 0) = some (.lst (h.2.map V.str)) ∧ h.2.Sublist (keysL chan) := fun h hh => by
      rw [ehd] at hh
      obtain ⟨q, hq, rfl⟩ := List.mem_map.mp hh
      have : (bl.lookup q.2.1).getD 0 = q.2.2.1 := by
        rw [lookup_nodup hbnd (v := q.2.2.1) (by rw [ebl]; exact List.mem_map.mpr ⟨q, hq, rfl⟩)]
        rfl
      obtain ⟨_, z2, z3⟩ := hLv q hq
      exact ⟨by rw [this]; exact e4 _ _ z2, z3⟩
    have o04 : Off (· = dr) H H4 := o1.trans (o2.trans (o3.trans (Off.same e4)))
    clear hL hLv hLn hDl hDn eH4 hha0 e4 o3 o2 o1
    -- the rows of zones and of roads
    have hkl : (keysL hd).length = n := by unfold keysL; rw [List.length_map]; exact hdlen
    refine ⟨_, rfl, ha, keysL hd, rfl, .inr (.inr ⟨_, .inl h4ha, by rw [dV_keys, hkb, hkd]⟩), by omega, fun zl hzl => ?_⟩
    obtain ⟨zs, ezs⟩ : ∃ zs, zs = sortS (keysL hd) := ⟨_, rfl⟩
    have hzn : zs.Nodup := by rw [ezs]; exact (sortS_perm _).nodup_iff.mpr hdnd
    have hzm : ∀ z, z ∈ zs ↔ z ∈ keysL hd := fun z => by rw [ezs]; exact (sortS_perm _).mem_iff
    have hzlen : zs.length = n := by rw [ezs, (sortS_perm _).length_eq]; exact hkl
    rw [← ezs]
    have e5 : Same H4 (upd H4 zl (.lst (zs.map V.str))) := Same.new hzl
    obtain ⟨H5, eH5⟩ : ∃ H5, H5 = upd H4 zl (.lst (zs.map V.str)) := ⟨_, rfl⟩
    have h5zl : H5 zl = some (.lst (zs.map V.str)) := by rw [eH5]; exact upd_same
    rw [← eH5] at e5
    rw [← eH5]
    refine ⟨sz0, fun rl hrl => ⟨_, _, rfl, ?_⟩⟩
    have e6 : Same H5 (upd H5 rl (.lst [])) := Same.new hrl
    obtain ⟨H6, eH6⟩ : ∃ H6, H6 = upd H5 rl (.lst []) := ⟨_, rfl⟩
    have h6rl : H6 rl = some (.lst []) := by rw [eH6]; exact upd_same
    rw [← eH6] at e6
    rw [← eH6]
    have hD6 := (hD4.same e5).same e6
    have h6zl := e6 _ _ h5zl
    have nrd : dr ≠ rl := fun e => by have := (hD4.same e5).at_; rw [e, hrl] at this; cases this
    have nzr : zl ≠ rl := ne_of_none h5zl hrl
    have nzd : zl ≠ dr := fun e => by
      rw [e, hD6.at_] at h6zl
      exact strs_ne (HO.lst.inj (Option.some.inj h6zl)).symm
    have hD5 := hD4.same e5
    refine ⟨_, rfl, zl, rfl, ⟨_, sqL h6zl⟩, ?_⟩
    refine for_it (walk_listM (K := K) (xs := zs) (f := V.str)) (fun i σ H' => ∃ (v5 v6 : Option V) (c' : Int) (R : List (Addr × (Str × Str))), σ = [some (.ref dr), some (.ref ca), some (.ref ha), some (.ref zl), some (.ref rl), v5, v6, none] ∧ Off (fun b => b = dr ∨ b = rl) H6 H' ∧ DrawAt K H' dr sa ns c' ∧ H' rl = some (.lst (R.map fun q => V.ref q.1)) ∧ (∀ q ∈ R, H' q.1 = some (.tup [.str q.2.1, .str q.2.2])) ∧ (R.map (·.2)).Nodup ∧ R.length ≤ 4 * i ∧ ∀ q ∈ R, q.2.1 ∈ zs.take i ∧ q.2.2 ∈ zs)
      ⟨none, none, c3, [], rfl, Off.refl, hD6, h6rl, (fun q hq => by cases hq), List.nodup_nil, Nat.zero_le _, fun q hq => by cases hq⟩ (fun i σ H' _ ⟨_, _, _, _, _, o, _⟩ => sqL (o _ _ (fun h => h.elim nzd nzr) h6zl)) ?_ ?_
    · rintro i x σ H' H'' hi ⟨v5, v6, c', R, rfl, o, hD', hrl', hR, hRn, hRl, hRz⟩ ⟨rfl, hx⟩
      obtain ⟨a, hai⟩ : ∃ a, zs[i]? = some a := ⟨_, List.getElem?_eq_getElem hi⟩
      obtain rfl : x = .str a := by
        rw [List.getElem?_map, hai] at hx
        exact (Option.some.inj hx).symm
      have haz := List.mem_of_getElem? hai
      have hnt := nodup_take hzn hai
      refine ⟨_, rfl, zl, rfl, ⟨_, sqL (o _ _ (fun h => h.elim nzd nzr) h6zl)⟩, ?_⟩
      refine for_it (walk_listM (K := K) (xs := zs) (f := V.str)) (fun j σ H' => ∃ (v6 : Option V) (c' : Int) (R : List (Addr × (Str × Str))), σ = [some (.ref dr), some (.ref ca), some (.ref ha), some (.ref zl), some (.ref rl), some (.str a), v6, none] ∧ Off (fun b => b = dr ∨ b = rl) H6 H' ∧ DrawAt K H' dr sa ns c' ∧ H' rl = some (.lst (R.map fun q => V.ref q.1)) ∧ (∀ q ∈ R, H' q.1 = some (.tup [.str q.2.1, .str q.2.2])) ∧ (R.map (·.2)).Nodup ∧ R.length ≤ 4 * i + j ∧ ∀ q ∈ R, (q.2.1 ∈ zs.take i ∧ q.2.2 ∈ zs) ∨ (q.2.1 = a ∧ q.2.2 ∈ zs.take j))
        ⟨v6, c', R, rfl, o, hD', hrl', hR, hRn, by omega, fun q hq => .inl (hRz q hq)⟩ (fun j σ H' _ ⟨_, _, _, _, o, _⟩ => sqL (o _ _ (fun h => h.elim nzd nzr) h6zl)) ?_ ?_
      · rintro j y σ H7 H8 hj ⟨v6, c7, R, rfl, o7, hD7, hrl7, hR7, hRn7, hRl7, hRz7⟩ ⟨rfl, hy⟩
        obtain ⟨b, hbj⟩ : ∃ b, zs[j]? = some b := ⟨_, List.getElem?_eq_getElem hj⟩
        obtain rfl : y = .str b := by
          rw [List.getElem?_map, hbj] at hy
          exact (Option.some.inj hy).symm
        have hbz := List.mem_of_getElem? hbj
        have hntj := nodup_take hzn hbj
        have htj := take_get hbj
        have keepz : ∀ q ∈ R, (q.2.1 ∈ zs.take i ∧ q.2.2 ∈ zs) ∨ (q.2.1 = a ∧ q.2.2 ∈ zs.take (j + 1)) := fun q hq => (hRz7 q hq).imp id fun h => ⟨h.1, by rw [htj]; exact List.mem_append_left _ h.2⟩
        refine ⟨_, rfl, _, rfl, rfl, _, rfl, itB (fun _ => ?_) fun _ => itF ⟨_, c7, R, rfl, o7, hD7, hrl7, hR7, hRn7, by omega, keepz⟩⟩
        refine ⟨_, rfl, dr, sa, ns, c7, 3, rfl, hD7, by decide, fun H9 c9 r9 o9 hD9 _ _ => ⟨rfl, _, rfl, ?_⟩⟩
        have ord : Off (fun b => b = dr ∨ b = rl) H6 H9 := o7.trans (o9.mono fun b hb => .inl hb)
        have hrl9 := o9 _ _ nrd.symm hrl7
        have hR9 : ∀ q ∈ R, H9 q.1 = some (.tup [.str q.2.1, .str q.2.2]) := fun q hq => tup_off (hR7 q hq) o9 hD7.at_
        refine itB (fun _ => ?_) fun _ => ⟨_, c9, R, rfl, ord, hD9, hrl9, hR9, hRn7, by omega, keepz⟩
        refine ⟨_, rfl, .inl ⟨rfl, _, sqL hrl9⟩, _, rfl, _, rfl, sz2, fun t ht => ?_⟩
        have e10 : Same H9 (upd H9 t (.tup [.str a, .str b])) := Same.new ht
        have hrl10 := e10 _ _ hrl9
        refine ⟨rl, _, _, rfl, rfl, hrl10, szL (by rw [List.length_map]; omega), ?_⟩
        have htr : t ≠ rl := fun e => by rw [e, hrl9] at ht; cases ht
        refine ⟨some (.str b), c9, R ++ [(t, (a, b))], rfl, (ord.trans (Off.same e10)).upd (.inr rfl), ?_, ?_, fun q hq => ?_, ?_, ?_, fun q hq => ?_⟩
        · exact hD5.upd hrl (hD9.same e10)
        · rw [upd_same, List.map_append]
          rfl
        · rcases List.mem_append.mp hq with hq | hq
          · have h1 := e10 _ _ (hR9 q hq)
            rw [upd_ne (fun e => by rw [e, hrl10] at h1; cases h1)]
            exact h1
          · rw [List.mem_singleton.mp hq, upd_ne htr]
            exact upd_same
        · rw [List.map_append, List.nodup_append]
          refine ⟨hRn7, by simp, fun p hp q hq e => ?_⟩
          obtain ⟨z, hz, rfl⟩ := List.mem_map.mp hp
          rw [List.mem_singleton.mp hq] at e
          rcases hRz7 z hz with h | h
          · rw [e] at h
            exact hnt h.1
          · rw [e] at h
            exact hntj h.2
        · rw [List.length_append]
          show R.length + 1 ≤ _
          omega
        · rcases List.mem_append.mp hq with hq | hq
          · exact keepz q hq
          · rw [List.mem_singleton.mp hq]
            exact .inr ⟨rfl, by rw [htj]; exact List.mem_append_right _ (List.mem_singleton.mpr rfl)⟩
      · rintro σ H7 ⟨v6, c7, R, rfl, o7, hD7, hrl7, hR7, hRn7, hRl7, hRz7⟩
        refine ⟨_, v6, c7, R, rfl, o7, hD7, hrl7, hR7, hRn7, by omega, fun q hq => ?_⟩
        rw [take_get hai]
        rcases hRz7 q hq with h | h
        · exact ⟨List.mem_append_left _ h.1, h.2⟩
        · exact ⟨List.mem_append_right _ (List.mem_singleton.mpr h.1), List.mem_of_mem_take h.2⟩
    rintro σ H7 ⟨v5, v6, c7, R, rfl, o7, hD7, hrl7, hR7, hRn7, hRl7, hRz7⟩
    -- the map is made
    have ro : RawOk chan hd R := by
      refine ⟨hcnd, hdnd, fun c hc => ⟨hcname c.1 (List.mem_map_of_mem hc), hcw c hc⟩, fun h hh => ?_, fun q hq => ?_, hRn7, by omega, by omega, by omega⟩
      · have hs := (hβ4 h hh).2
        refine ⟨?_, fun m hm => hs.subset hm, hs.nodup hcnd, ?_⟩
        · have : h.1 ∈ keysL hd := List.mem_map_of_mem hh
          rw [hkd] at this
          obtain ⟨i, hi, e⟩ := List.mem_map.mp this
          rw [← e]
          exact dnm_z i (by have := List.mem_range.mp hi; omega)
        · have := hs.length_le
          have h2 : (keysL chan).length = chan.length := List.length_map _
          omega
      · obtain ⟨h1, h2⟩ := hRz7 q hq
        exact ⟨(hzm _).mp (List.mem_of_mem_take h1), (hzm _).mp h2⟩
    have nca : ∀ (b : Addr) (kvs : List (Key × V)), H6 b = some (.dK kvs) → ¬ (b = dr ∨ b = rl) := fun b kvs hb h => by
      rcases h with e | e
      · rw [e, hD6.at_] at hb; cases hb
      · rw [e, h6rl] at hb; cases hb
    have hca6 := e6 _ _ (e5 _ _ hca4)
    have hha6 := e6 _ _ (e5 _ _ h4ha)
    have hca7 := o7 _ _ (nca _ _ hca6) hca6
    have hha7 := o7 _ _ (nca _ _ hha6) hha6
    have hβ7 : ∀ h ∈ hd, H7 ((bl.lookup h.1).getD 0) = some (.lst (h.2.map V.str)) := fun h hh => by
      have h1 := e5 _ _ (hβ4 h hh).1
      have h2 := e6 _ _ h1
      refine o7 _ _ (fun hb => ?_) h2
      rcases hb with e | e
      · rw [e, hD6.at_] at h2
        exact strs_ne (HO.lst.inj (Option.some.inj h2)).symm
      · rw [e, hrl] at h1
        cases h1
    have o07 : Off (· = dr) H H7 := fun b u nb hb => by
      have h4 := o04 b u nb hb
      have h5 := e5 _ _ h4
      exact o7 _ _ (fun h => h.elim nb fun e => by rw [e, hrl] at h5; cases h5) (e6 _ _ h5)
    refine ⟨_, rfl, _, rfl, _, rfl, fun x dx hx0 hdx0 hne => ?_⟩
    have eM : Same H7 (upd (upd H7 dx (.own x)) x (.ins (He.ga K "Map") dx [])) := (Same.new hdx0).upd (by rw [upd_ne hne.symm]; exact hx0)
    refine ⟨x, dx, ca, ha, rl, chan, hd, fun z => (bl.lookup z).getD 0, R, rfl, upd_same, eM _ _ hca7, ?_, fun h hh => eM _ _ (hβ7 h hh), eM _ _ hrl7, fun q hq => eM _ _ (hR7 q hq), ro, fun H8 R' o8 pR hpl => ⟨rfl, ?_⟩⟩
    · have := eM _ _ hha7
      rw [hbl] at this
      exact this
    have e78 : Same H7 H8 := Off.over eM (fun b hb => by rw [hb]; exact hx0) o8
    have mlen : (mkPlan chan hd R').chan.length = chan.length := length_sortL
    have hlen : (mkPlan chan hd R').heard.length = hd.length := by
      show (List.map _ (sortL [] hd)).length = _
      rw [List.length_map, length_sortL]
    have hzname : ∀ z ∈ keysL hd, isNameB z = true ∧ z ≠ "zz" := fun z hz => by
      rw [hkd] at hz
      obtain ⟨i, hi, rfl⟩ := List.mem_map.mp hz
      have := List.mem_range.mp hi
      exact ⟨dnm_z i (by omega), dnm_zz i (by omega)⟩
    refine k H8 c7 x _ (o07.trans (Off.same e78)) (hD7.same e78) (none_off o07 (fun b hb => some_at hb hD7.at_) hx0) hpl (fun most hm => ⟨mkPlan_ok ro pR, fun m hm => hcname m (mkPlan_masts.mp hm), fun z hz => (hzname z (mkPlan_zones.mp hz)).1, hm, fun e => ?_, fun e => ?_⟩) (fun hz => (hzname _ (mkPlan_zones.mp hz)).2 rfl) fun hz => ?_
    · rw [e] at mlen
      rw [List.length_nil] at mlen
      omega
    · rw [e] at hlen
      rw [List.length_nil] at hlen
      omega
    · have hz' := mkPlan_masts.mp hz
      rw [hcn] at hz'
      obtain ⟨i, hi, e⟩ := List.mem_map.mp hz'
      have := List.mem_range.mp hi
      exact dnm_mz i (by omega) e
end
end MC
end
section
set_option Elab.async false
set_option linter.all false
set_option maxRecDepth 100000
set_option maxHeartbeats 4000000
/-! sorted(d.items()), d from texts to texts. -/
namespace MC
open PySem PySem.Spec PyProof.Rows L2 L2.DX
open PySem.W (hideAll of_hideAll hideAll_none hideAll_get EachIs alike alikeAll AllAlike Sortable dataLe Datum DatumOrd)
def pairD (c : Str × Str) : PyData := .tuple [.str c.1, .str c.2]
def leP (c c' : Str × Str) : Bool := dataLe false (fun p : V × PyData => p.2) (V.non, pairD c) (V.non, pairD c')
def sortP (ps : List (Str × Str)) : List (Str × Str) := ps.mergeSort leP
def rItemsK : V → List V → Hp → VK → Prop := fun x xs H Q => ∃ (a : Addr) (kvs : List (L2.Key × V)), x = .ref a ∧ xs = [] ∧ H a = some (.dK kvs) ∧ ∀ p, H p = none → Q (.ref p) (upd H p (itemsO p a))
theorem mt_itemsK {X : Cx} : MtR X "dict.items" rItemsK := by
  intro pins s σ H x xs v us Q I rx rxs h
  obtain ⟨a, kvs, rfl, rfl, ha, q⟩ := h
  cases rx
  cases rxs
  obtain ⟨z, hd, vs, rel, dd⟩ := dk_of I.hok ha
  obtain ⟨es, ep, hr, _, _⟩ := dd.raw
  refine DT.callItems (es := es) (ep := ep) hd hr ?_
  have hf : H s.heap.objs.size = none := I.hok.fresh (Nat.le_refl _)
  exact ⟨.ref s.heap.objs.size, upd H s.heap.objs.size (itemsO s.heap.objs.size a), I.laid (t' := s.toks) (fun b u e => Heap.get?_push_of_some _ e) (Nat.le_refl _) (itemsO_ok (Heap.get?_push_size _ rfl)), rfl, q _ hf⟩
/-- at the addresses lie the pairs -/
def PairsAt (H : Hp) (bs : List Addr) (ps : List (Str × Str)) : Prop := bs.length = ps.length ∧ ∀ (i : Nat) (b : Addr) (c : Str × Str), bs[i]? = some b → ps[i]? = some c → H b = some (.tup [.str c.1, .str c.2])
def rSortItK : List V → Hp → VK → Prop := fun vs H Q => ∃ (p a : Addr) (ps : List (Str × Str)), vs = [.ref p] ∧ H p = some (itemsO p a) ∧ H a = some (.dK (dV V.str ps)) ∧ ps.length ≤ 10000 ∧
  ∀ (H' : Hp) (l : Addr) (bs : List Addr), Same H H' → H l = none → H' l = some (.lst (bs.map V.ref)) → PairsAt H' bs (sortP ps) → Q (.ref l) H'
theorem cr_sortedItemsK {X : Cx} (hc : X.calm = true) (hu : X.A.units + 64 < cLine) : CallR X (.builtin "sorted") rSortItK := by
  intro pins s σ H xs us Q I r h
  obtain ⟨p, a, E, rfl, hp, ha, hlen, q⟩ := h
  obtain rfl := Vals.ref1 r
  have view : s.heap.IsItemsView p a := (show ObjOk X.prog X.w H s.heap p (itemsO p a) from I.hok p _ hp).1
  obtain ⟨z, hd, vs, rel, dd⟩ := dk_of I.hok ha
  obtain ⟨es, ep, hraw, l2, hent⟩ := dd.raw
  have l1 : (dV V.str E).length = vs.length := Paired.length rel
  rw [dV_len] at l1
  have hh : X.A.handled = none := I.ok.hd hc
  refine DT.sortedI (es := es) (ep := ep) hh view hraw (by rw [sizeLine_eq]; omega) fun h' tk as hk hlt hl hG => ?_
  have lak : as.length = E.length := by omega
  have nd : as.Nodup := List.Pairwise.imp (fun h => Nat.ne_of_lt h) hG.rise
  have pr : ∀ (j : Nat) (b : Addr), as[j]? = some b → ∃ (e : Str × Str) (t u : Tok), E[j]? = some e ∧ h'.get? b = some { cls := .type "tuple", data := .seq #[Value.str e.1 t, Value.str e.2 u] } := by
    intro j b hj
    obtain ⟨en, he, hg⟩ := hG.pairs j b hj
    have hje : j < es.size := by
      rcases Nat.lt_or_ge j es.size with h | h
      · exact h
      · rw [Array.getElem?_eq_none h] at he
        cases he
    rw [Array.getElem?_eq_getElem hje] at he
    have hjv : j < vs.length := by omega
    obtain ⟨k1, k2⟩ := hent j hje (vs[j]).1 (vs[j]).2 (List.getElem?_eq_getElem hjv)
    obtain ⟨e0, he0, r1, r2⟩ := pget rel (List.getElem?_eq_getElem hjv)
    rw [dV_get] at he0
    cases hkj : E[j]? with
    | none =>
      rw [hkj] at he0
      cases he0
    | some e =>
      rw [hkj] at he0
      have ee : ((Sum.inr e.1 : L2.Key), V.str e.2) = e0 := Option.some.inj he0
      rw [← ee] at r1 r2
      have k1' : keyIs (vs[j]).1 es[j].key = true := k1
      rw [← r1] at k1'
      rcases keyIs_shape k1' with ⟨i, t, ez, _⟩ | ⟨x, t, ez, ek⟩
      · cases ez
      · cases ez
        obtain ⟨u, eu⟩ : ∃ u, (vs[j]).2 = Value.str e.2 u := r2
        refine ⟨e, t, u, rfl, ?_⟩
        rw [hg, ← Option.some.inj he, ek, k2, eu]
  have I1 : Inv X pins σ H { s with heap := h', toks := tk } := I.kept (t' := tk) hk
  obtain ⟨H2, I2, gr, qt⟩ := takeT (P := fun b vs => ∃ (j : Nat) (e : Str × Str), as[j]? = some b ∧ E[j]? = some e ∧ vs = [.str e.1, .str e.2]) I as _ I1 nd fun b hb => by
    obtain ⟨j, hj⟩ := List.mem_iff_getElem?.mp hb
    obtain ⟨e, t, u, he, hg⟩ := pr j b hj
    have hbl : s.heap.objs.size ≤ b := Nat.le_of_lt (hG.above b hb)
    exact ⟨hbl, I.hok.fresh hbl, [.str e.1, .str e.2], ⟨j, e, hj, he, rfl⟩, fun H3 => ⟨(by rw [sizeLine_eq]; show 2 ≤ 16777216; omega), [Value.str e.1 t, Value.str e.2 u], .cons ⟨t, rfl⟩ (.cons ⟨u, rfl⟩ .nil), ⟨_, hg, rfl, 0, rfl⟩⟩⟩
  have facts : ∀ z ∈ as.zip E, H2 z.1 = some (.tup [.str z.2.1, .str z.2.2]) := by
    intro z hz
    obtain ⟨i, hi⟩ := List.mem_iff_getElem?.mp hz
    obtain ⟨i1, i2⟩ := List.getElem?_zip_eq_some.mp hi
    obtain ⟨vs, ⟨j, e, j1, j2, ev⟩, hH⟩ := qt z.1 (List.mem_of_getElem? i1)
    have eij : i = j := (List.getElem?_inj (List.getElem?_eq_some_iff.mp i1).1 nd).mp (i1.trans j1.symm)
    subst eij
    have ee : e = z.2 := Option.some.inj (j2.symm.trans i2)
    rw [ev, ee] at hH
    exact hH
  obtain ⟨ps, eps⟩ : ∃ ps : List (V × PyData), ps = (as.zip E).map fun z => (V.ref z.1, pairD z.2) := ⟨_, rfl⟩
  have hzl : (as.zip E).length = as.length := by rw [List.length_zip, lak, Nat.min_self]
  have m1 : ps.map (·.1) = as.map V.ref := by
    rw [eps, List.map_map]
    have : (as.zip E).map Prod.fst = as := List.map_fst_zip (by rw [lak]; exact Nat.le_refl _)
    conv => rhs; rw [← this, List.map_map]
    rfl
  have hpsE : ∀ d ∈ ps.map (·.2), ∃ e, d = pairD e := fun d hd => by
    rw [eps, List.map_map] at hd
    obtain ⟨z, _, rfl⟩ := List.mem_map.mp hd
    exact ⟨z.2, rfl⟩
  have hal : AllAlike (ps.map (·.2)) := by
    intro d hd d' hd'
    obtain ⟨e, rfl⟩ := hpsE d hd
    obtain ⟨e', rfl⟩ := hpsE d' hd'
    simp [pairD, alike, alikeAll]
  have hsk : Sortable (ps.map (·.2)) := .inl fun d hd => by
    obtain ⟨e, rfl⟩ := hpsE d hd
    exact ⟨_, _, rfl⟩
  have hdp : ∀ p ∈ ps, Dp X.K H2 p.1 p.2 := fun p hp => by
    rw [eps] at hp
    obtain ⟨z, hz, rfl⟩ := List.mem_map.mp hp
    exact Dp.tup (sqT (facts z hz)) (DpAll.cons (Dp.str _) (DpAll.cons (Dp.str _) DpAll.nil))
  have hdep : ∀ p ∈ ps, p.2.depth ≤ 8 := fun p hp => by
    obtain ⟨e, he⟩ := hpsE p.2 (List.mem_map_of_mem hp)
    rw [he]
    simp [pairD, PyData.depth, PyData.depthAll]
  have rv : Vals (ps.map (·.1)) (as.map Value.ref) := by
    rw [m1]
    exact vals_maps (fun b : Addr => V.ref b) (fun b => Value.ref b) as fun _ _ => rfl
  have hL : ps.length ≤ sizeLine := by
    have : ps.length = as.length := by rw [eps, List.length_map, hzl]
    rw [sizeLine_eq]
    omega
  have e := each_vals (R := fun _ => True) rv
  have hnew : h'.get? h'.objs.size = none := Heap.get?_none_of_le (Nat.le_refl _)
  have er : EachIs (fun (v : Value) (p : V × PyData) => ∃ cs, Reads (h'.push (seqObj "list" (as.map Value.ref).toArray 0)) v p.2 cs ∧ h'.objs.size ∉ cs) (as.map Value.ref) ps := by
    refine each_and e fun v p hpm rv => ?_
    obtain ⟨cs, rd⟩ := Dp.reads I2 p.2 p.1 v (hdp p hpm) rv
    refine ⟨cs, PyProof.Rows.Reads.keeps (fun b o q => Heap.get?_push_of_some _ q) rd, fun hm => ?_⟩
    obtain ⟨o, ho⟩ := reads_old p.2 v cs (hal _ (List.mem_map.mpr ⟨p, hpm, rfl⟩) _ (List.mem_map.mpr ⟨p, hpm, rfl⟩)) rd _ hm
    rw [hnew] at ho
    cases ho
  refine PySem.W.list_sort_data (A := X.A.in1) (enc := fun p : V × PyData => p.2) (R := fun (u : Value) (p : V × PyData) => RelV p.1 u) (vs := as.map Value.ref) (bs := ps) (s := { s with heap := h'.push (seqObj "list" (as.map Value.ref).toArray 0), toks := tk }) (a := h'.objs.size) (n := 0) (Heap.get?_push_size _ rfl) e er hal hsk hL
    (fun p hpm => by have := hdep p hpm; show X.A.units + 1 + 1 + _ < _; omega) fun out ho eo => ?_
  have vo := vals_each eo
  have hlen2 : (ps.mergeSort (dataLe false (fun p : V × PyData => p.2))).length = ps.length := List.length_mergeSort ..
  obtain ⟨c, hc2⟩ := sortedHeap_at (out := out.toArray) (show (h'.push (seqObj "list" (as.map Value.ref).toArray 0)).get? h'.objs.size = some (seqObj "list" (as.map Value.ref).toArray 0) from Heap.get?_push_size _ rfl)
  obtain ⟨Z, eZ⟩ : ∃ Z, Z = (as.zip E).mergeSort (fun z z' => leP z.2 z'.2) := ⟨_, rfl⟩
  have p2 : ps.mergeSort (dataLe false (fun p : V × PyData => p.2)) = Z.map fun z => (V.ref z.1, pairD z.2) := by
    rw [eps, eZ]
    exact (PySem.W.sort_maps (f := fun z : Addr × (Str × Str) => (V.ref z.1, pairD z.2)) (s := dataLe false (fun p : V × PyData => p.2)) fun a _ b _ => rfl).symm
  have p3 : Z.map (·.2) = sortP E := by
    have : (as.zip E).map Prod.snd = E := List.map_snd_zip (by rw [lak]; exact Nat.le_refl _)
    rw [eZ]
    unfold sortP
    conv => rhs; rw [← this]
    exact PySem.W.sort_maps (f := fun z : Addr × (Str × Str) => z.2) (s := leP) fun a _ b _ => rfl
  have p4 : Z.Perm (as.zip E) := by rw [eZ]; exact List.mergeSort_perm _ _
  have hn2 : H2 h'.objs.size = none := I2.hok.fresh (Nat.le_refl _)
  refine ⟨.ref h'.objs.size, _, I2.laid (a := h'.objs.size) (t' := tk) (o := .lst ((ps.mergeSort (dataLe false (fun p : V × PyData => p.2))).map (·.1))) (fun b o q => ?_) (Nat.le_refl _) ?_, rfl, ?_⟩
  · have hlt : b < h'.objs.size := Heap.lt_size q
    show (PyProof.Rows.sortedHeap (h'.push (seqObj "list" (as.map Value.ref).toArray 0)) h'.objs.size (as.map Value.ref) out.toArray).get? b = some o
    rw [sortedHeap_old (Nat.ne_of_lt hlt) (by rw [Heap.size_push]; exact Nat.lt_succ_of_lt hlt)]
    exact Heap.get?_push_of_some _ q
  · exact ⟨by rw [List.length_map, hlen2]; exact hL, out, c, vo, hc2⟩
  · have gr' : Same H H2 := gr
    refine q _ h'.objs.size (Z.map (·.1)) (gr'.upd hn2) (I.hok.fresh (Nat.le_of_lt hlt)) (by rw [upd_same, p2, List.map_map, List.map_map]; rfl) ⟨by rw [← p3, List.length_map, List.length_map], fun i b cc hb hcc => ?_⟩
    rw [List.getElem?_map] at hb
    rw [← p3, List.getElem?_map] at hcc
    obtain ⟨z, hz, rfl⟩ := Option.map_eq_some_iff.mp hb
    rw [hz] at hcc
    cases hcc
    have f := facts z (p4.mem_iff.mp (List.mem_of_getElem? hz))
    rw [upd_ne (ne_of_none f hn2)]
    exact f
end MC
end
section
set_option Elab.async false
set_option linter.all false
set_option maxRecDepth 100000
set_option maxHeartbeats 4000000
/-! The law's own defs, 4: told. -/
namespace MC
open PySem PySem.Spec PyProof.Rows L2 L2.DX
def rEqD0 : R2 := fun x y H Q => ∃ a b ks, x = .ref a ∧ y = .ref b ∧ H a = some (.dK ks) ∧ H b = some (.dK []) ∧ Q (.bl (decide (ks.length = 0))) H
theorem op_eq_dict0 {X : Cx} (hu : X.A.units < cLine) : OpR X (compareOp .Eq) rEqD0 := by
  intro pins s σ H x y v u Q I rx ry h
  obtain ⟨a, b, ks, rfl, rfl, ea, eb, q⟩ := h
  obtain rfl : v = Value.ref a := rx
  obtain rfl : u = Value.ref b := ry
  obtain ⟨_, ya, va, ra, da⟩ := (show ObjOk X.prog X.w H s.heap a (.dK ks) from I.hok a _ ea)
  obtain ⟨_, yb, vb, rb, db⟩ := (show ObjOk X.prog X.w H s.heap b (.dK []) from I.hok b _ eb)
  have hb : vb.length = 0 := by rw [← rb.length]; rfl
  have ha : ks.length = va.length := ra.length
  by_cases hk : ks.length = 0
  · have hk' : ks = [] := List.length_eq_zero_iff.mp hk
    subst hk'
    exact PySem.W.keq_eq (knd := mixKind X.prog X.w) (r := true) ya yb da db hu (fun _ => hits_all rb ra (fun p hp => by cases hp)) (fin_bl I q (by rw [← ha, hb]; rfl))
  · refine PySem.W.keq_eq (knd := mixKind X.prog X.w) (r := true) ya yb da db hu (fun e => absurd (e.trans hb) (by omega)) (fin_bl I q ?_)
    have : (va.length == vb.length) = false := by rw [beq_eq_false_iff_ne]; omega
    rw [this, decide_eq_false hk]
    rfl
theorem leS_trans (a b c : Str) (h : leS a b = true) (h' : leS b c = true) : leS a c = true := by
  unfold leS at *
  simp only [Bool.not_eq_true', decide_eq_false_iff_not] at *
  exact List.not_lt.mpr (List.le_trans (List.not_lt.mp h) (List.not_lt.mp h'))
theorem leS_total (a b : Str) : (leS a b || leS b a) = true := by
  unfold leS
  by_cases h : b.cps.toList < a.cps.toList
  · have h2 : ¬ a.cps.toList < b.cps.toList := List.lt_asymm h
    simp [h2]
  · simp [h]
theorem leS_anti (a b : Str) (h : leS a b = true) (h' : leS b a = true) : a = b := by
  unfold leS at *
  simp only [Bool.not_eq_true', decide_eq_false_iff_not] at *
  have := List.le_antisymm (List.not_lt.mp h) (List.not_lt.mp h')
  exact Str.ext' (Array.toList_inj.mp this)
theorem sortS_eq {l l' : List Str} (h : l.Perm l') : sortS l = sortS l' :=
  List.Perm.eq_of_pairwise (fun a b _ _ h1 h2 => leS_anti a b h1 h2) (List.pairwise_mergeSort leS_trans leS_total l) (List.pairwise_mergeSort leS_trans leS_total l') (((sortS_perm l).trans h).trans (sortS_perm l').symm)
/-- what a town tells of itself -/
def ToldAt (K : PySem.W.Frag) (H : Hp) (q : Addr) (A : List (Str × Str)) (B C : List Str) : Prop := ∃ (a b c : Addr) (bs : List Addr), SqT K H q [.ref a, .ref b, .ref c] ∧ SqL K H a (bs.map V.ref) ∧ PairsAt H bs A ∧ SqL K H b (B.map V.str) ∧ SqT K H c (C.map V.str)
theorem ToldAt.same {K : PySem.W.Frag} {H H' : Hp} {q : Addr} {A : List (Str × Str)} {B C : List Str} (h : ToldAt K H q A B C) (e : Same H H') : ToldAt K H' q A B C := by
  obtain ⟨a, b, c, bs, h1, h2, h3, h4, h5⟩ := h
  exact ⟨a, b, c, bs, e.seqT h1, e.seq h2, ⟨h3.1, fun i b c hb hc => e _ _ (h3.2 i b c hb hc)⟩, e.seq h4, e.seqT h5⟩
theorem ha_prs {K : PySem.W.Frag} {H : Hp} : ∀ {A : List (Str × Str)} {bs : List Addr}, PairsAt H bs A → Ha K H (bs.map V.ref) A
  | [], bs, h => by
    have : bs = [] := List.length_eq_zero_iff.mp h.1
    subst this
    exact ha_nil
  | c :: A, [], h => by
    have := h.1
    cases this
  | c :: A, b :: bs, h => ha_cons (hv_pair (sqT (h.2 0 b c rfl rfl)) (hv_str _) (hv_str _)) (ha_prs ⟨by have := h.1; rw [List.length_cons, List.length_cons] at this; omega, fun i b' c' hb hc => h.2 (i + 1) b' c' hb hc⟩)
theorem ToldAt.hv {K : PySem.W.Frag} {H : Hp} {q : Addr} {A : List (Str × Str)} {B C : List Str} (h : ToldAt K H q A B C) : Hv K H (.ref q) (PySem.W.T3.mk A B (PySem.W.Tup.mk C)) := by
  obtain ⟨a, b, c, bs, h1, h2, h3, h4, h5⟩ := h
  exact hv_t3 h1 (hv_list h2 (ha_prs h3)) (hv_list h4 (ha_strs _)) (hv_tup h5 (ha_strs _))
section
variable {P : Program} {w : World} {K : PySem.W.Frag} {mg : Str → Option Value} {base : Heap}
def spTold (K : PySem.W.Frag) : Sp := fun vs H Q _ => ∃ (y : TAd) (p : Plan) (most : Nat) (s : TSt) (st : Addr), vs = [.ref y.tw] ∧ TownS K H y p most s st ∧ SInv p most s ∧
  ∀ H' q, Same H H' → ToldAt K H' q (sortP s.ps) (sortS (keysL (townScn p s.ps s.down).sorted.calls)) s.down → Q (.ref q) H'
theorem ok_told (T : Txt P w K mg) : Has P w K mg base CX0 1 (He.fAd K ("_law_told", none)) ["_law_town_here"] (spTold K) := by
  obtain ⟨fd, F⟩ := T.d_Ltold
  have sc : FnScope ["_law_town_here"] ["_law_town_here"] (defScope sLtold) := ⟨rfl, rfl, rfl, by decide +kernel, rfl, by decide +kernel, by decide +kernel⟩
  refine ⟨fd, F.ok sc (fun vs H Q E h => ?_) (fun cdv A outer s H vs Q E hr h => ?_), F.bindsN fun _ _ _ _ _ _ us hl => match us, hl with | [_], _ => rfl, F.kp⟩
  · obtain ⟨y, p, most, s, st, rfl, _⟩ := h
    rfl
  · obtain ⟨y, p, most, s, st, rfl, hS, SI, k⟩ := h
    refine ⟨_, pss_one (ps_ret (pe_tup (pa_cons (pe_callB (cr_sortedItemsK (by rfl) (by exact hr.units)) (by rfl) T.z_sorted bt_sorted (pa_cons (pe_bm0 PySem.F.plainAttrs_dict PySem.F.slot_dict_items PySem.F.type_dict_items mt_itemsK (pe_fld (pv 0) rfl)) pa_nil))
      (pa_cons (pe_callB (cr_sortedStr (by rfl) (by exact hr.units)) (by rfl) T.z_sorted bt_sorted (pa_cons (pe_fld (pv 0) rfl) pa_nil)) (pa_cons (pe_fld (pv 0) rfl) pa_nil))))), ?_⟩
    obtain ⟨R, dn, r, v, hT, hne, full⟩ := hS
    have hpl := SI.pok.len
    have pm : (keysL R).Perm (keysL (townScn p s.ps s.down).sorted.calls) := (List.perm_ext_iff_of_nodup full.nd (nodup_sortL (scn_lk SI.pok))).mpr full.keys
    have hRl : (keysL R).length ≤ 100 := by
      rw [pm.length_eq]
      have h1 : (keysL (townScn p s.ps s.down).sorted.calls).length = (sortL [] (townScn p s.ps s.down).calls).length := List.length_map _
      rw [h1, length_sortL]
      have h2 : (townScn p s.ps s.down).calls.length = (s.ps.filter fun c => decide (p.up s.down c.2 ≠ [])).length := List.length_map _
      rw [h2]
      have := List.length_filter_le (fun c : Str × Str => decide (p.up s.down c.2 ≠ [])) s.ps
      omega
    refine ⟨_, rfl, y.tw, _, y.dx, _, _, rfl, hT.at_, T.c_Town, T.a_Town_places, rfl, .inr (.inr (.inl ⟨rfl, .inl ⟨_, hT.pa⟩⟩)), y.pa, _, rfl, rfl, hT.pa, fun iv hiv => ?_⟩
    have e1 : Same H (upd H iv (itemsO iv y.pa)) := Same.new hiv
    refine ⟨iv, y.pa, s.ps, rfl, upd_same, e1 _ _ hT.pa, by omega, fun H1 l bs e2 hl0 hl hp => ?_⟩
    have hT1 := hT.same (e1.trans e2)
    refine ⟨_, rfl, y.tw, _, y.dx, _, _, rfl, hT1.at_, T.c_Town, T.a_Town_seating, rfl, st, keysL R, rfl, .inr (.inr ⟨_, .inl hT1.st, dV_keys.symm⟩), by omega, fun q2 hq2 => ?_⟩
    have e3 : Same H1 (upd H1 q2 (.lst ((sortS (keysL R)).map V.str))) := Same.new hq2
    have hT2 := hT1.same e3
    refine ⟨_, rfl, y.tw, _, y.dx, _, _, rfl, hT2.at_, T.c_Town, T.a_Town_down, rfl, sz3, fun q hq => ?_⟩
    have e4 := e3.upd (o := .tup [.ref l, .ref q2, .ref dn]) hq
    refine k _ q ((e1.trans e2).trans e4) ⟨l, q2, dn, bs, sqT upd_same, sqL (e4 _ _ hl), ⟨hp.1, fun i b c hb hc => e4 _ _ (hp.2 i b c hb hc)⟩, sqL ?_, e4.seqT hT1.dn⟩
    rw [upd_ne (ne_of_none upd_same hq), upd_same, sortS_eq pm]
end
end MC
end
section
set_option Elab.async false
set_option linter.all false
set_option maxRecDepth 100000
set_option maxHeartbeats 4000000
/-! The law's own defs, 5: wish. -/
namespace MC
open PySem PySem.Spec PyProof.Rows L2
/-- a list turns: the map stays -/
theorem PlanAt.offD {K : PySem.W.Frag} {H H' : Hp} {pl dr : Addr} {p : Plan} {ys : List V} (h : PlanAt K H pl p) (o : Off (· = dr) H H') (hd : H dr = some (.lst ys)) : PlanAt K H' pl p := by
  obtain ⟨dxp, ca, ha, ra, β, ρ, h1, h2, h3, h4, h5, h6⟩ := h
  have off : ∀ {b : Addr} {u : HO}, H b = some u → u ≠ .lst ys → H' b = some u := fun {b u} q hu => o _ _ (fun e => by rw [e, hd] at q; exact hu (Option.some.inj q).symm) q
  exact ⟨dxp, ca, ha, ra, β, ρ, off h1 (fun z => by cases z), off h2 (fun z => by cases z), off h3 (fun z => by cases z), off h4 (fun z => by cases z), fun x hx => off (h5 x hx) (fun z => by cases z), fun x hx => off (h6 x hx) (fun z => by cases z)⟩
theorem TownS.offD {K : PySem.W.Frag} {H H' : Hp} {y : TAd} {p : Plan} {most : Nat} {s : TSt} {st dr : Addr} {ys : List V} (h : TownS K H y p most s st) (o : Off (· = dr) H H') (hd : H dr = some (.lst ys)) : TownS K H' y p most s st := by
  obtain ⟨R, dn, r, v, hT, hne, full⟩ := h
  have off : ∀ {b : Addr} {u : HO}, H b = some u → u ≠ .lst ys → H' b = some u := fun {b u} q hu => o _ _ (fun e => by rw [e, hd] at q; exact hu (Option.some.inj q).symm) q
  exact ⟨R, dn, r, v, ⟨off hT.at_ (fun z => by cases z), hT.pl.offD o hd, sqT_offL hT.dn o hd, off hT.pa (fun z => by cases z), off hT.st (fun z => by cases z)⟩, hne, full⟩
def cnm (t : Nat) : Str := ("c" : Str) ++ (toString (t : Int) : Str)
theorem cnm_ok : ∀ t, t < 21 → isNameB (cnm t) = true := by decide +kernel
theorem cnm_len : ∀ t : Nat, t < 21 → ((toString (t : Int) : Str)).length ≤ 4 := by decide +kernel
theorem heard_keys {p : Plan} {β : Str → Addr} : p.zones.map V.str = (dS (p.heard.map fun h => (h.1, V.ref (β h.1)))).map (fun kv => kV kv.1) := by
  unfold Plan.zones
  simp only [dS, List.map_map]
  rfl
section
variable {P : Program} {w : World} {K : PySem.W.Frag} {mg : Str → Option Value} {base : Heap}
def spWish (K : PySem.W.Frag) : Sp := fun vs H Q _ => ∃ (dr sc pl : Addr) (ns : List Int) (c : Int) (p : Plan) (y : TAd) (most : Nat) (s : TSt) (st : Addr) (t : Nat), vs = [.ref dr, .ref pl, .ref y.tw, .int (t : Int)] ∧ DrawAt K H dr sc ns c ∧ PlanAt K H pl p ∧ TownS K H y p most s st ∧ PInv p most ∧ SInv p most s ∧ t ≤ 20 ∧ cnm t ∉ keysL s.ps ∧
  ∀ H' (c' : Int) (dd : Addr) (d : Deed), Off (· = dr) H H' → DrawAt K H' dr sc ns c' → H dd = none → H' dd = some (.tup (d.row.map V.str)) → d.ok p most s → (∀ n z, d = .beg n z → n = cnm t) → Q (.ref dd) H'
theorem ok_wish (T : Txt P w K mg) : Has P w K mg base CX0 4 (He.fAd K ("_law_wish", none)) ["_law_draw", "_law_plan", "_law_town_here", "_law_turn"] (spWish K) := by
  obtain ⟨fd, F⟩ := T.d_Lwish
  obtain ⟨fdT, GT, bT, kT⟩ := ok_take (base := base) T
  obtain ⟨fdP, GP, bP, kP⟩ := ok_pick (base := base) T
  have sc : FnScope ["_law_draw", "_law_plan", "_law_town_here", "_law_turn", "_law_kind", "_law_name", "_law_roads", "_law_up", "_law_road", "_law_mast"] ["_law_draw", "_law_plan", "_law_town_here", "_law_turn"] (defScope sLwish) := ⟨rfl, rfl, rfl, by decide +kernel, rfl, by decide +kernel, by decide +kernel⟩
  refine ⟨fd, F.ok sc (fun vs H Q E h => ?_) (fun cdv A outer s H vs Q E hr h => ?_), F.bindsN fun _ _ _ _ _ _ us hl => match us, hl with | [_, _, _, _], _ => rfl, F.kp⟩
  · obtain ⟨dr, sc, pl, ns, c, p, y, most, s, st, t, rfl, _⟩ := h
    rfl
  · obtain ⟨dr, sa, pl, ns, c, p, y, most, s, st, t, rfl, hD, hP, hS, PI, SI, ht, hnew, k⟩ := h
    refine ⟨_, PSs.nox (pss_cons (ps_set (i := 4) sc.nd rfl (by first | exact Or.inl rfl | exact Or.inr rfl) (pe_call GT (hr.mono (by decide)) (by rfl) T.g__law_take kT bT .nil pass0 (pa_cons (pv 0) (pa_cons pe_int pa_nil))))
      (pss_cons (ps_if (PW.pt (pw_or (pt_cmpR op_lt (pv 4) pe_int (nomark _)) (pw_or1 (pt_cmpR (op_eq_dict0 (by exact Nat.lt_of_succ_lt hr.u1)) (pe_fld (pv 2) rfl) pe_dnewK (nomark _)))))
        (pss_one (ps_ret (pe_tup (pa_cons pe_str (pa_cons (pe_op op_add_str pe_str (pe_callTy call_str_int (by rfl) T.z_str bt_str (pa_cons (pv 3) pa_nil))) (pa_cons (pe_call GP hr (by rfl) T.g__law_pick kP bP .nil pass0 (pa_cons (pv 0) (pa_cons (pe_callB (cr_sortedStr (by rfl) (by exact hr.units)) (by rfl) T.z_sorted bt_sorted (pa_cons (pe_fld (pv 1) rfl) pa_nil)) pa_nil))) pa_nil)))))) pss_nil)
      (pss_cons (ps_set (i := 5) sc.nd rfl (by first | exact Or.inl rfl | exact Or.inr rfl) (pe_call GP hr (by rfl) T.g__law_pick kP bP .nil pass0 (pa_cons (pv 0) (pa_cons (pe_callB (cr_sortedStr (by rfl) (by exact hr.units)) (by rfl) T.z_sorted bt_sorted (pa_cons (pe_fld (pv 2) rfl) pa_nil)) pa_nil))))
      (pss_cons (ps_setLc (i := 6) (own := [("_law_road", 8)]) (tt := tTest (tOp rEq (tOp (rIxT K) (tVar 8) (tC (.int 0))) (tDGet (tFld K (tVar 2) "places") (tVar 5)))) (te := tOp (rIxT K) (tVar 8) (tC (.int 1))) (by rfl) sc.nd rfl rfl (sw_true rfl rfl rfl (by decide +kernel)) (pi_tup (pe_fld (pv 1) rfl))
        (by exact blk_ok (N := ["_law_draw", "_law_plan", "_law_town_here", "_law_turn", "_law_kind", "_law_name", "_law_roads", "_law_up", "_law_road", "_law_mast"]) (sc := defScope sLwish) (by decide +kernel)) (fun _ _ _ _ _ => pg_name (i := 8) sc.nd rfl (Or.inl rfl))
        (fun _ _ _ _ _ => pts_one (pt_cmpR op_eq (pe_ix ix_tup (pv 8) pe_int (fun _ _ => rfl)) (pe_dget (by exact hr.u1) (pe_fld (pv 2) rfl) (pv 5) (fun _ _ => rfl)) (nomark _))) (fun _ _ _ _ _ => pe_ix ix_tup (pv 8) pe_int (fun _ _ => rfl)))
      (pss_cons (ps_if (PW.pt (pw_and (pt_cmpR op_eq (pv 4) pe_int (nomark _)) (pw_and1 (pt_cmpR (op_neT (List Str) (by exact Fit.of hr (by decide))) (pv 6) (pe_lst pa_nil) (nomark _)))))
        (pss_one (ps_ret (pe_tup (pa_cons pe_str (pa_cons (pv 5) (pa_cons (pe_call GP hr (by rfl) T.g__law_pick kP bP .nil pass0 (pa_cons (pv 0) (pa_cons (pv 6) pa_nil))) pa_nil)))))) pss_nil)
      (pss_cons (ps_if (pt_cmpR op_eq (pv 4) pe_int (nomark _)) (pss_one (ps_ret (pe_tup (pa_cons pe_str (pa_cons (pv 5) pa_nil))))) pss_nil)
      (pss_cons (ps_lock (ps_setLc (i := 7) (own := [("_law_mast", 9)]) (tt := tTest (tOp (rIn K true) (tVar 9) (tFld K (tVar 2) "down"))) (te := tVar 9) (by rfl) sc.nd rfl rfl (sw_true rfl rfl rfl (by decide +kernel)) (pi_keys (pe_fld (pv 1) rfl))
        (by exact blk_ok (N := ["_law_draw", "_law_plan", "_law_town_here", "_law_turn", "_law_kind", "_law_name", "_law_roads", "_law_up", "_law_road", "_law_mast"]) (sc := defScope sLwish) (by decide +kernel)) (fun _ _ _ _ _ => pg_name (i := 9) sc.nd rfl (Or.inl rfl))
        (fun _ _ _ _ _ => pts_one (pt_cmpR op_notIn_seq (pv 9) (pe_fld (pv 2) rfl) rfl)) (fun _ _ _ _ _ => pv 9)))
      (pss_cons (ps_if (PW.pt (pw_and (pt_cmpR op_lt (pe_callB call_len_seq (by rfl) T.z_len bt_len (pa_cons (pe_fld (pv 2) rfl) pa_nil)) (pe_fld (pv 2) rfl) (nomark _)) (pw_and1 (pt_cmpR (op_neT (List Str) (by exact Fit.of hr (by decide))) (pv 7) (pe_lst pa_nil) (nomark _)))))
        (pss_one (ps_ret (pe_tup (pa_cons pe_str (pa_cons (pe_call GP hr (by rfl) T.g__law_pick kP bP .nil pass0 (pa_cons (pv 0) (pa_cons (pv 7) pa_nil))) pa_nil))))) pss_nil)
      (pss_one (ps_ret (pe_ifExp (pt_cmpR (op_neT (PySem.W.Tup Str) (by exact Fit.of hr (by decide))) (pe_fld (pv 2) rfl) (pe_tup pa_nil) (nomark _)) (pe_tup (pa_cons pe_str (pa_cons (pe_ix ix_tup (pe_fld (pv 2) rfl) pe_int (fun _ _ => rfl)) pa_nil))) (pe_tup (pa_cons pe_str (pa_cons (pv 5) pa_nil)))))))))))))), ?_⟩
    have hpl := SI.pok.len
    have ok := PI.ok
    refine ⟨_, rfl, dr, sa, ns, c, 6, rfl, hD, by decide, fun H1 c1 kd o1 hD1 _ _ => ?_⟩
    have hP1 := hP.offD o1 hD.at_
    have hS1 := hS.offD o1 hD.at_
    refine ⟨_, rfl, _, _, rfl, rfl, _, rfl, ?_⟩
    -- what follows where a call is begun
    have beg : ∀ (H2 : Hp) (H4 : Hp) (c4 : Int) (v : V) (dd : Addr), Off (· = dr) H H2 → Off (· = dr) H2 H4 → H2 dr ≠ none → DrawAt K H4 dr sa ns c4 → v ∈ (sortS p.zones).map V.str → H4 dd = none → Q (.ref dd) (upd H4 dd (.tup [.str "begin", .str (cnm t), v])) := by
      intro H2 H4 c4 v dd o2 o4 hdr hD4 hv hdd
      obtain ⟨z, hz, rfl⟩ := List.mem_map.mp hv
      have hz' := (sortS_perm _).mem_iff.mp hz
      refine k _ c4 dd (.beg (cnm t) z) ((o2.trans o4).new hdd) (hD4.same (Same.new hdd)) (none_off (o2.trans o4) (fun b hb => some_at hb hD4.at_) hdd) upd_same ⟨cnm_ok t (by omega), hnew, hz'⟩ fun n z' e => by injection e with e _; exact e.symm
    have hcl := cnm_len t (by omega)
    have hlog : (t : Int).natAbs.log2 < 1920 := by
      rw [Int.natAbs_natCast]
      exact Nat.lt_of_le_of_lt (Nat.log2_le_self _) (by omega)
    have hzlen : p.zones.length ≤ 8 := Plan.zlen ok
    have hzne : (sortS p.zones).map V.str ≠ [] := fun e => by
      have := congrArg List.length e
      rw [List.length_map, (sortS_perm _).length_eq] at this
      have h2 : p.zones = [] := List.length_eq_zero_iff.mp this
      unfold Plan.zones at h2
      exact PI.zne (List.map_eq_nil_iff.mp h2)
    have hs8 : ("c" : Str).length = 1 := by decide +kernel
    by_cases hk : kd < 3
    · rw [decide_eq_true hk]
      obtain ⟨dxp, ca, ha, ra, β, ρ, h1, h2, h3, h4, h5, h6⟩ := id hP1
      refine itT (itT ⟨_, rfl, (t : Int), rfl, hlog, _, _, rfl, rfl, by rw [hs8, sizeLine_eq]; omega, _, rfl, _, rfl, pl, _, dxp, _, _, rfl, h1, T.c_Map, T.a_Map_heard, rfl, ha, p.zones, rfl, .inr (.inr ⟨_, .inl h3, heard_keys⟩), by omega, fun zl hzl => ?_⟩)
      have e3 : Same H1 (upd H1 zl (.lst ((sortS p.zones).map V.str))) := Same.new hzl
      have hD3 := hD1.same e3
      exact ⟨dr, sa, zl, ns, c1, _, rfl, hD3, sqL upd_same, hzne, strs_ne, fun H4 c4 v o4 hD4 hv => ⟨sz3, fun dd hdd => beg _ H4 c4 v dd (o1.trans (Off.same e3)) o4 (by rw [hD3.at_]; intro z; cases z) hD4 hv hdd⟩⟩
    rw [decide_eq_false hk]
    obtain ⟨R, dn, r, v, hT, hne, full⟩ := hS1
    refine itF ⟨_, rfl, y.tw, _, y.dx, _, _, rfl, hT.at_, T.c_Town, T.a_Town_places, rfl, fun em hem => ?_⟩
    have e2 : Same H1 (upd H1 em (.dK [])) := Same.new hem
    refine ⟨y.pa, em, _, rfl, rfl, e2 _ _ hT.pa, upd_same, _, rfl, ?_⟩
    obtain ⟨H2, eH2⟩ : ∃ H2, H2 = upd H1 em (.dK []) := ⟨_, rfl⟩
    rw [← eH2] at e2
    rw [← eH2]
    have hD2 := hD1.same e2
    have hT2 := hT.same e2
    have o2 : Off (· = dr) H H2 := o1.trans (Off.same e2)
    rw [dV_len]
    by_cases hps : s.ps.length = 0
    · rw [decide_eq_true hps]
      obtain ⟨dxp, ca, ha, ra, β, ρ, h1, h2, h3, h4, h5, h6⟩ := hP1.same e2
      refine itT ⟨_, rfl, (t : Int), rfl, hlog, _, _, rfl, rfl, by rw [hs8, sizeLine_eq]; omega, _, rfl, _, rfl, pl, _, dxp, _, _, rfl, h1, T.c_Map, T.a_Map_heard, rfl, ha, p.zones, rfl, .inr (.inr ⟨_, .inl h3, heard_keys⟩), by omega, fun zl hzl => ?_⟩
      have e3 : Same H2 (upd H2 zl (.lst ((sortS p.zones).map V.str))) := Same.new hzl
      have hD3 := hD2.same e3
      exact ⟨dr, sa, zl, ns, c1, _, rfl, hD3, sqL upd_same, hzne, strs_ne, fun H4 c4 v o4 hD4 hv => ⟨sz3, fun dd hdd => beg _ H4 c4 v dd (o2.trans (Off.same e3)) o4 (by rw [hD3.at_]; intro z; cases z) hD4 hv hdd⟩⟩
    rw [decide_eq_false hps]
    refine itF ?_
    -- a call is drawn
    have hkl : (keysL s.ps).length = s.ps.length := List.length_map _
    refine ⟨_, rfl, _, rfl, y.tw, _, y.dx, _, _, rfl, hT2.at_, T.c_Town, T.a_Town_places, rfl, y.pa, keysL s.ps, rfl, .inr (.inr ⟨_, .inl hT2.pa, dV_keys.symm⟩), by omega, fun kl hkl0 => ?_⟩
    have e3 : Same H2 (upd H2 kl (.lst ((sortS (keysL s.ps)).map V.str))) := Same.new hkl0
    have hkne : (sortS (keysL s.ps)).map V.str ≠ [] := fun e => by
      have := congrArg List.length e
      rw [List.length_map, (sortS_perm _).length_eq, hkl] at this
      exact hps this
    refine ⟨dr, sa, kl, ns, c1, _, rfl, hD2.same e3, sqL upd_same, hkne, strs_ne, fun H5 c5 v5 o5 hD5 hv5 => ?_⟩
    obtain ⟨nm, hnm, rfl⟩ := List.mem_map.mp hv5
    have hnm' := (sortS_perm _).mem_iff.mp hnm
    obtain ⟨z, hz⟩ := mem_keysL.mp hnm'
    have hd3 := e3 _ _ hD2.at_
    have hS5 : TownS K H5 y p most s st := (TownS.same (⟨R, dn, r, v, hT2, hne, full⟩ : TownS K H2 y p most s st) e3).offD o5 hd3
    have hP5 : PlanAt K H5 pl p := ((hP1.same e2).same e3).offD o5 hd3
    have o05 : Off (· = dr) H H5 := (o2.trans (Off.same e3)).trans o5
    clear hT2 hT full hne hP1 o2 o1 e2 hD2 hD1 hkl0 e3 o5 hd3 beg
    obtain ⟨R, dn, r, v, hT, hne, full⟩ := hS5
    obtain ⟨dxp, ca, ha, ra, β, ρ, h1, h2, h3, h4, h5, h6⟩ := id hP5
    refine ⟨_, rfl, pl, _, dxp, _, _, rfl, h1, T.c_Map, T.a_Map_roads, rfl, ra, rfl, ⟨_, sqT h4⟩, fun D hDn => ?_⟩
    refine lc_list p.roads walk_tupM (fun r => decide (r.1 = z)) (fun r => .str r.2) hDn (Nat.le_trans ok.rsz (by decide)) (fun H' e => sqT (e _ _ h4)) ?_ ?_
    · intro i a x H' H2 ha' e yy
      obtain ⟨rfl, rfl⟩ := yat_map ha' yy
      have hr6 := e _ _ (h6 a (List.mem_of_getElem? ha'))
      refine ⟨Same.refl _, fun R' S' hR hS => ⟨rfl, _, rfl, ρ a, _, 0, .str a.1, rfl, rfl, sqT hr6, atI0 _ _, _, rfl, y.tw, _, y.dx, _, _, rfl, e _ _ hT.at_, T.c_Town, T.a_Town_places, rfl, _, rfl, y.pa, _, rfl, dgetS (.inl (e _ _ hT.pa)) hz, rfl, _, rfl, ?_⟩⟩
      rw [dec_str]
      exact itB (fun hc => ⟨_, rfl, ρ a, _, 1, .str a.2, rfl, rfl, sqT hr6, atI1 _ _ _, hR _ (Same.refl _) hc⟩) fun hc => hS _ (Same.refl _) hc
    intro H6 e6 hDl
    have eN : (p.roads.filter (fun r => decide (r.1 = z))).map (fun r => V.str r.2) = (p.next z).map V.str := by
      unfold Plan.next
      rw [List.map_map]
      rfl
    rw [eN] at hDl
    have hD6 := hD5.same e6
    have hT6 := hT.same e6
    have o06 := o05.trans (Off.same e6)
    -- go
    have end_ : ∀ (H8 : Hp) (c8 : Int) (dd : Addr), Off (· = dr) H H8 → DrawAt K H8 dr sa ns c8 → H8 dd = none → Q (.ref dd) (upd H8 dd (.tup [.str "end", .str nm])) := fun H8 c8 dd o8 hD8 hdd =>
      k _ c8 dd (.en nm) (o8.new hdd) (hD8.same (Same.new hdd)) (none_off o8 (fun b hb => some_at hb hD8.at_) hdd) upd_same hnm' fun n z' e => by cases e
    have nlen : (p.next z).length ≤ 60 := by
      unfold Plan.next
      rw [List.length_map]
      exact Nat.le_trans (List.length_filter_le _ _) ok.rsz
    refine ⟨_, rfl, rfl, _, rfl, ?_⟩
    have d3 : decide (V.int kd = V.int 3) = decide (kd = 3) := decide_eq_decide.mpr ⟨fun h => by injection h, fun h => by rw [h]⟩
    have d4 : decide (V.int kd = V.int 4) = decide (kd = 4) := decide_eq_decide.mpr ⟨fun h => by injection h, fun h => by rw [h]⟩
    rw [d3]
    rcases Classical.em (kd = 3) with hk3 | hk3
    case' inl =>
      rw [decide_eq_true hk3]
      refine itT ⟨_, rfl, sz0, fun em hem => ?_⟩
      have e7 : Same H6 (upd H6 em (.lst [])) := Same.new hem
      refine ⟨p.next z, [], hv_list (sqL (e7 _ _ hDl)) (ha_strs _), hv_list (sqL upd_same) ha_nil, _, rfl, ?_⟩
      obtain ⟨H7, eH7⟩ : ∃ H7, H7 = upd H6 em (.lst []) := ⟨_, rfl⟩
      rw [← eH7] at e7
      rw [← eH7]
      rcases Classical.em (p.next z = []) with hnx | hnx
      rotate_left
      · refine itTe (by simpa using hnx) ?_
        have hD7 := hD6.same e7
        refine ⟨_, rfl, _, rfl, _, rfl, dr, sa, D, ns, c5, _, rfl, hD7, sqL (e7 _ _ hDl), (fun e => hnx (List.map_eq_nil_iff.mp e)), strs_ne, fun H8 c8 v8 o8 hD8 hv8 => ⟨sz3, fun dd hdd => ?_⟩⟩
        obtain ⟨z', hz', rfl⟩ := List.mem_map.mp hv8
        have o08 := (o06.trans (Off.same e7)).trans o8
        exact k _ c8 dd (.go nm z') (o08.new hdd) (hD8.same (Same.new hdd)) (none_off o08 (fun b hb => some_at hb hD8.at_) hdd) upd_same ⟨z, hz, mem_next.mp hz'⟩ fun n z'' e => by cases e
      refine itFe (by rw [hnx]; simp) ?_
      refine ⟨_, rfl, rfl, _, rfl, ?_⟩
      rw [d4, decide_eq_false (by omega)]
      refine itF ?_
      clear hem eH7 em
    case' inr =>
      rw [decide_eq_false hk3]
      refine itFe rfl ?_
      refine ⟨_, rfl, rfl, _, rfl, ?_⟩
      rw [d4]
      rcases Classical.em (kd = 4) with hk4 | hk4
      · rw [decide_eq_true hk4]
        exact itT ⟨_, rfl, sz2, fun dd hdd => end_ _ c5 dd o06 hD6 hdd⟩
      rw [decide_eq_false hk4]
      refine itF ?_
      obtain ⟨H7, eH7⟩ : ∃ H7, H7 = H6 := ⟨_, rfl⟩
      have e7 : Same H6 H7 := by rw [eH7]; exact Same.refl _
      rw [← eH7]
      clear eH7
    all_goals
      have hD7 := hD6.same e7
      have hT7 := hT6.same e7
      have o07 := o06.trans (Off.same e7)
      have h17 := e7 _ _ (e6 _ _ h1)
      have h27 : H7 ca = some (.dK (dV V.int p.chan)) := e7 _ _ (e6 _ _ h2)
      refine ⟨ca, _, h27, trivial, fun od => ?_⟩
      obtain ⟨HB, eHB⟩ : ∃ HB, HB = upd H7 ca (.frz od (.dK (dV V.int p.chan))) := ⟨_, rfl⟩
      have hBc : HB ca = some (.frz od (.dK (dV V.int p.chan))) := by rw [eHB]; exact upd_same
      have hBpl : HB pl = some (.ins (He.ga K "Map") dxp [("channels", .ref ca), ("heard", .ref ha), ("roads", .ref ra)]) := by rw [eHB]; exact at_lock h27 h17 (by intro z; cases z)
      have hBtw := hT7.at_
      have hBdn : SqT K HB dn (s.down.map V.str) := by
        rcases hT7.dn with q | q
        · exact .inl (by rw [eHB]; exact rd_lock h27 trivial q)
        · exact .inr q
      have hBtw : HB y.tw = some (.ins (He.ga K "Town") y.dx [("plan", .ref y.pl), ("most", .int (most : Int)), ("down", .ref dn), ("places", .ref y.pa), ("seating", .ref st), ("refused", .int r), ("moved", .int v)]) := by rw [eHB]; exact at_lock h27 hT7.at_ (by intro z; cases z)
      rw [← eHB]
      refine ⟨_, rfl, pl, _, dxp, _, _, rfl, hBpl, T.c_Map, T.a_Map_channels, rfl, ca, od, rfl, .inl ⟨_, hBc, fun U hU => ?_⟩⟩
      refine lc_list p.chan (walk_keysL (l := p.chan) (f := V.int) (d := ca) (o := od)) (fun c => decide (c.1 ∉ s.down)) (fun c => .str c.1) hU (by have := ok.csz; omega) (fun H' e => e _ _ hBc) ?_ ?_
      · rintro i cc x H' H2 hc e ⟨rfl, c', hc', rfl⟩
        obtain rfl : c' = cc := by
          rw [hc] at hc'
          exact (Option.some.inj hc').symm
        refine ⟨Same.refl _, fun R' S' hR hS => ⟨rfl, _, rfl, _, rfl, y.tw, _, y.dx, _, _, rfl, e _ _ hBtw, T.c_Town, T.a_Town_down, rfl, dn, s.down.map V.str, rfl, .inr (e.seqT hBdn), rfl, flat_strs s.down, _, rfl, ?_⟩⟩
        have ev : (!inV (.str c'.1) (s.down.map V.str)) = decide (c'.1 ∉ s.down) := by rw [inV_strs, decide_not]
        show if (if true = true then !inV (.str c'.1) (s.down.map V.str) else inV (.str c'.1) (s.down.map V.str)) = true then _ else _
        rw [if_pos rfl, ev]
        exact itB (fun hc => ⟨_, rfl, hR _ (Same.refl _) hc⟩) fun hc => hS _ (Same.refl _) hc
      intro H8 e8 hUl
      refine ⟨e8 _ _ hBc, ?_⟩
      have e78 : Same H7 (upd H8 ca (.dK (dV V.int p.chan))) := same_lock h27 (by rw [← eHB]; exact e8)
      have nUc : U ≠ ca := fun e => by rw [e, hBc] at hU; cases hU
      obtain ⟨H9, eH9⟩ : ∃ H9, H9 = upd H8 ca (.dK (dV V.int p.chan)) := ⟨_, rfl⟩
      obtain ⟨up, eup⟩ : ∃ up, up = (p.chan.filter fun c => decide (c.1 ∉ s.down)).map (·.1) := ⟨_, rfl⟩
      have h9U : H9 U = some (.lst (up.map V.str)) := by
        rw [eH9, upd_ne nUc, hUl, eup, List.map_map]
        rfl
      rw [← eH9] at e78
      rw [← eH9]
      have hT9 := hT7.same e78
      have hD9 := hD7.same e78
      have o09 := o07.trans (Off.same e78)
      clear hUl hU eH9 e8 nUc hBc hBpl hBdn hBtw eHB h27 h17
      have hup : ∀ m ∈ up, m ∈ p.masts ∧ m ∉ s.down := fun m hm => by
        rw [eup] at hm
        obtain ⟨c, hc, rfl⟩ := List.mem_map.mp hm
        obtain ⟨a, b⟩ := List.mem_filter.mp hc
        exact ⟨List.mem_map_of_mem a, of_decide_eq_true b⟩
      have hdl := (SI.dsub PI).1
      refine ⟨_, rfl, y.tw, _, y.dx, _, _, rfl, hT9.at_, T.c_Town, T.a_Town_down, rfl, dn, _, rfl, .inr hT9.dn, _, rfl, y.tw, _, y.dx, _, _, rfl, hT9.at_, T.c_Town, T.a_Town_most, rfl, _, _, rfl, rfl, _, rfl, ?_⟩
      rw [List.length_map]
      rcases Classical.em ((s.down.length : Int) < (most : Int)) with hlt | hlt
      case' inl =>
        rw [decide_eq_true hlt]
        refine itT ⟨_, rfl, sz0, fun em hem => ?_⟩
        have eA : Same H9 (upd H9 em (.lst [])) := Same.new hem
        refine ⟨up, [], hv_list (sqL (eA _ _ h9U)) (ha_strs _), hv_list (sqL upd_same) ha_nil, _, rfl, ?_⟩
        obtain ⟨HA, eHA⟩ : ∃ HA, HA = upd H9 em (.lst []) := ⟨_, rfl⟩
        rw [← eHA] at eA
        rw [← eHA]
        rcases Classical.em (up = []) with hu0 | hu0
        rotate_left
        · refine itTe (by simpa using hu0) ?_
          refine ⟨_, rfl, _, rfl, dr, sa, U, ns, c5, _, rfl, hD9.same eA, sqL (eA _ _ h9U), (fun e => hu0 (List.map_eq_nil_iff.mp e)), strs_ne, fun HC cC vC oC hDC hvC => ⟨sz2, fun dd hdd => ?_⟩⟩
          obtain ⟨m, hm, rfl⟩ := List.mem_map.mp hvC
          have o0C := (o09.trans (Off.same eA)).trans oC
          exact k _ cC dd (.fal m) (o0C.new hdd) (hDC.same (Same.new hdd)) (none_off o0C (fun b hb => some_at hb hDC.at_) hdd) upd_same ⟨(hup m hm).1, (hup m hm).2, by omega⟩ fun n z'' e => by cases e
        refine itFe (by rw [hu0]; simp) ?_
        clear hem eHA em
      case' inr =>
        rw [decide_eq_false hlt]
        refine itFe rfl ?_
        obtain ⟨HA, eHA⟩ : ∃ HA, HA = H9 := ⟨_, rfl⟩
        have eA : Same H9 HA := by rw [eHA]; exact Same.refl _
        rw [← eHA]
        clear eHA
      all_goals
        have hTA := hT9.same eA
        have hDA := hD9.same eA
        have o0A := o09.trans (Off.same eA)
        refine ⟨_, rfl, y.tw, _, y.dx, _, _, rfl, hTA.at_, T.c_Town, T.a_Town_down, rfl, sz0, fun em hem => ?_⟩
        have eE : Same HA (upd HA em (.tup [])) := Same.new hem
        refine ⟨PySem.W.Tup.mk s.down, PySem.W.Tup.mk [], hv_tup (eE.seqT hTA.dn) (ha_strs _), hv_tup (sqT upd_same) ha_nil, _, rfl, ?_⟩
        cases hdn : s.down with
        | nil =>
          refine itFe (by simp) ⟨_, rfl, sz2, fun dd hdd => end_ _ c5 dd (o0A.trans (Off.same eE)) (hDA.same eE) hdd⟩
        | cons m rr =>
          have hdnA : SqT K (upd HA em (.tup [])) dn (V.str m :: rr.map V.str) := by
            have := eE.seqT hTA.dn
            rw [hdn] at this
            exact this
          refine itTe (by simp) ⟨_, rfl, y.tw, _, y.dx, _, _, rfl, (hTA.same eE).at_, T.c_Town, T.a_Town_down, rfl, dn, _, 0, .str m, rfl, rfl, hdnA, atI0 _ _, sz2, fun dd hdd => ?_⟩
          have oE := o0A.trans (Off.same eE)
          exact k _ c5 dd (.ris m) (oE.new hdd) ((hDA.same eE).same (Same.new hdd)) (none_off oE (fun b hb => some_at hb (hDA.same eE).at_) hdd) upd_same (by show m ∈ s.down; rw [hdn]; exact List.mem_cons_self) fun n z'' e => by cases e
end
end MC
end
section
set_option Elab.async false
set_option linter.all false
set_option maxRecDepth 100000
set_option maxHeartbeats 4000000
/-! The law, 1: small rules and lemmas. -/
namespace MC
open PySem PySem.Spec PyProof.Rows L2 TL
section
variable {X : Cx} {CX : CXT} {k : Nat} {f C : Addr} {fd : FuncData} {ps : List Str} {sp : Sp} {E : L2.St → XK} {m : Str} {pos apos : Pos} {e o : Expr} {es : List Expr} {ta : TE} {t : TA}
def tMtS (C : Addr) (m : Str) (sp : Sp) (E : L2.St → XK) (ta : TE) (t : TA) : TE := fun σ H Q => ta σ H fun x H1 => ∃ a dx fs, x = .ref a ∧ H1 a = some (.ins C dx fs) ∧ fs.lookup m = none ∧ t σ H1 fun vs H2 => sp (.ref a :: vs) H2 Q (E σ)
/-- o.m(e, ..), what it raises wished for at the caller's slots -/
theorem pe_mtS {pl : Sem Bool} (he : PE X o ta) (c : Cls X.K C) (hm : Meth X.K C m f) (F : FnOk X.prog X.w X.K X.mg X.base CX k f fd ps sp) (hr : Room k X.A) (hb : L2.Binds X.K fd ps []) (hx : ∀ σ, PassesAt CX X σ (E σ)) (ha : PA X (e :: es) t)
    (hst : starEach (e :: es) X.env = (false, eval e X.env) :: starEach es X.env := by rfl) (hpl : (backTo pos (starEach es X.env)).any (·.1) = false := by rfl)
    (ht : eval (.Call (.Attribute o m apos) (e :: es) [] pos) X.env = (do
      let ov ← eval o X.env
      standAt apos.atName
      let (f, first) ← holding [ov] (getMethod ov m pl)
      callWith pos f first (backTo pos (starEach (e :: es) X.env)) (backToKw pos (keywordEach [] X.env))) := by rfl) :
    PE X (.Call (.Attribute o m apos) (e :: es) [] pos) (tMtS C m sp E ta t) := by
  refine ⟨fun pins s σ H Q I h => ?_⟩
  refine PySem.W.methodCall_KW (pl := pl) (thn (he.run pins s σ H _ I h) fun u s1 ⟨x, H1, I1, rx, a, dx, fs, ex, ea, l, q⟩ => ?_) ht
  subst ex
  obtain rfl : u = Value.ref a := rx
  refine getmeth_ok I1 ea c hm l ?_
  refine PySem.W.callWith_K (first := [.ref a]) (h₀ := X.base) I.ok.mod.kin hm.kp (thn (ha.run pos pins s1 σ H1 _ I1 q) fun us s2 ⟨vs, H2, I2, r, q2⟩ => ⟨I2.kIn, ?_⟩) hst hpl
  exact run_fnS (us := .ref a :: us) (vs := .ref a :: vs) F hr hb (hx σ) I2 (.cons rfl r) q2
end
theorem exm_self {K : PySem.W.Frag} {S : Addr} (h1 : PySem.W.subIn K (.ref S) (.type "BaseException") = some true) (h2 : (PySem.W.clsIn K S).isSome = true) (h3 : PySem.W.typeIn K (.ref S) = some (.type "type")) (h4 : PySem.W.subIn K (.ref S) (.ref S) = some true) :
    PySem.W.exmOne K (.ref S) (.ref S) = some true := by
  have e1 : (PySem.W.subIn K (.ref S) (.type "BaseException") == some true) = true := by rw [h1] <;> rfl
  have e2 : ((PySem.W.clsIn K S).isSome && PySem.W.typeIn K (.ref S) == some (.type "type")) = true := by
    rw [h2, h3] <;> rfl
  show (if (PySem.W.subIn K (.ref S) (.type "BaseException") == some true) = true then (if ((PySem.W.clsIn K S).isSome && PySem.W.typeIn K (.ref S) == some (.type "type")) = true then PySem.W.subIn K (.ref S) (.ref S) else none) else none) = some true
  rw [if_pos e1, if_pos e2]
  exact h4
theorem exm_bad {P : Program} {K : PySem.W.Frag} {mg : Str → Option Value} {x f : Str} {C fI cc cda : Addr} (T : BadT P K mg x f C fI cc cda) : PySem.W.exmOne K (.ref C) (.ref C) = some true := by
  obtain ⟨cd, hcd⟩ := T.clsD
  exact exm_self T.exC (by rw [hcd]; rfl) T.tyC T.self
/-- != of a tuple of texts or of plain values -/
def rNeMix (K : PySem.W.Frag) : R2 := fun x y H Q => rNe x y H Q ∨ rNeT (PySem.W.Tup Str) K x y H Q
theorem op_neMix {X : Cx} (hu : Fit X (PySem.W.Tup Str)) : OpR X (compareOp .NotEq) (rNeMix X.K) := by
  intro pins s σ H x y v u Q I rx ry h
  rcases h with h | h
  · exact op_ne pins s σ H x y v u Q I rx ry h
  · exact op_neT (PySem.W.Tup Str) hu pins s σ H x y v u Q I rx ry h
theorem TupsAt.off {A : Addr → Prop} {H H' : Hp} {bs : List Addr} {ks : List (List Str)} (h : TupsAt H bs ks) (o : Off A H H') (ha : ∀ b, A b → ∀ xs, H b ≠ some (.tup xs)) : TupsAt H' bs ks := ⟨h.1, fun i b k h1 h2 => o _ _ (fun e => ha _ e _ (h.2 i b k h1 h2)) (h.2 i b k h1 h2)⟩
theorem ha_tupsM {K : PySem.W.Frag} {H : Hp} : ∀ {ks : List (List Str)} {bs : List Addr}, TupsAt H bs ks → Ha K H (bs.map V.ref) (ks.map PySem.W.Tup.mk)
  | [], bs, h => by
    have : bs = [] := List.length_eq_zero_iff.mp h.1
    subst this
    exact ha_nil
  | c :: A, [], h => by
    have := h.1
    cases this
  | c :: A, b :: bs, h => ha_cons (hv_tup (sqT (h.2 0 b c rfl rfl)) (ha_strs _)) (ha_tupsM ⟨by have := h.1; rw [List.length_cons, List.length_cons] at this; omega, fun i b' c' hb hc => h.2 (i + 1) b' c' hb hc⟩)
theorem JourS.offD {K : PySem.W.Frag} {H H' : Hp} {jo dx : Addr} {y : TAd} {p : Plan} {most : Nat} {s : TSt} {st dr : Addr} {text loose : Str} {many : Nat} {ys : List V} (h : JourS K H jo dx y p most s st text loose many) (o : Off (· = dr) H H') (hd : H dr = some (.lst ys)) : JourS K H' jo dx y p most s st text loose many :=
  ⟨o _ _ (fun e => by have := h.at_; rw [e, hd] at this; cases this) h.at_, h.tn.offD o hd⟩
theorem JourS.kind {K : PySem.W.Frag} {H : Hp} {jo dx : Addr} {y : TAd} {p : Plan} {most : Nat} {s : TSt} {st : Addr} {text loose : Str} {many : Nat} (h : JourS K H jo dx y p most s st text loose many) {b : Addr} (hb : mutJ jo y st b) : (∃ C dx fs, H b = some (.ins C dx fs)) ∨ ∃ kvs, H b = some (.dK kvs) := by
  rcases hb with rfl | hb
  · exact .inl ⟨_, _, _, h.at_⟩
  · rcases mutS_kind h.tn hb with ⟨dx, fs, e, _⟩ | e
    · exact .inl ⟨_, _, _, e⟩
    · exact .inr e
theorem JourS.lst {K : PySem.W.Frag} {H H' : Hp} {jo dx : Addr} {y : TAd} {p : Plan} {most : Nat} {s : TSt} {st : Addr} {text loose : Str} {many : Nat} (h : JourS K H jo dx y p most s st text loose many) (o : Off (mutJ jo y st) H H') {b : Addr} {xs : List V} (hb : H b = some (.lst xs)) : H' b = some (.lst xs) := o _ _ (fun e => by
  rcases h.kind e with ⟨_, _, _, z⟩ | ⟨_, z⟩ <;> (rw [hb] at z; cases z)) hb
theorem JourS.tup {K : PySem.W.Frag} {H H' : Hp} {jo dx : Addr} {y : TAd} {p : Plan} {most : Nat} {s : TSt} {st : Addr} {text loose : Str} {many : Nat} (h : JourS K H jo dx y p most s st text loose many) (o : Off (mutJ jo y st) H H') {b : Addr} {xs : List V} (hb : H b = some (.tup xs)) : H' b = some (.tup xs) := o _ _ (fun e => by
  rcases h.kind e with ⟨_, _, _, z⟩ | ⟨_, z⟩ <;> (rw [hb] at z; cases z)) hb
theorem JourS.sq {K : PySem.W.Frag} {H H' : Hp} {jo dx : Addr} {y : TAd} {p : Plan} {most : Nat} {s : TSt} {st : Addr} {text loose : Str} {many : Nat} (h : JourS K H jo dx y p most s st text loose many) (o : Off (mutJ jo y st) H H') {b : Addr} {xs : List V} (hb : SqL K H b xs) : SqL K H' b xs := by
  rcases hb with (q | ⟨ob, q⟩) | q
  · exact .inl (.inl (h.lst o q))
  · exact .inl (.inr ⟨ob, o _ _ (fun e => by
      rcases h.kind e with ⟨_, _, _, z⟩ | ⟨_, z⟩ <;> (rw [q] at z; cases z)) q⟩)
  · exact .inr q
theorem JourS.draw {K : PySem.W.Frag} {H H' : Hp} {jo dx : Addr} {y : TAd} {p : Plan} {most : Nat} {s : TSt} {st : Addr} {text loose : Str} {many : Nat} (h : JourS K H jo dx y p most s st text loose many) (o : Off (mutJ jo y st) H H') {dr sc : Addr} {ns : List Int} {c : Int} (hD : DrawAt K H dr sc ns c) : DrawAt K H' dr sc ns c := ⟨h.lst o hD.at_, h.sq o hD.sq, hD.nl⟩
theorem cnm_inj {a b : Nat} (h : cnm a = cnm b) : a = b := by
  have := congrArg tl h
  unfold cnm at this
  rw [tl_append, tl_append] at this
  have := List.append_cancel_left this
  rw [tl_num, tl_num] at this
  exact numL_inj this
theorem cnm_zz : ∀ t, t < 21 → cnm t ≠ "zz" ∧ cnm t ≠ "y9" := by decide +kernel
theorem nameY : isNameB ("y9" : Str) = true := by decide +kernel
/-- one more line -/
theorem lines_snoc {s0 : Nat} {ds : List Deed} {d : Deed} (h : s0 ≤ ds.length) : textOf (linesF s0 ((ds ++ [d]).drop s0)) = textOf (linesF s0 (ds.drop s0)) ++ lineOf ds.length d.row ++ "\n" := by
  rw [List.drop_append_of_le_length h, linesF_append, List.length_drop]
  have : s0 + (ds.length - s0) = ds.length := by omega
  rw [this]
  exact textOf_snoc _ _
theorem lines_take {s0 : Nat} {ds : List Deed} {d : Deed} (h : s0 ≤ ds.length) : (ds ++ [d]).take s0 = ds.take s0 := List.take_append_of_le_length h
theorem lines_split {s0 : Nat} {ds : List Deed} (h : s0 ≤ ds.length) : textOf (linesF 0 (ds.take s0)) ++ textOf (linesF s0 (ds.drop s0)) = textOf (linesF 0 ds) := by
  have e := linesF_append 0 (ds.take s0) (ds.drop s0)
  rw [List.take_append_drop, List.length_take, Nat.min_eq_left h, Nat.zero_add] at e
  rw [e, textOf_append]
theorem lines_cut {s0 j : Nat} {ds : List Deed} (h : s0 ≤ ds.length) : textOf (linesF 0 (ds.take s0)) ++ textOf ((linesF s0 (ds.drop s0)).take j) = textOf (linesF 0 (ds.take (s0 + j))) := by
  have e := linesF_append 0 (ds.take s0) ((ds.drop s0).take j)
  rw [List.length_take, Nat.min_eq_left h, Nat.zero_add] at e
  rw [linesF_take, ← textOf_append, ← e, List.take_add]
/-- the heap without one object -/
def hideH (H : Hp) (a : Addr) : Hp := fun b => if b = a then none else H b
theorem hide_off {H : Hp} {a : Addr} : Off (· = a) H (hideH H a) := fun b u nb q => by
  show (if b = a then none else H b) = some u
  rw [if_neg nb]
  exact q
theorem hide_same {H : Hp} {a : Addr} : Same (hideH H a) H := fun b u q => by
  by_cases e : b = a
  · have q' : (if b = a then none else H b) = some u := q
    rw [if_pos e] at q'
    cases q'
  · have q' : (if b = a then none else H b) = some u := q
    rw [if_neg e] at q'
    exact q'
theorem hide_at {H : Hp} {a : Addr} : hideH H a a = none := if_pos rfl
theorem hide_none {H : Hp} {a b : Addr} (h : H b = none) : hideH H a b = none := by
  show (if b = a then none else H b) = none
  split
  · rfl
  · exact h
theorem for_itR {J : It} {n : Nat} {G : Hp → Prop} {Y : Nat → Hp → V → Hp → Prop} (w : Walk J n G Y) {g : TG} {tb : TS} {D : Ends} {σ : L2.St} {H : Hp} (Pv : Nat → L2.St → Hp → Prop) (Rest : L2.St → Hp → Prop) (h0 : Pv 0 σ H) (hG : ∀ i σ H, i ≤ n → Pv i σ H → G H)
    (hd : ∀ σ H, Pv n σ H → Rest σ H) (hR : ∀ σ H, Rest σ H → D.nx σ H)
    (hs : (∀ σ H, Rest σ H → D.nx σ H) → ∀ i x σ H H', i < n → Pv i σ H → Y i H x H' → g x σ H' fun σ2 H2 => tb { D with nx := Pv (i + 1), ct := Pv (i + 1), bk := D.nx } σ2 H2) :
    ∃ W : Nat → Nat → L2.St → Hp → Prop, (∃ m, W 0 m σ H) ∧ ∀ i m σ H, W i m σ H →
      (J.stop i H ∧ D.nx σ H) ∨ (J.go i H ∧ ∃ Nx : L2.St → Hp → Prop, (∀ σ' H', Nx σ' H' → ∃ m', m' < m ∧ W (i + 1) m' σ' H') ∧ ∀ x H', J.yld i H x H' → g x σ H' fun σ2 H2 => tb { D with nx := Nx, ct := Nx, bk := D.nx } σ2 H2) :=
  for_it w Pv h0 hG (hs hR) fun σ H p => hR σ H (hd σ H p)
/-- who is in the town behind a deed -/
theorem app_keys {p : Plan} {most : Nat} {s : TSt} {d : Deed} (ok : d.ok p most s) {n : Str} (h : n ∈ keysL (d.app s).ps) : n ∈ keysL s.ps ∨ ∃ z, d = .beg n z := by
  cases d with
  | beg n' z =>
    rcases mem_keys_putL.mp h with e | h
    · exact .inr ⟨z, by rw [e]⟩
    · exact .inl h
  | go n' z =>
    rcases mem_keys_putL.mp h with e | h
    · obtain ⟨z0, h1, _⟩ := ok
      exact .inl (by rw [e]; exact mem_keysL.mpr ⟨_, h1⟩)
    · exact .inl h
  | en n' =>
    have h' : n ∈ keysL (delL s.ps n') := h
    rw [keysL_delL] at h'
    exact .inl (List.mem_filter.mp h').1
  | fal m => exact .inl h
  | ris m => exact .inl h
theorem run_names {p : Plan} {most : Nat} : ∀ {ds : List Deed} {s : TSt}, RunOk p most s ds → ∀ n ∈ keysL (runD s ds).ps, n ∈ keysL s.ps ∨ ∃ z, Deed.beg n z ∈ ds
  | [], _, _, n, hn => .inl hn
  | d :: ds, s, r, n, hn => by
    rcases run_names r.2.2 n hn with h | ⟨z, h⟩
    · rcases app_keys r.1 h with h | ⟨z, e⟩
      · exact .inl h
      · exact .inr ⟨z, by rw [e]; exact List.mem_cons_self⟩
    · exact .inr ⟨z, List.mem_cons_of_mem _ h⟩
theorem keys_cnm {p : Plan} {most i : Nat} {ds : List Deed} (r : RunOk p most TSt.zero ds) (h : ∀ n z, Deed.beg n z ∈ ds → ∃ t, t < i ∧ n = cnm t) : ∀ n ∈ keysL (runD TSt.zero ds).ps, ∃ t, t < i ∧ n = cnm t := fun n hn => by
  rcases run_names r n hn with h' | ⟨z, h'⟩
  · cases h'
  · exact h n z h'
theorem hide_base {HB H : Hp} {a : Addr} (e : Same HB H) (h : HB a = none) : Same HB (hideH H a) := fun b u q => hide_off b u (fun e' => by rw [e', h] at q; cases q) (e b u q)
theorem cut_pre {α : Type} (f : α → V) (l : List α) (k : Nat) (hk : k ≤ l.length) : cutV (l.map f) none (some (k : Int)) = (l.take k).map f := by
  unfold cutV
  rw [HT.sIx_none, HT.sIx_nat, List.length_map, Nat.min_eq_left hk, List.map_take]
  rfl
/-- what holds between two turns of the law's first loop -/
def LInv (K : PySem.W.Frag) (HB H : Hp) (dr a : Addr) (ns : List Int) (jo djo : Addr) (y : TAd) (p : Plan) (most : Nat) (dl : Addr) (i : Nat) : Prop := ∃ (c : Int) (ds : List Deed) (s0 : Nat) (st : Addr) (bs : List Addr),
  Same HB H ∧ DrawAt K H dr a ns c ∧ JourS K H jo djo y p most (runD TSt.zero ds) st (textOf (linesF 0 (ds.take s0))) (textOf (linesF s0 (ds.drop s0))) ds.length ∧ HB st = none ∧ H dl = some (.lst (bs.map V.ref)) ∧ TupsAt H bs (ds.map Deed.row) ∧
  RunOk p most TSt.zero ds ∧ s0 ≤ ds.length ∧ ds.length ≤ i ∧ ∀ n z, Deed.beg n z ∈ ds → ∃ t, t < i ∧ n = cnm t
theorem LInv.same {K : PySem.W.Frag} {HB H H' : Hp} {dr a : Addr} {ns : List Int} {jo djo : Addr} {y : TAd} {p : Plan} {most : Nat} {dl : Addr} {i : Nat} (h : LInv K HB H dr a ns jo djo y p most dl i) (e : Same H H') : LInv K HB H' dr a ns jo djo y p most dl i := by
  obtain ⟨c, ds, s0, st, bs, h1, h2, h3, h4, h5, h6, h7⟩ := h
  exact ⟨c, ds, s0, st, bs, h1.trans e, h2.same e, h3.same e, h4, e _ _ h5, h6.same e, h7⟩
theorem LInv.offD {K : PySem.W.Frag} {HB H H' : Hp} {dr a : Addr} {ns : List Int} {jo djo : Addr} {y : TAd} {p : Plan} {most : Nat} {dl : Addr} {i : Nat} {c' : Int} (h : LInv K HB H dr a ns jo djo y p most dl i) (o : Off (· = dr) H H') (hD : DrawAt K H' dr a ns c') (hB : HB dr = none) (hne : dl ≠ dr) : LInv K HB H' dr a ns jo djo y p most dl i := by
  obtain ⟨c, ds, s0, st, bs, h1, h2, h3, h4, h5, h6, h7⟩ := h
  exact ⟨c', ds, s0, st, bs, Off.over h1 (fun b hb => by rw [hb]; exact hB) o, hD, h3.offD o h2.at_, h4, o _ _ hne h5, h6.off o (fun b hb xs e => by rw [hb, h2.at_] at e; cases e), h7⟩
theorem LInv.sync {K : PySem.W.Frag} {HB H : Hp} {dr a : Addr} {ns : List Int} {jo djo : Addr} {y : TAd} {p : Plan} {most : Nat} {dl : Addr} {i : Nat} {c : Int} {ds : List Deed} {s0 : Nat} {st : Addr} {bs : List Addr} (hBj : HB jo = none)
    (h1 : Same HB H) (h2 : DrawAt K H dr a ns c) (h3 : JourS K H jo djo y p most (runD TSt.zero ds) st (textOf (linesF 0 (ds.take s0))) (textOf (linesF s0 (ds.drop s0))) ds.length) (h4 : HB st = none) (h5 : H dl = some (.lst (bs.map V.ref))) (h6 : TupsAt H bs (ds.map Deed.row))
    (h7 : RunOk p most TSt.zero ds) (h8 : s0 ≤ ds.length) (h9 : ds.length ≤ i) (h10 : ∀ n z, Deed.beg n z ∈ ds → ∃ t, t < i ∧ n = cnm t) :
    LInv K HB (L2.upd H jo (jourO K djo y.tw (textOf (linesF 0 (ds.take s0)) ++ textOf (linesF s0 (ds.drop s0))) "" ds.length)) dr a ns jo djo y p most dl i := by
  have o : ∀ {u : HO}, Off (· = jo) H (L2.upd H jo u) := fun {u} => Off.refl.upd rfl
  have e00 : ("" : Str) = Str.empty := by decide +kernel
  have hlst : ∀ {b : Addr} {xs : List V}, H b = some (.lst xs) → b ≠ jo := fun hb e => by rw [e, h3.at_] at hb; cases hb
  refine ⟨c, ds, ds.length, st, bs, h1.turn hBj, ⟨o _ _ (hlst h2.at_) h2.at_, ?_, h2.nl⟩, ⟨?_, h3.tn.offJ o h3.at_ (by show (4 : Nat) ≠ 3; decide) (by show (4 : Nat) ≠ 7; decide)⟩, h4, o _ _ (hlst h5) h5, h6.off o (fun b hb xs e => by rw [hb, h3.at_] at e; cases e), h7, Nat.le_refl _, h9, h10⟩
  · rcases h2.sq with (q | ⟨ob, q⟩) | q
    · exact .inl (.inl (o _ _ (hlst q) q))
    · exact .inl (.inr ⟨ob, o _ _ (fun e => by rw [e, h3.at_] at q; cases q) q⟩)
    · exact .inr q
  · rw [upd_same, lines_split h8, List.take_length, List.drop_length, e00]
    rfl
end MC
end
section
set_option Elab.async false
set_option linter.all false
set_option maxRecDepth 100000
set_option maxHeartbeats 8000000
/-! The law, 2: its walk. -/
namespace MC
open PySem PySem.Spec PyProof.Rows L2 TL
theorem sz5 : 5 ≤ PySem.sizeLine := by rw [sizeLine_eq]; decide
theorem rU_at {f : Int → V} {i : Int} {v : V} {H : Hp} {Q : VK} (e : f i = v) (h : Q v H) : rU f (.int i) H Q := ⟨i, rfl, e ▸ h⟩
theorem rI0_at {f : Int → Int → V} {i j : Int} {v : V} {H : Hp} {Q : VK} (e : f i j = v) (h : Q v H) : rI0 f (.int i) (.int j) H Q := ⟨i, j, rfl, rfl, e ▸ h⟩
section
variable {P : Program} {w : World} {K : PySem.W.Frag} {mg : Str → Option Value} {base : Heap}
def rLenS (K : PySem.W.Frag) : List V → Hp → VK → Prop := fun xs H Q => ∃ p ys, xs = [.ref p] ∧ (SqL K H p ys ∨ SqT K H p ys) ∧ Q (.int (ys.length : Nat)) H
def tS1 (K : PySem.W.Frag) : Addr → Value → Option Addr → TS := fun _ _ _ => tIfS (tTest (tOp rNe (tFld K (tVar 4) "many") (tCB (rLenS K) (tCons (tVar 5) tNil)))) (tRet (tC (.bl false))) tNext
def tB2 (K : PySem.W.Frag) : WX → TS := fun W => tSeq (tDrop (tMtS (He.ga K "TownJournal") "fallen" (spFallen K) (WE W) (tVar 4) (tCons (tVar 15) tNil))) (tRet (tC (.bl false)))
def tS2 (K : PySem.W.Frag) : Addr → Value → Option Addr → TS := fun a cls d => tIfS (tTest (tOp rNe (tXf a cls d (He.ga K "BadCut") "place" (tVar 16)) (tVar 15))) (tRet (tC (.bl false))) tNext
theorem for_itW {J : It} {n : Nat} {G : Hp → Prop} {Y : Nat → Hp → V → Hp → Prop} (w : Walk J n G Y) {g : TG} {tbW : WX → TS} {wf : Ends → WX} {D : Ends} {σ : L2.St} {H : Hp} (Pv : Nat → L2.St → Hp → Prop) (h0 : Pv 0 σ H) (hG : ∀ i σ H, i ≤ n → Pv i σ H → G H)
    (hs : ∀ i x σ H H', i < n → Pv i σ H → Y i H x H' → g x σ H' fun σ2 H2 => tbW (wf { D with nx := Pv (i + 1), ct := Pv (i + 1), bk := D.nx }) { D with nx := Pv (i + 1), ct := Pv (i + 1), bk := D.nx } σ2 H2) (hd : ∀ σ H, Pv n σ H → D.nx σ H) :
    ∃ W : Nat → Nat → L2.St → Hp → Prop, (∃ m, W 0 m σ H) ∧ ∀ i m σ H, W i m σ H →
      (J.stop i H ∧ D.nx σ H) ∨ (J.go i H ∧ ∃ Nx : L2.St → Hp → Prop, (∀ σ' H', Nx σ' H' → ∃ m', m' < m ∧ W (i + 1) m' σ' H') ∧ ∀ x H', J.yld i H x H' → g x σ H' fun σ2 H2 => tbW (wf { D with nx := Nx, ct := Nx, bk := D.nx }) { D with nx := Nx, ct := Nx, bk := D.nx } σ2 H2) :=
  for_it w (tb := fun D σ H => tbW (wf D) D σ H) Pv h0 hG hs hd
def tB3 (K : PySem.W.Frag) : WX → TS := fun W => tSeq (tDrop (tCallS (spDoIn K) (WE W) (tCons (tFld K (tVar 4) "town") (tCons (tVar 15) tNil)))) (tRet (tC (.bl false)))
def tS3 (K : PySem.W.Frag) : Addr → Value → Option Addr → TS := fun a cls d => tIfS (tTest (tOp (rNeMix K) (tXf a cls d (He.ga K "BadName") "name" (tVar 16)) (tVar 15))) (tRet (tC (.bl false))) tNext
def spLaw (K : PySem.W.Frag) : Sp := fun vs H Q _ => ∃ (a : Addr) (ns : List Int), vs = [.ref a] ∧ SqL K H a (ns.map V.int) ∧ ns.length ≤ 63 ∧ ∀ H', Q (.bl true) H'
theorem ok_law (T : Txt P w K mg) {fd : FuncData} (F : FnP K "law" "law" sLaw (He.fAd K ("law", none)) fd) : FnOk P w K mg base CX0 13 (He.fAd K ("law", none)) fd ["_law_script"] (spLaw K) := by
  obtain ⟨fdT, GT, bT, kT⟩ := ok_take (base := base) T
  obtain ⟨fdP, GP, bP, kP⟩ := ok_pick (base := base) T
  obtain ⟨fdL, GL, bL, kL⟩ := ok_lTown (base := base) T
  obtain ⟨fdW, GW, bW, kW⟩ := ok_wish (base := base) T
  obtain ⟨fdO, GO, bO, kO⟩ := ok_told (base := base) T
  obtain ⟨fdJ, GJ, bJ, kJ⟩ := ok_jInit (base := base) T
  obtain ⟨fdD, GD, bD, kD⟩ := ok_jDo (base := base) T
  obtain ⟨fdS, GS, bS, kS⟩ := ok_sync (base := base) T
  obtain ⟨fdF, GF, bF, kF⟩ := ok_fallen (base := base) T
  obtain ⟨fdN, GN, bN, kN⟩ := ok_townDeeds (base := base) T
  obtain ⟨fdI, GI, bI, kI⟩ := ok_townInit (base := base) T
  obtain ⟨fdA, GA, bA, kA⟩ := ok_doIn (base := base) T
  obtain ⟨fdU, GU, bU, kU⟩ := ok_isSafe (base := base) T
  obtain ⟨fdZ, GZ, bZ, kZ⟩ := ok_townLine (base := base) T
  obtain ⟨fIn, ccn, cdn, hbn⟩ := T.badName
  obtain ⟨fIc, ccc, cdc, hbc⟩ := T.badCut
  have sc : FnScope ["_law_script", "_law_draw", "_law_plan", "_law_most", "_law_journal", "_law_deeds", "_law_turn", "_law_deed", "_law_found", "_law_settled", "_law_last", "_law_cut", "_law_many", "_law_plain", "_law_late", "_law_wrong", "fault"] ["_law_script"] (defScope sLaw) := ⟨rfl, rfl, rfl, by decide +kernel, rfl, by decide +kernel, by decide +kernel⟩
  refine F.ok sc (fun vs H Q E h => ?_) (fun cdv A outer s H vs Q E hr h => ?_)
  · obtain ⟨a, ns, rfl, _⟩ := h
    rfl
  · obtain ⟨a, ns, rfl, hA, hl, k⟩ := h
    refine ⟨_, PSs.nox (pss_cons (ps_set (i := 1) sc.nd rfl (Or.inl rfl) (pe_lst (pa_cons (pv 0) (pa_cons pe_int pa_nil))))
      (pss_cons (ps_par (i := 2) (j := 3) (by rfl) sc.nd rfl rfl (by decide) rfl rfl (pa_cons (pe_call GL (hr.mono (by decide)) (by rfl) T.g__law_town kL bL .nil pass0 (pa_cons (pv 1) pa_nil)) (pa_cons (pe_call GT (hr.mono (by decide)) (by rfl) T.g__law_take kT bT .nil pass0 (pa_cons (pv 1) (pa_cons pe_int pa_nil))) pa_nil)) (by rfl))
      (pss_cons (ps_par (i := 4) (j := 5) (by rfl) sc.nd rfl rfl (by decide) rfl rfl (pa_cons (pe_make T.k_TownJournal GJ hr (by rfl) T.g_TownJournal bJ .nil pass0 (pa_cons (pv 2) (pa_cons (pv 3) (pa_cons pe_str pa_nil)))) (pa_cons (pe_lst pa_nil) pa_nil)) (by rfl))
      (pss_cons (ps_for PassesOwn.never rfl (pi_range1 (by rfl) T.z_range (pa_cons (pe_op op_add pe_int (pe_call GT (hr.mono (by decide)) (by rfl) T.g__law_take kT bT .nil pass0 (pa_cons (pv 1) (pa_cons pe_int pa_nil)))) pa_nil)) (pg_name (i := 6) sc.nd rfl (Or.inl rfl))
        (pss_cons (ps_if (pt_cmpR op_gt (pe_callB call_lenD (by rfl) T.z_len bt_len (pa_cons (pe_fld (pe_fld (pv 4) rfl) rfl) pa_nil)) pe_int (nomark _)) (pss_one ps_break) pss_nil)
        (pss_cons (ps_set (i := 7) sc.nd rfl (Or.inl rfl) (pe_call GW (hr.mono (by decide)) (by rfl) T.g__law_wish kW bW .nil pass0 (pa_cons (pv 1) (pa_cons (pv 2) (pa_cons (pe_fld (pv 4) rfl) (pa_cons (pv 6) pa_nil))))))
        (pss_cons (ps_set (i := 8) sc.nd rfl (Or.inl rfl) (pe_meth (pv 4) T.c_TownJournal T.m_TownJournal_do GD (hr.mono (by decide)) bD .nil (passes_call takes0 (fun _ _ _ _ h => h)) (pa_cons (pv 7) pa_nil)))
        (pss_cons (ps_if (PW.pt (pw_or (pt_cmpR op_ne (pe_ix ix_tup (pv 7) pe_int (fun _ _ => rfl)) pe_str (nomark _)) (pw_or1 (pt_cmp (pc_isN (pv 8))))))
          (pss_one (ps_expr (pe_bm PySem.F.plainAttrs_list PySem.F.slot_list_append PySem.F.type_list_append mt_append (pv 5) (pa_cons (pv 7) pa_nil)))) pss_nil)
        (pss_cons (ps_try_only (ts := tS1 K) rfl rfl ⟨rfl, by decide, .inl hbn.gC⟩ takes0
          (fun W pn xe tk _ => pss_cons (ps_expr (pe_mtS (pv 4) T.c_TownJournal T.m_TownJournal_do GD (hr.mono (by decide)) bD (fun σ => passAt tk σ)
              (pa_cons (pe_call GP (hr.mono (by decide)) (by rfl) T.g__law_pick kP bP .nil pass0 (pa_cons (pv 1) (pa_cons (pe_lst (pa_cons (pe_tup (pa_cons pe_str (pa_cons pe_str (pa_cons pe_str pa_nil)))) (pa_cons (pe_tup (pa_cons pe_str (pa_cons pe_str pa_nil))) (pa_cons (pe_tup (pa_cons pe_str (pa_cons pe_str pa_nil))) (pa_cons (pe_tup (pa_cons pe_str (pa_cons pe_str (pa_cons pe_str pa_nil)))) pa_nil))))) pa_nil))) pa_nil)))
            (pss_one (ps_ret pe_bl)))
          (fun _ _ _ _ _ _ _ => pss_one (ps_if (pt_cmpR op_ne (pe_fld (pv 4) rfl) (pe_callB call_len_seq (by rfl) T.z_len bt_len (pa_cons (pv 5) pa_nil)) (nomark _)) (pss_one (ps_ret pe_bl)) pss_nil)))
        (pss_one (ps_if (pt_cmpR op_eq (pe_call GT (hr.mono (by decide)) (by rfl) T.g__law_take kT bT .nil pass0 (pa_cons (pv 1) (pa_cons pe_int pa_nil))) pe_int (nomark _)) (pss_one (ps_expr (pe_meth0 (pv 4) T.c_TownJournal T.m_TownJournal_sync GS (hr.mono (by decide)) bS .nil pass0))) pss_nil))))))))
      (pss_cons (ps_set (i := 9) sc.nd rfl (Or.inl rfl) (pe_callB call_len_seq (by rfl) T.z_len bt_len (pa_cons (pe_ix ix_tup (pe_call GN (hr.mono (by decide)) (by rfl) T.g_town_deeds kN bN .nil pass0 (pa_cons (pe_fld (pv 4) rfl) pa_nil)) pe_int (fun _ _ => rfl)) pa_nil)))
      (pss_cons (ps_if (PW.pt (pw_or (pt_cmpR op_ne (pe_fld (pv 4) rfl) (pe_callB call_len_seq (by rfl) T.z_len bt_len (pa_cons (pv 5) pa_nil)) (nomark _))
          (pw_or1 (pt_cmpR (op_neT (PySem.W.Tup (PySem.W.Tup Str)) (by exact Fit.of hr (by decide))) (pe_ix ix_tup (pe_call GN (hr.mono (by decide)) (by rfl) T.g_town_deeds kN bN .nil pass0 (pa_cons (pe_op op_add_str (pe_fld (pv 4) rfl) (pe_fld (pv 4) rfl)) pa_nil)) pe_int (fun _ _ => rfl)) (pe_callTy call_tuple_of (by rfl) T.z_tuple bt_tuple (pa_cons (pv 5) pa_nil)) (nomark _)))))
        (pss_one (ps_ret pe_bl)) pss_nil)
      (pss_cons (ps_set (i := 10) sc.nd rfl (Or.inl rfl) pe_non)
      (pss_cons (ps_for PassesOwn.never rfl (pi_range1 (by rfl) T.z_range (pa_cons (pe_op op_add (pe_callB call_len (by rfl) T.z_len bt_len (pa_cons (pe_fld (pv 4) rfl) pa_nil)) pe_int) pa_nil)) (pg_name (i := 11) sc.nd rfl (Or.inl rfl))
        (pss_cons (ps_set (i := 12) sc.nd rfl (Or.inl rfl) (pe_op op_add (pv 9) (pe_bm PySem.F.plainAttrs_str PySem.F.slot_str_count PySem.F.type_str_count mt_count (pe_slice sl_str (pe_fld (pv 4) rfl) po_none (po_some (pv 11))) (pa_cons pe_str pa_nil))))
        (pss_cons (ps_if (PW.pt (pw_and (pt_cmpR op_eq (pv 12) (pv 10) (nomark _)) (pw_and1 (pt_cmpR op_gt (pe_call GT (hr.mono (by decide)) (by rfl) T.g__law_take kT bT .nil pass0 (pa_cons (pv 1) (pa_cons pe_int pa_nil))) pe_int (nomark _))))) (pss_one ps_continue) pss_nil)
        (pss_cons (ps_if (pt_cmpR op_ne (pv 12) (pv 10) (nomark _))
          (pss_cons (ps_set (i := 13) sc.nd rfl (Or.inl rfl) (pe_make T.k_Town GI (hr.mono (by decide)) (by rfl) T.g_Town bI .nil pass0 (pa_cons (pv 2) (pa_cons (pv 3) pa_nil))))
          (pss_cons (ps_for PassesOwn.never rfl (pi_list (pe_slice sl_list (pv 5) po_none (po_some (pv 12)))) (pg_name (i := 7) sc.nd rfl (Or.inl rfl))
            (pss_one (ps_expr (pe_call GA (hr.mono (by decide)) (by rfl) T.g_do_in kA bA .nil (passes_call takes0 (fun _ _ _ _ h => h)) (pa_cons (pv 13) (pa_cons (pv 7) pa_nil))))))
          (pss_one (ps_set (i := 10) sc.nd rfl (Or.inl rfl) (pv 12))))) pss_nil)
        (pss_cons (ps_set (i := 14) sc.nd rfl (Or.inl rfl) (pe_make T.k_TownJournal GJ hr (by rfl) T.g_TownJournal bJ .nil pass0 (pa_cons (pv 2) (pa_cons (pv 3) (pa_cons (pe_meth (pv 4) T.c_TownJournal T.m_TownJournal_fallen GF (hr.mono (by decide)) bF .nil (passes_call takes0 (fun _ _ _ _ h => h)) (pa_cons (pv 11) pa_nil)) pa_nil)))))
        (pss_cons (ps_if (PW.pt (pw_or (pt_cmpR op_ne (pe_fld (pv 14) rfl) (pv 12) (nomark _)) (pw_or (pt_cmpR op_ne (pe_fld (pv 14) rfl) pe_str (nomark _))
            (pw_or (pt_cmpR (op_neT (PySem.W.T3 (List (Str × Str)) (List Str) (PySem.W.Tup Str)) (by exact Fit.of hr (by decide))) (pe_call GO (hr.mono (by decide)) (by rfl) T.g__law_told kO bO .nil pass0 (pa_cons (pe_fld (pv 14) rfl) pa_nil)) (pe_call GO (hr.mono (by decide)) (by rfl) T.g__law_told kO bO .nil pass0 (pa_cons (pv 13) pa_nil)) (nomark _))
              (pw_or1 (pt_not (pt_val (pe_meth0 (pe_fld (pv 14) rfl) T.c_Town T.m_Town_is_safe GU (hr.mono (by decide)) bU .nil pass0))))))))
          (pss_one (ps_ret pe_bl)) pss_nil)
        (pss_cons (ps_set (i := 8) sc.nd rfl (Or.inl rfl) (pe_meth (pv 14) T.c_TownJournal T.m_TownJournal_do GD (hr.mono (by decide)) bD .nil (passes_call takes0 (fun _ _ _ _ h => h)) (pa_cons (pe_tup (pa_cons pe_str (pa_cons pe_str (pa_cons (pe_call GP (hr.mono (by decide)) (by rfl) T.g__law_pick kP bP .nil pass0 (pa_cons (pv 1) (pa_cons (pe_callB (cr_sortedStr (by rfl) (by exact hr.units)) (by rfl) T.z_sorted bt_sorted (pa_cons (pe_fld (pv 2) rfl) pa_nil)) pa_nil))) pa_nil)))) pa_nil)))
        (pss_cons (ps_expr (pe_meth0 (pv 14) T.c_TownJournal T.m_TownJournal_sync GS (hr.mono (by decide)) bS .nil pass0))
        (pss_one (ps_if (PW.pt (pw_or (pt_cmpR op_ne (pe_fld (pv 14) rfl) (pe_op op_add (pv 12) (pe_callTy call_int1 (by rfl) T.z_int bt_int (pa_cons (pe_cmp (pc_isN (pv 8))) pa_nil))) (nomark _))
            (pw_or1 (pt_cmpR op_ne (pe_fld (pe_make T.k_TownJournal GJ hr (by rfl) T.g_TownJournal bJ .nil pass0 (pa_cons (pv 2) (pa_cons (pv 3) (pa_cons (pe_fld (pv 14) rfl) pa_nil)))) rfl) (pe_fld (pv 14) rfl) (nomark _)))))
          (pss_one (ps_ret pe_bl)) pss_nil))))))))))
      (pss_cons (ps_for PassesOwn.never rfl (pi_tup (pe_tup (pa_cons (pe_un un_neg pe_int) (pa_cons (pe_op op_add (pe_callB call_len (by rfl) T.z_len bt_len (pa_cons (pe_fld (pv 4) rfl) pa_nil)) pe_int) (pa_cons pe_str pa_nil))))) (pg_name (i := 15) sc.nd rfl (Or.inl rfl))
        (pss_one (ps_try_as (i := 16) rfl rfl sc.nd rfl rfl ⟨rfl, by decide, .inl hbc.gC⟩ takes0
          (tb := tB2 K) (ts := tS2 K) (fun W pn xe tk _ => pss_cons (ps_expr (pe_mtS (pv 4) T.c_TownJournal T.m_TownJournal_fallen GF (hr.mono (by decide)) bF (fun σ => passAt tk σ) (pa_cons (pv 15) pa_nil))) (pss_one (ps_ret pe_bl)))
          (fun a oe cls d pn hz hf => pss_one (ps_if (pt_cmpR op_ne (pe_xf hbc.xf hbc.no hz hf (pv 16)) (pv 15) (nomark _)) (pss_one (ps_ret pe_bl)) pss_nil)))))
      (pss_cons (ps_for PassesOwn.never rfl (pi_tup (pe_tup (pa_cons (pe_tup (pa_cons pe_str (pa_cons pe_str (pa_cons pe_str pa_nil)))) (pa_cons (pe_tup (pa_cons pe_str (pa_cons pe_str pa_nil))) (pa_cons (pe_tup pa_nil) (pa_cons pe_str (pa_cons (pe_tup (pa_cons pe_str pa_nil)) pa_nil))))))) (pg_name (i := 15) sc.nd rfl (Or.inl rfl))
        (pss_one (ps_try_as (i := 16) (tb := tB3 K) (ts := tS3 K) rfl rfl sc.nd rfl rfl ⟨rfl, by decide, .inl hbn.gC⟩ takes0
          (fun W pn xe tk _ => pss_cons (ps_expr (pe_callS GA (hr.mono (by decide)) (by rfl) T.g_do_in kA bA (fun σ => passAt tk σ) (pa_cons (pe_fld (pv 4) rfl) (pa_cons (pv 15) pa_nil)))) (pss_one (ps_ret pe_bl)))
          (fun a oe cls d pn hz hf => pss_one (ps_if (pt_cmpR (op_neMix (by have f : Fit (cxOf CX0 P w K mg base [] "law" (defScope sLaw) (He.fAd K ("law", none)) cdv A outer s H E) (PySem.W.Tup Str) := Fit.of hr (by decide); exact f)) (pe_xf hbn.xf hbn.no hz hf (pv 16)) (pv 15) (nomark _)) (pss_one (ps_ret pe_bl)) pss_nil)))))
      (pss_one (ps_ret (pe_and (pe_cmpR op_eq (pe_call GZ (hr.mono (by decide)) (by rfl) T.g_town_line kZ bZ .nil pass0 (pa_cons pe_int (pa_cons (pe_tup (pa_cons pe_str (pa_cons pe_str (pa_cons pe_str pa_nil)))) pa_nil))) pe_str (nomark _))
        (pe_one (pe_cmpR (op_eqT (PySem.W.Tup (PySem.W.Tup Str) × Int) (by exact Fit.of hr (by decide))) (pe_call GN (hr.mono (by decide)) (by rfl) T.g_town_deeds kN bN .nil pass0 (pa_cons pe_str pa_nil)) (pe_tup (pa_cons (pe_tup (pa_cons (pe_tup (pa_cons pe_str (pa_cons pe_str pa_nil))) pa_nil)) (pa_cons pe_int pa_nil))) (nomark _)))))))))))))))), ?_⟩
    -- the drawn script
    refine ⟨_, rfl, sz2, fun dr hdr => ?_⟩
    have e1 : Same H (upd H dr (.lst [.ref a, .int 0])) := Same.new hdr
    have hD1 : DrawAt K (upd H dr (.lst [.ref a, .int 0])) dr a ns 0 := ⟨upd_same, e1.seq hA, hl⟩
    -- the map
    refine ⟨_, rfl, dr, a, ns, 0, rfl, hD1, fun H2 c2 pl p o2 hD2 hpl0 hP2 hPI hzz hmz => ?_⟩
    refine ⟨_, rfl, dr, a, ns, c2, 2, rfl, hD2, by decide, fun H3 c3 mo o3 hD3 hmo0 hmo1 => ⟨_, _, rfl, ?_⟩⟩
    obtain ⟨most, rfl⟩ : ∃ most : Nat, mo = (most : Int) := ⟨mo.toNat, (Int.toNat_of_nonneg hmo0).symm⟩
    have hmost : most ≤ 1 := by omega
    have PI := hPI most hmost
    have ok := PI.ok
    have hP3 := hP2.offD o3 hD2.at_
    clear hPI hP2 hD2 hpl0 o2 o3 hD1 e1 hdr hmo0 hmo1
    obtain ⟨HB, eHB⟩ : ∃ HB, HB = hideH H3 dr := ⟨_, rfl⟩
    have hBo : Off (· = dr) H3 HB := by rw [eHB]; exact hide_off
    have hBs : Same HB H3 := by rw [eHB]; exact hide_same
    have hBdr : HB dr = none := by rw [eHB]; exact hide_at
    have hBn : ∀ {b : Addr}, H3 b = none → HB b = none := fun h => by rw [eHB]; exact hide_none h
    have hPB : PlanAt K HB pl p := hP3.offD hBo hD3.at_
    clear eHB hBo
    -- the journal
    have e0 : (textOf (linesF 0 []) ++ Str.empty : Str) = "" := by decide +kernel
    have e00 : ("" : Str) = Str.empty := by decide +kernel
    refine ⟨_, rfl, _, rfl, fun jo djo hjo hdjo hne => ?_⟩
    have eM : Same H3 (upd (upd H3 djo (.own jo)) jo (.ins (He.ga K "TownJournal") djo [])) := (Same.new hdjo).upd (by rw [upd_ne hne.symm]; exact hjo)
    refine ⟨jo, djo, pl, p, most, [], Str.empty, by rw [e0]; rfl, upd_same, hP3.same eM, PI, trivial, by decide, List.not_mem_nil, by decide, fun H4 y st o4 htw hpa hst _ hjo4 hS4 => ⟨rfl, ?_⟩⟩
    have e34 : Same H3 H4 := Off.over eM (fun b hb => by rw [hb]; exact hjo) o4
    have hBjo := hBn hjo
    have hBtw := hBn (none_back eM htw)
    have hBpa := hBn (none_back eM hpa)
    have hBst := hBn (none_back eM hst)
    refine ⟨sz0, fun dl hdl => ⟨_, _, rfl, ?_⟩⟩
    have e45 : Same H4 (upd H4 dl (.lst [])) := Same.new hdl
    obtain ⟨H5, eH5⟩ : ∃ H5, H5 = upd H4 dl (.lst []) := ⟨_, rfl⟩
    have h5dl : H5 dl = some (.lst []) := by rw [eH5]; exact upd_same
    rw [← eH5] at e45
    rw [← eH5]
    have hBdl := hBn (none_back e34 hdl)
    have e35 := e34.trans e45
    have ndl : dl ≠ dr := fun e => by have := e34 _ _ hD3.at_; rw [← e, hdl] at this; cases this
    have hL5 : LInv K HB H5 dr a ns jo djo y p most dl 0 := ⟨c3, [], 0, st, [], hBs.trans e35, hD3.same e35, JourS.same (⟨by rw [e00] at hjo4; exact hjo4, hS4⟩ : JourS K H4 jo djo y p most (runD TSt.zero []) st (textOf (linesF 0 [])) (textOf (linesF 0 [])) 0) e45, hBst, h5dl, TupsAt.nil, trivial, Nat.le_refl _, Nat.le_refl _, fun n z hn => by cases hn⟩
    have hD5 := hD3.same e35
    have h3dl := none_back e34 hdl
    clear hjo4 hS4 hst hpa htw o4 eM hjo hdjo hne hP3 e34 e45 hBs eH5 h5dl hdl hBn hBst
    -- the first loop
    refine ⟨_, rfl, dr, a, ns, c3, 8, rfl, hD5, by decide, fun H6 c6 r o6 hD6 hr0 hr1 => ⟨_, _, rfl, rfl, _, rfl, by omega, by omega, ?_⟩⟩
    have hn : ((6 : Int) + r).toNat ≤ 13 := by omega
    obtain ⟨n, en⟩ : ∃ n, n = ((6 : Int) + r).toNat := ⟨_, rfl⟩
    rw [← en] at hn
    rw [← en]
    have hL6 := hL5.offD o6 hD6 hBdr ndl
    clear hL5 hD5 hD6 o6 en
    refine for_itR (walk_range (lo := 0) (n := n)) (fun i σ H' => ∃ v6 v7 v8, σ = [some (.ref a), some (.ref dr), some (.ref pl), some (.int (most : Int)), some (.ref jo), some (.ref dl), v6, v7, v8, none, none, none, none, none, none, none, none] ∧ LInv K HB H' dr a ns jo djo y p most dl i)
      (fun σ H' => ∃ i v6 v7 v8, i ≤ 13 ∧ σ = [some (.ref a), some (.ref dr), some (.ref pl), some (.int (most : Int)), some (.ref jo), some (.ref dl), v6, v7, v8, none, none, none, none, none, none, none, none] ∧ LInv K HB H' dr a ns jo djo y p most dl i)
      ⟨none, none, none, rfl, hL6⟩ (fun _ _ _ _ _ => trivial) (fun σ H' ⟨v6, v7, v8, e, h⟩ => ⟨n, v6, v7, v8, hn, e, h⟩) ?_ ?_
    · rintro σ H5 ⟨i, v6, v7, v8, hi13, rfl, hL⟩
      obtain ⟨c, ds, s0, st, bs, eB, hD, hJ, hst, hdl, hT, run, hs0, hdsi, hnm⟩ := hL
      have hpl0 : (TSt.zero).ps.length = 0 := rfl
      obtain ⟨SI, hplen⟩ := run_inv PI (inv_zero PI) run (by omega)
      have plain : ∀ d ∈ ds, d.plain := runOk_plain PI (inv_zero PI) run (by omega)
      have hblen : bs.length = ds.length := by rw [hT.1, List.length_map]
      obtain ⟨text, etext⟩ : ∃ text, text = textOf (linesF 0 (ds.take s0)) := ⟨_, rfl⟩
      obtain ⟨loose, eloose⟩ : ∃ loose, loose = textOf (linesF s0 (ds.drop s0)) := ⟨_, rfl⟩
      rw [← etext, ← eloose] at hJ
      have plt : ∀ d ∈ ds.take s0, d.plain := fun d hd => plain d (List.mem_of_mem_take hd)
      have pld : ∀ d ∈ ds.drop s0, d.plain := fun d hd => plain d (List.mem_of_mem_drop hd)
      have htl : text.length ≤ 2000 := by
        have := lines_len (n := 0) plt (by rw [List.length_take]; omega)
        rw [List.length_take] at this
        rw [etext]
        omega
      have hll : loose.length ≤ 2000 := by
        have := lines_len (n := s0) pld (by rw [List.length_drop]; omega)
        rw [List.length_drop] at this
        rw [eloose]
        omega
      have sp : ∀ ds' : List Deed, (∀ d ∈ ds', d.plain) → Txt.split (textOf (linesF 0 ds')) "\n" = linesF 0 ds' ++ ([] ++ [Str.empty]) := fun ds' h => by
        have := split_text (ls := linesF 0 ds') (t := Str.empty) (linesF_free h) List.not_mem_nil
        rw [append_empty] at this
        exact this
      -- how many are settled
      refine ⟨_, rfl, jo, _, djo, _, _, rfl, hJ.at_, T.c_TownJournal, T.a_TownJournal_text, rfl, text, ds.take s0, [], Str.empty, rfl, by omega, plt, by rw [List.length_take]; omega, by decide, by rw [etext]; exact sp _ plt, .inl rfl, fun H6 q fo bs6 e6 hq hfo hT6 => ?_⟩
      have hb6 : (bs6.map V.ref).length = s0 := by
        rw [List.length_map, hT6.1, List.length_map, List.length_take]
        omega
      refine ⟨q, _, 0, .ref fo, rfl, rfl, sqT hq, atI0 _ _, fo, _, rfl, .inr (sqT hfo), ?_⟩
      rw [hb6]
      -- all deeds are written
      have hJ6 := hJ.same e6
      have hdl6 := e6 _ _ hdl
      refine ⟨_, rfl, jo, _, djo, _, _, rfl, hJ6.at_, T.c_TownJournal, T.a_TownJournal_many, rfl, _, rfl, dl, _, rfl, .inl (sqL hdl6), rfl, _, rfl, itFe (by rw [List.length_map, hblen]; simp) ?_⟩
      have hall : text ++ loose = textOf (linesF 0 ds) := by rw [etext, eloose]; exact lines_split hs0
      refine ⟨_, rfl, jo, _, djo, _, _, rfl, hJ6.at_, T.c_TownJournal, T.a_TownJournal_text, rfl, _, rfl, jo, _, djo, _, _, rfl, hJ6.at_, T.c_TownJournal, T.a_TownJournal_loose, rfl, _, _, rfl, rfl, by rw [sizeLine_eq]; omega, text ++ loose, ds, [], Str.empty, rfl, by rw [lenAppend]; omega, plain, by omega, by decide, by rw [hall]; exact sp _ plain, .inl rfl, fun H7 q7 fo7 bs7 e7 hq7 hfo7 hT7 => ?_⟩
      refine ⟨q7, _, 0, .ref fo7, rfl, rfl, sqT hq7, atI0 _ _, _, rfl, dl, _, rfl, .inl ⟨sqL (e7 _ _ hdl6), fun tl htl0 => ?_⟩⟩
      have e8 : Same H7 (upd H7 tl (.tup (bs.map V.ref))) := Same.new htl0
      have hT8 : TupsAt (upd H7 tl (.tup (bs.map V.ref))) bs (ds.map Deed.row) := ((hT.same e6).same e7).same e8
      refine ⟨PySem.W.Tup.mk ((ds.map Deed.row).map PySem.W.Tup.mk), PySem.W.Tup.mk ((ds.map Deed.row).map PySem.W.Tup.mk), hv_tup (sqT (e8 _ _ hfo7)) (ha_tupsM (hT7.same e8)), hv_tup (sqT upd_same) (ha_tupsM hT8), _, rfl, itFe (by simp) ?_⟩
      obtain ⟨H8, eH8⟩ : ∃ H8, H8 = upd H7 tl (.tup (bs.map V.ref)) := ⟨_, rfl⟩
      rw [← eH8] at e8 hT8
      rw [← eH8]
      have e58 := (e6.trans e7).trans e8
      have hJ8 := hJ.same e58
      have hD8 := hD.same e58
      have hdl8 := e58 _ _ hdl
      have hP8 := (hPB.same eB).same e58
      clear hJ hD hdl hT eB hq7 hfo7 hT7 hq hfo hT6 hb6 e6 e7 e8 eH8 htl0 hJ6 hdl6 e58 hBdl hBjo hBtw hBpa hBdr hst hPB h3dl hD3 hL6 e35
      obtain ⟨HC, eHC⟩ : ∃ HC, HC = hideH H8 dr := ⟨_, rfl⟩
      have hCo : Off (· = dr) H8 HC := by rw [eHC]; exact hide_off
      have hCs : Same HC H8 := by rw [eHC]; exact hide_same
      have hCdr : HC dr = none := by rw [eHC]; exact hide_at
      have hJC := hJ8.offD hCo hD8.at_
      have hdlC := hCo _ _ ndl hdl8
      have hTC : TupsAt HC bs (ds.map Deed.row) := hT8.off hCo fun b hb xs e => by rw [hb, hD8.at_] at e; cases e
      have hPC := hP8.offD hCo hD8.at_
      clear eHC hCo hJ8 hdl8 hT8 hP8
      -- all cuts
      refine ⟨_, rfl, jo, _, djo, _, _, rfl, (hJC.same hCs).at_, T.c_TownJournal, T.a_TownJournal_loose, rfl, _, _, rfl, ⟨szN (by omega), rfl⟩, _, _, rfl, rfl, _, rfl, by omega, by omega, ?_⟩
      have hnL : ((loose.length : Int) + 1).toNat = loose.length + 1 := by omega
      rw [hnL]
      refine for_it (walk_range (lo := 0) (n := loose.length + 1)) (fun _ σ H' => ∃ (v7 v8 v11 v12 v13 v14 : Option V) (last : V), σ = [some (.ref a), some (.ref dr), some (.ref pl), some (.int (most : Int)), some (.ref jo), some (.ref dl), v6, v7, v8, some (.int (s0 : Int)), some last, v11, v12, v13, v14, none, none] ∧ Same HC H' ∧ (∃ c, DrawAt K H' dr a ns c) ∧ (last = .non ∨ ∃ (m : Nat) (yP : TAd) (stP : Addr), m ≤ ds.length ∧ last = .int (m : Int) ∧ v13 = some (.ref yP.tw) ∧ TownS K H' yP p most (runD TSt.zero (ds.take m)) stP))
        ⟨v7, v8, none, none, none, none, .non, rfl, hCs, ⟨c, hD8⟩, .inl rfl⟩ (fun _ _ _ _ _ => trivial) ?_ ?_
      · rintro j x σ H9 H9' hj ⟨v7, v8, v11, v12, v13, v14, last, rfl, eC, ⟨c9, hD9⟩, hlast⟩ ⟨rfl, hx⟩
        obtain rfl : x = .int (j : Int) := by
          rw [hx]
          show V.int (0 + (j : Int)) = _
          rw [Int.zero_add]
        obtain ⟨jj, t, hjj, ht10, hcut⟩ := cut_text (ls := linesF s0 (ds.drop s0)) (k := j) (linesF_free pld) (by rw [← eloose]; omega)
        rw [← eloose] at hcut
        rw [linesF_length, List.length_drop] at hjj
        have hcnt : Txt.count (cutS loose none (some (j : Int))) "\n" = (jj : Int) := by
          rw [hcut, count_text (fun l hl => linesF_free pld l (List.mem_of_mem_take hl)) ht10, List.length_take, linesF_length, List.length_drop]
          congr 1
          omega
        obtain ⟨m, hm⟩ : ∃ m, m = s0 + jj := ⟨_, rfl⟩
        have hmle : m ≤ ds.length := by omega
        have hfall : text ++ cutS loose none (some (j : Int)) = textOf (linesF 0 (ds.take m)) ++ t := by
          rw [hcut, ← append_assocS, etext, lines_cut hs0, hm]
        have htlen : t.length ≤ 2000 := by
          have h1 := cutS_length loose none (some (j : Int))
          rw [hcut, lenAppend] at h1
          omega
        have mlen : (ds.take m).length = m := by rw [List.length_take]; omega
        have runM : RunOk p most TSt.zero (ds.take m) := runOk_take run m
        have hJ9 := hJC.same eC
        have hP9 := hPC.same eC
        have eMV : ∀ x : Int, x = Txt.count (cutS loose none (some (j : Int))) "\n" → V.int ((s0 : Int) + x) = V.int (m : Int) := fun x e => by
          rw [e, hcnt, hm]
          push_cast
          rfl
        refine ⟨_, rfl, _, rfl, jo, _, djo, _, _, rfl, hJ9.at_, T.c_TownJournal, T.a_TownJournal_loose, rfl, _, rfl, _, rfl, loose, rfl, by rw [sizeLine_eq]; omega, rfl, _, _, rfl, rfl, rI0_at (v := .int (m : Int)) (eMV _ rfl) ?_⟩
        have hsc : scal (V.int (m : Int)) last = true := by
          rcases hlast with rfl | ⟨m', _, _, _, rfl, _⟩ <;> rfl
        refine ⟨_, rfl, _, rfl, hsc, _, rfl, ?_⟩
        rcases Classical.em (V.int (m : Int) = last) with hEq | hNe
        case' inl =>
          subst hEq
          obtain ⟨yP, stP, rfl, hSP⟩ : ∃ (yP : TAd) (stP : Addr), v13 = some (.ref yP.tw) ∧ TownS K H9' yP p most (runD TSt.zero (ds.take m)) stP := by
            rcases hlast with h | ⟨m', yP, stP, _, h, h2, h3⟩
            · cases h
            · have e : (m : Int) = (m' : Int) := by injection h
              have e' : m = m' := by omega
              subst e'
              exact ⟨yP, stP, h2, h3⟩
          rw [decide_eq_true rfl]
          refine itT ⟨_, rfl, dr, a, ns, c9, 12, rfl, hD9, by decide, fun HA cA rA oA hDA _ _ => ⟨_, _, rfl, rfl, _, rfl, ?_⟩⟩
          have eCA : Same HC HA := Off.over eC (fun b hb => by rw [hb]; exact hCdr) oA
          have hSA := hSP.offD oA hD9.at_
          refine itB (fun _ => ⟨_, _, _, _, _, _, _, rfl, eCA, ⟨cA, hDA⟩, .inr ⟨m, yP, stP, hmle, rfl, rfl, hSA⟩⟩) fun _ => ?_
          refine ⟨_, rfl, _, rfl, rfl, _, rfl, itFe (by simp) ?_⟩
          obtain ⟨HG, eHG⟩ : ∃ HG, HG = HA := ⟨_, rfl⟩
          rw [← eHG] at eCA hSA hDA
          rw [← eHG]
          clear eHG oA
        case' inr =>
          rw [decide_eq_false hNe]
          refine itF ⟨_, rfl, _, rfl, hsc, _, rfl, itTe (by rw [decide_eq_false hNe]; rfl) ?_⟩
          refine ⟨_, rfl, _, rfl, fun tx dtx htx hdtx hnet => ?_⟩
          have eT : Same H9' (upd (upd H9' dtx (.own tx)) tx (.ins (He.ga K "Town") dtx [])) := (Same.new hdtx).upd (by rw [upd_ne hnet.symm]; exact htx)
          refine ⟨tx, dtx, pl, p, most, rfl, upd_same, hP9.same eT, fun HA yP dnP stP ey1 ey2 hpaP hstP hneP oP hTP => ⟨rfl, ?_⟩⟩
          subst ey1
          have e9A : Same H9' HA := Off.over eT (fun b hb => by rw [hb]; exact htx) oP
          have hSP0 : TownS K HA yP p most TSt.zero stP := ⟨[], dnP, 0, 0, hTP, hneP, full_zero⟩
          refine ⟨_, rfl, _, rfl, _, rfl, dl, _, rfl, sqL (e9A _ _ (eC _ _ hdlC)), fun ql hql => ?_⟩
          rw [cut_pre V.ref bs m (by omega)]
          have eQ : Same HA (upd HA ql (.lst ((bs.take m).map V.ref))) := Same.new hql
          refine ⟨ql, rfl, ⟨_, sqL upd_same⟩, ?_⟩
          have btl : (bs.take m).length = m := by rw [List.length_take]; omega
          refine for_it (walk_listM (K := K) (xs := bs.take m) (f := V.ref)) (fun i' σ H' => ∃ (v7 : Option V) (st' : Addr), σ = [some (.ref a), some (.ref dr), some (.ref pl), some (.int (most : Int)), some (.ref jo), some (.ref dl), v6, v7, v8, some (.int (s0 : Int)), some last, some (.int (j : Int)), some (.int (m : Int)), some (.ref yP.tw), v14, none, none] ∧ Same H9' H' ∧ H9' st' = none ∧ H' ql = some (.lst ((bs.take m).map V.ref)) ∧ TownS K H' yP p most (runD TSt.zero (ds.take i')) st')
            ⟨v7, stP, rfl, e9A.trans eQ, none_back eT hstP, upd_same, hSP0.same eQ⟩ (fun i' σ H' _ ⟨_, _, _, _, _, h, _⟩ => sqL h) ?_ ?_
          · rintro i' x σ HB1 HB2 hi' ⟨v7', st', rfl, e9, hst9, hqB, hSB⟩ ⟨rfl, hx⟩
            have hi2 : i' < ds.length := by omega
            obtain ⟨d, hd⟩ : ∃ d, ds[i']? = some d := ⟨_, List.getElem?_eq_getElem hi2⟩
            obtain ⟨b, hb⟩ : ∃ b, bs[i']? = some b := ⟨_, List.getElem?_eq_getElem (by omega)⟩
            obtain rfl : x = .ref b := by
              rw [List.getElem?_map, List.getElem?_take_of_lt (by omega), hb] at hx
              exact (Option.some.inj hx).symm
            have htk : ds.take (i' + 1) = ds.take i' ++ [d] := by rw [List.take_add_one, hd] <;> rfl
            have hbt := e9 _ _ (eC _ _ (hTC.2 i' b _ hb (by rw [List.getElem?_map, hd]; rfl)))
            have hrun : RunOk p most TSt.zero (ds.take i' ++ [d]) := by rw [← htk]; exact runOk_take run (i' + 1)
            obtain ⟨r1, r2⟩ := runOk_append.mp hrun
            have tl' : (ds.take i').length ≤ 13 := by rw [List.length_take]; omega
            obtain ⟨inv, len⟩ := run_inv PI (inv_zero PI) r1 (by omega)
            refine ⟨_, rfl, _, rfl, yP, p, most, _, st', _, rfl, hSB, PI, inv, by omega, .inl ⟨b, d, rfl, hbt, r2.1, fun _ H4 st4 u o4 h4 hS4 _ => ?_, fun nt => absurd r2.2.1 nt⟩⟩
            have nm : ∀ b, mutS yP st' b → H9' b = none := fun b hb => by
              rcases hb with (rfl | rfl) | rfl
              · exact htx
              · exact none_back eT hpaP
              · exact hst9
            refine ⟨_, st4, rfl, Off.over e9 nm o4, none_back e9 h4, o4 _ _ (mutS_not hSB hqB (fun C dx fs e => by cases e) fun kvs e => by cases e) hqB, ?_⟩
            rw [htk, runD_append]
            exact hS4
          rintro σ HB1 ⟨v7', st', rfl, e9, hst9, hqB, hSB⟩
          rw [btl] at hSB
          refine ⟨_, rfl, ?_⟩
          have eCA := eC.trans e9
          have hDA := hD9.same e9
          have hSA := hSB
          obtain ⟨HG, eHG⟩ : ∃ HG, HG = HB1 := ⟨_, rfl⟩
          rw [← eHG] at eCA hSA hDA
          rw [← eHG]
          clear eHG hSB hqB e9 hst9 eQ hql hSP0 e9A hTP oP hstP hpaP eT hnet hdtx htx hNe
        all_goals
          obtain ⟨cG, hDG⟩ : ∃ c, DrawAt K HG dr a ns c := ⟨_, hDA⟩
          clear hDA
          obtain ⟨HT, eHT⟩ : ∃ HT, HT = hideH HG dr := ⟨_, rfl⟩
          have hTo : Off (· = dr) HG HT := by rw [eHT]; exact hide_off
          have hTs : Same HT HG := by rw [eHT]; exact hide_same
          have hTdr : HT dr = none := by rw [eHT]; exact hide_at
          have hCT : Same HC HT := by rw [eHT]; exact hide_base eCA hCdr
          have hST := hSA.offD hTo hDG.at_
          have hJT := hJC.same hCT
          have hPT := hPC.same hCT
          clear eHT hTo hSA eCA
          obtain ⟨SIm, hplm⟩ := run_inv PI (inv_zero PI) runM (by omega)
          have hTjo := (hJT.same hTs).at_
          -- the journal behind the cut
          refine ⟨_, rfl, _, rfl, _, rfl, jo, djo, _, rfl, hTjo, rfl, _, rfl, jo, djo, y.tw, text, loose, ds.length, .int (j : Int), rfl, hTjo, by omega, .inl ⟨j, rfl, by omega, fun HH eH => ?_⟩⟩
          refine fun jx djx hjx hdjx hnx => ?_
          have eM : Same HH (upd (upd HH djx (.own jx)) jx (.ins (He.ga K "TownJournal") djx [])) := (Same.new hdjx).upd (by rw [upd_ne hnx.symm]; exact hjx)
          have eTH : Same HT HH := hTs.trans eH
          refine ⟨jx, djx, pl, p, most, ds.take m, t, congrArg (fun s => [V.ref jx, V.ref pl, V.int (most : Int), V.str s]) hfall, upd_same, (hPT.same eTH).same eM, PI, runM, by omega, ht10, by omega, fun HI yL stL oI htw hpa hst _ hjL hSL => ⟨rfl, ?_⟩⟩
          have eHI : Same HH HI := Off.over eM (fun b hb => by rw [hb]; exact hjx) oI
          have eTI : Same HT HI := eTH.trans eHI
          have hTjx : HT jx = none := none_back eTH hjx
          have hGjx : HG jx = none := none_back eH hjx
          have hTtw : HT yL.tw = none := none_back eTH (none_back eM htw)
          have hTpa : HT yL.pa = none := none_back eTH (none_back eM hpa)
          have hTst : HT stL = none := none_back eTH (none_back eM hst)
          have hDI := (hDG.same eH).same eHI
          rw [mlen] at hjL
          have hJL : JourS K HI jx djx yL p most (runD TSt.zero (ds.take m)) stL (textOf (linesF 0 (ds.take m))) "" m := ⟨hjL, hSL⟩
          have hSPI := hST.same eTI
          clear eM oI htw hpa hst hjx hdjx hnx hjL hSL hTjo
          -- it is the town of the deeds that fell whole
          refine ⟨_, rfl, jx, _, djx, _, _, rfl, hJL.at_, T.c_TownJournal, T.a_TownJournal_many, rfl, _, rfl, rfl, _, rfl, itFe (by simp) ?_⟩
          refine ⟨_, rfl, jx, _, djx, _, _, rfl, hJL.at_, T.c_TownJournal, T.a_TownJournal_loose, rfl, rfl, _, rfl, itFe (by simp) ?_⟩
          refine ⟨_, rfl, jx, _, djx, _, _, rfl, hJL.at_, T.c_TownJournal, T.a_TownJournal_town, rfl, yL, p, most, _, stL, rfl, hJL.tn, SIm, fun HK q1 eK hq1 => ⟨_, rfl, yP, p, most, _, _, rfl, hSPI.same eK, SIm, fun HM q2 eM hq2 => ?_⟩⟩
          refine ⟨_, _, (hq1.same eM).hv, hq2.hv, _, rfl, itFe (by simp) ?_⟩
          have eIM := eK.trans eM
          have hJM := hJL.same eIM
          obtain ⟨RL, dnL, rL, vL, hTL, hneL, fullL⟩ := id hJM.tn
          refine ⟨_, rfl, jx, _, djx, _, _, rfl, hJM.at_, T.c_TownJournal, T.a_TownJournal_town, rfl, yL.tw, yL.dx, _, rfl, hTL.at_, rfl, yL, p, most, _, _, RL, dnL, stL, rL, vL, rfl, hTL, PI.ok, SIm.pok, PI.m1, SIm.safe, fun HN eN => ⟨true, rfl, itF ?_⟩⟩
          have eTN : Same HT HN := (eTI.trans eIM).trans eN
          have hJN := hJM.same eN
          have hDN := (hDI.same eIM).same eN
          have hPN := hPT.same eTN
          clear hTL fullL hneL eN eIM eM eK hq1 hq2 hJM hJL hDI hSPI eTI eHI eTH
          have hny : ("y9" : Str) ∉ keysL (runD TSt.zero (ds.take m)).ps := fun h => by
            obtain ⟨t', ht', e⟩ := keys_cnm runM (fun n z h => hnm n z (List.mem_of_mem_take h)) _ h
            exact (cnm_zz t' (by omega)).2 e.symm
          have hzne : (sortS p.zones).map V.str ≠ [] := fun e => by
            have := congrArg List.length e
            rw [List.length_map, (sortS_perm _).length_eq] at this
            have h2 : p.zones = [] := List.length_eq_zero_iff.mp this
            unfold Plan.zones at h2
            exact PI.zne (List.map_eq_nil_iff.mp h2)
          have hzlen : p.zones.length ≤ 8 := Plan.zlen ok
          obtain ⟨dxp, ca, ha, ra, β, ρ, h1, h2, h3, h4, h5, h6⟩ := id hPN
          refine ⟨_, rfl, jx, djx, _, rfl, hJN.at_, rfl, _, rfl, _, rfl, pl, _, dxp, _, _, rfl, h1, T.c_Map, T.a_Map_heard, rfl, ha, p.zones, rfl, .inr (.inr ⟨_, .inl h3, heard_keys⟩), by omega, fun zl hzl => ?_⟩
          have e3 : Same HN (upd HN zl (.lst ((sortS p.zones).map V.str))) := Same.new hzl
          have hD3 := hDN.same e3
          refine ⟨dr, a, zl, ns, cG, _, rfl, hD3, sqL upd_same, hzne, strs_ne, fun HY cY v oY hDY hv => ⟨sz3, fun dd hdd => ?_⟩⟩
          obtain ⟨z, hz, rfl⟩ := List.mem_map.mp hv
          have hz' := (sortS_perm _).mem_iff.mp hz
          have eTY : Same HT HY := Off.over (eTN.trans e3) (fun b hb => by rw [hb]; exact hTdr) oY
          have hJY := (hJN.same e3).offD oY hD3.at_
          have eV : Same HY (upd HY dd (.tup [.str "begin", .str "y9", .str z])) := Same.new hdd
          have hJV := hJY.same eV
          have hDV := hDY.same eV
          have eTV := eTY.trans eV
          clear h1 h2 h3 h4 h5 h6 hJY hDY eTY oY hD3 e3 hJN hDN hPN eTN hzne hzl hv
          have nmX : ∀ b, mutJ jx yL stL b → HT b = none := fun b hb => by
            rcases hb with rfl | ((rfl | rfl) | rfl)
            · exact hTjx
            · exact hTtw
            · exact hTpa
            · exact hTst
          have e00 : ("" : Str) = Str.empty := by decide +kernel
          have hok : (Deed.beg "y9" z).ok p most (runD TSt.zero (ds.take m)) := ⟨nameY, hny, hz'⟩
          have hl0 : ("" : Str).length = 0 := by decide +kernel
          refine ⟨jx, djx, yL, p, most, _, stL, _, _, m, dd, ["begin", "y9", z], rfl, hJV, PI, SIm, by omega, by omega, by omega, upd_same, .inl ⟨.beg "y9" z, rfl, hok, fun tk HA' st' u oA _ hJA hu => ?_, fun nt HA' q oA hJA => ?_⟩⟩
          obtain rfl : u = .non := hu
          obtain ⟨ds2, l2, st2, hds2, hl2, run2, hlen2, hJA2⟩ : ∃ (ds2 : List Deed) (l2 : Str) (st2 : Addr), ds2.length = m + 1 ∧ textOf (linesF 0 (ds.take m)) ++ l2 = textOf (linesF 0 ds2) ∧ RunOk p most TSt.zero ds2 ∧ l2.length ≤ 2000 ∧ JourS K HA' jx djx yL p most (runD TSt.zero ds2) st2 (textOf (linesF 0 (ds.take m))) l2 ds2.length := by
            have run2 : RunOk p most TSt.zero (ds.take m ++ [.beg "y9" z]) := runOk_append.mpr ⟨runM, hok, tk, trivial⟩
            have hls : textOf (linesF 0 (ds.take m)) ++ ("" ++ lineOf m ["begin", "y9", z] ++ "\n") = textOf (linesF 0 (ds.take m ++ [.beg "y9" z])) := by
              have h := lines_snoc (s0 := 0) (ds := ds.take m) (d := .beg "y9" z) (Nat.zero_le _)
              rw [mlen] at h
              rw [e00, empty_append, ← append_assocS]
              exact h.symm
            refine ⟨ds.take m ++ [.beg "y9" z], _, st', by rw [List.length_append, mlen]; rfl, hls, run2, ?_, by rw [runD_append, List.length_append, mlen]; exact hJA⟩
            have hp2 : ∀ d ∈ ds.take m ++ [.beg "y9" z], d.plain := runOk_plain PI (inv_zero PI) run2 (by rw [List.length_append, mlen]; show 0 + _ ≤ _; show 0 + (m + 1) ≤ _; omega)
            have hq := lines_len (n := 0) hp2 (by rw [List.length_append, mlen]; show 0 + (m + 1) ≤ _; omega)
            rw [← hls, lenAppend, List.length_append, mlen] at hq
            have : (m + [Deed.beg "y9" z].length) = m + 1 := rfl
            omega
          have hmI : decide ((V.int (ds2.length : Int)) = V.int ((m : Int) + (if decide (V.non = V.non) then 1 else 0))) = true := by rw [hds2]; simp
          clear hJA tk
          rotate_left
          obtain ⟨ds2, l2, st2, hds2, hl2, run2, hlen2, hJA2⟩ : ∃ (ds2 : List Deed) (l2 : Str) (st2 : Addr), ds2.length = m ∧ textOf (linesF 0 (ds.take m)) ++ l2 = textOf (linesF 0 ds2) ∧ RunOk p most TSt.zero ds2 ∧ l2.length ≤ 2000 ∧ JourS K HA' jx djx yL p most (runD TSt.zero ds2) st2 (textOf (linesF 0 (ds.take m))) l2 ds2.length :=
            ⟨ds.take m, "", stL, mlen, by rw [e00, append_empty], runM, by omega, by rw [mlen]; exact hJA⟩
          have hmI : decide ((V.int (ds2.length : Int)) = V.int ((m : Int) + (if decide (V.ref q = V.non) then 1 else 0))) = true := by rw [hds2]; simp
          clear hJA nt
          all_goals
            have hDA := hJV.draw oA hDV
            have eTA : Same HT HA' := Off.over eTV nmX oA
            have hplt := fun d (hd : d ∈ ds.take m) => plain d (List.mem_of_mem_take hd)
            have hlm := lines_len (n := 0) (ds := ds.take m) hplt (by rw [mlen]; omega)
            rw [mlen] at hlm
            refine ⟨_, rfl, jx, djx, _, rfl, hJA2.at_, rfl, jx, djx, yL.tw, _, _, _, rfl, hJA2.at_, by omega, ?_⟩
            rw [hl2]
            have hDB : DrawAt K (upd HA' jx (jourO K djx yL.tw (textOf (linesF 0 ds2)) "" ds2.length)) dr a ns cY := hDG.upd hGjx hDA
            have eTB : Same HT (upd HA' jx (jourO K djx yL.tw (textOf (linesF 0 ds2)) "" ds2.length)) := eTA.turn hTjx
            refine ⟨_, rfl, jx, _, djx, _, _, rfl, upd_same, T.c_TownJournal, T.a_TownJournal_many, rfl, _, rfl, _, rfl, .inr ⟨_, rfl, rI0_at rfl ⟨rfl, _, rfl, itFe (by rw [hmI]; rfl) ?_⟩⟩⟩
            obtain ⟨HB3, eHB3⟩ : ∃ HB3, HB3 = upd HA' jx (jourO K djx yL.tw (textOf (linesF 0 ds2)) "" ds2.length) := ⟨_, rfl⟩
            have hjB : HB3 jx = some (jourO K djx yL.tw (textOf (linesF 0 ds2)) "" ds2.length) := by rw [eHB3]; exact upd_same
            rw [← eHB3] at hDB eTB
            rw [← eHB3]
            clear eHB3 hDA eTA oA hJA2
            refine ⟨_, rfl, _, rfl, _, rfl, jx, _, djx, _, _, rfl, hjB, T.c_TownJournal, T.a_TownJournal_text, rfl, fun jz djz hjz hdjz hnz => ?_⟩
            have eM : Same HB3 (upd (upd HB3 djz (.own jz)) jz (.ins (He.ga K "TownJournal") djz [])) := (Same.new hdjz).upd (by rw [upd_ne hnz.symm]; exact hjz)
            refine ⟨jz, djz, pl, p, most, ds2, Str.empty, congrArg (fun s => [V.ref jz, V.ref pl, V.int (most : Int), V.str s]) (append_empty _).symm, upd_same, (hPT.same eTB).same eM, PI, run2, by omega, List.not_mem_nil, by decide, fun HZ yZ stZ oZ _ _ _ _ hjZ _ => ⟨rfl, ?_⟩⟩
            have eBZ : Same HB3 HZ := Off.over eM (fun b hb => by rw [hb]; exact hjz) oZ
            refine ⟨jz, _, djz, _, _, rfl, hjZ, T.c_TownJournal, T.a_TownJournal_many, rfl, _, rfl, jx, _, djx, _, _, rfl, eBZ _ _ hjB, T.c_TownJournal, T.a_TownJournal_many, rfl, rfl, _, rfl, itFe (by simp) ?_⟩
            exact ⟨_, _, _, _, _, _, _, rfl, hCT.trans (eTB.trans eBZ), ⟨cY, hDB.same eBZ⟩, .inr ⟨m, yP, _, hmle, rfl, rfl, hST.same (eTB.trans eBZ)⟩⟩
      · rintro σ H9 ⟨v7, v8, v11, v12, v13, v14, last, rfl, eC, _, _⟩
        have hJ9 := hJC.same eC
        obtain ⟨xs, exs⟩ : ∃ xs : List V, xs = [.int (-1), .int ((loose.length : Int) + 1), .str "0"] := ⟨_, rfl⟩
        have hbad : ∀ x ∈ xs, BadPlace loose.length x ∧ scal x x = true := by
          rw [exs]
          intro x hx
          simp only [List.mem_cons, List.not_mem_nil, or_false] at hx
          rcases hx with rfl | rfl | rfl
          · exact ⟨.inr ⟨_, rfl, by omega⟩, rfl⟩
          · exact ⟨.inr ⟨_, rfl, by omega⟩, rfl⟩
          · exact ⟨.inl ⟨_, rfl⟩, rfl⟩
        -- places that are no place of a cut
        refine ⟨_, rfl, _, rfl, jo, _, djo, _, _, rfl, hJ9.at_, T.c_TownJournal, T.a_TownJournal_loose, rfl, _, _, rfl, ⟨szN (by omega), rfl⟩, _, _, rfl, rfl, sz3, fun tq htq => ⟨tq, rfl, ⟨_, sqT upd_same⟩, ?_⟩⟩
        refine for_itW (tbW := tB2 K) (walk_tup (K := K) (a := tq) (xs := xs)) (fun _ σ H' => ∃ v15, σ = [some (.ref a), some (.ref dr), some (.ref pl), some (.int (most : Int)), some (.ref jo), some (.ref dl), v6, v7, v8, some (.int (s0 : Int)), some last, v11, v12, v13, v14, v15, none] ∧ Same HC H' ∧ H' tq = some (.tup xs))
          ⟨none, rfl, eC.trans (Same.new htq), by rw [exs]; exact upd_same⟩ (fun i σ H' _ ⟨_, _, _, h⟩ => sqT h) ?_ ?_
        · rintro i' x σ HA HA' hi' ⟨v15, rfl, eA, hqA⟩ ⟨rfl, hx⟩
          obtain ⟨hb, hsc⟩ := hbad x (List.mem_of_getElem? hx)
          have hJA := (hJC.same eA).at_
          refine ⟨_, rfl, jo, djo, _, rfl, hJA, rfl, _, rfl, jo, djo, y.tw, text, loose, ds.length, x, rfl, hJA, by omega, .inr ⟨hb, fun HX d' eX hd' => ⟨true, exm_bad hbc, fun _ aa haa => ?_, fun q => nomatch q⟩⟩⟩
          have eU := eX.upd (o := .xd [("place", x)]) hd'
          refine ⟨_, rfl, rfl, rfl, d', _, _, rfl, upd_same, rfl, _, rfl, hsc, _, rfl, itFe (by simp) ?_⟩
          exact ⟨_, rfl, eA.trans eU, eU _ _ hqA⟩
        rintro σ HA ⟨v15, rfl, eA, _⟩
        clear hbad exs eC hJ9
        -- deeds that are no deeds
        obtain ⟨xs5, exs5⟩ : ∃ xs5 : List V, True := ⟨[], trivial⟩
        refine ⟨sz3, fun t1 ht1 => ⟨sz2, fun t2 ht2 => ⟨sz0, fun t3 ht3 => ⟨sz1, fun t5 ht5 => ⟨sz5, fun tq2 htq2 => ⟨tq2, rfl, ⟨_, sqT upd_same⟩, ?_⟩⟩⟩⟩⟩⟩
        clear xs5 exs5
        have g1 : Same HA (upd HA t1 (.tup [.str "begn", .str "a", .str "b"])) := Same.new ht1
        have g2 := Same.new (o := .tup [.str "begin", .str "a"]) ht2
        have g3 := Same.new (o := .tup []) ht3
        have g5 := Same.new (o := .tup [.str "tick"]) ht5
        have g6 := Same.new (o := .tup [.ref t1, .ref t2, .ref t3, .str "end a", .ref t5]) htq2
        have f1 := g6 _ _ (g5 _ _ (g3 _ _ (g2 _ _ (upd_same (H := HA) (a := t1) (o := .tup [.str "begn", .str "a", .str "b"])))))
        have f2 := g6 _ _ (g5 _ _ (g3 _ _ (upd_same (a := t2) (o := .tup [.str "begin", .str "a"]))))
        have f3 := g6 _ _ (g5 _ _ (upd_same (a := t3) (o := .tup [])))
        have f5 := g6 _ _ (upd_same (a := t5) (o := .tup [.str "tick"]))
        have gL := (((g1.trans g2).trans g3).trans g5).trans g6
        obtain ⟨xs5, exs5⟩ : ∃ xs5 : List V, xs5 = [.ref t1, .ref t2, .ref t3, .str "end a", .ref t5] := ⟨_, rfl⟩
        rw [← exs5] at f1 f2 f3 f5 gL g6
        rw [← exs5]
        obtain ⟨HQ, eHQ⟩ : ∃ HQ, HQ = upd (upd (upd (upd (upd HA t1 (.tup [.str "begn", .str "a", .str "b"])) t2 (.tup [.str "begin", .str "a"])) t3 (.tup [])) t5 (.tup [.str "tick"])) tq2 (.tup xs5) := ⟨_, rfl⟩
        have hqq : HQ tq2 = some (.tup xs5) := by rw [eHQ]; exact upd_same
        rw [← eHQ] at f1 f2 f3 f5 gL
        rw [← eHQ]
        have hb5 : ∀ x ∈ xs5, BadDeed HQ x := by
          rw [exs5]
          intro x hx
          simp only [List.mem_cons, List.not_mem_nil, or_false] at hx
          rcases hx with rfl | rfl | rfl | rfl | rfl
          · exact .inr ⟨_, ["begn", "a", "b"], rfl, f1, .inr (.inl rfl)⟩
          · exact .inr ⟨_, ["begin", "a"], rfl, f2, .inr (.inr (.inl rfl))⟩
          · exact .inr ⟨_, [], rfl, f3, .inl rfl⟩
          · exact .inl ⟨_, rfl⟩
          · exact .inr ⟨_, ["tick"], rfl, f5, .inr (.inr (.inr rfl))⟩
        have hJQ := hJC.same (eA.trans gL)
        clear g1 g2 g3 g5 g6 f1 f2 f3 f5 gL eHQ exs5 ht1 ht2 ht3 ht5 htq2
        refine for_itW (tbW := tB3 K) (walk_tup (K := K) (a := tq2) (xs := xs5)) (fun _ σ H' => ∃ v15, σ = [some (.ref a), some (.ref dr), some (.ref pl), some (.int (most : Int)), some (.ref jo), some (.ref dl), v6, v7, v8, some (.int (s0 : Int)), some last, v11, v12, v13, v14, v15, none] ∧ Same HQ H')
          ⟨v15, rfl, Same.refl _⟩ (fun i σ H' _ ⟨_, _, h⟩ => sqT (h _ _ hqq)) ?_ ?_
        · rintro i' x σ HD HD' hi' ⟨v15, rfl, eD⟩ ⟨rfl, hx⟩
          have hJD := hJQ.same eD
          rcases hb5 x (List.mem_of_getElem? hx) with ⟨z, rfl⟩ | ⟨dd, row, rfl, hdd, hrow⟩
          · refine ⟨_, rfl, jo, _, djo, _, _, rfl, hJD.at_, T.c_TownJournal, T.a_TownJournal_town, rfl, _, rfl, y, p, most, _, st, _, rfl, hJD.tn, PI, SI, by omega, .inr (.inr ⟨.inl ⟨z, rfl⟩, fun HX d' eX hd' => ⟨true, exm_bad hbn, fun _ aa haa => ?_, fun q => nomatch q⟩⟩)⟩
            have eU := eX.upd (o := .xd [("name", V.str z)]) hd'
            refine ⟨_, rfl, rfl, rfl, d', _, _, rfl, upd_same, rfl, _, rfl, .inl ⟨rfl, _, rfl, itFe (by simp) ?_⟩⟩
            exact ⟨_, rfl, eD.trans eU⟩
          · have hdd' := eD _ _ hdd
            refine ⟨_, rfl, jo, _, djo, _, _, rfl, hJD.at_, T.c_TownJournal, T.a_TownJournal_town, rfl, _, rfl, y, p, most, _, st, _, rfl, hJD.tn, PI, SI, by omega, .inr (.inr ⟨.inr ⟨dd, row, rfl, hdd', hrow⟩, fun HX d' eX hd' => ⟨true, exm_bad hbn, fun _ aa haa => ?_, fun q => nomatch q⟩⟩)⟩
            have eU := eX.upd (o := .xd [("name", V.ref dd)]) hd'
            refine ⟨_, rfl, rfl, rfl, d', _, _, rfl, upd_same, rfl, _, rfl, .inr ⟨PySem.W.Tup.mk row, PySem.W.Tup.mk row, hv_tup (sqT (eU _ _ hdd')) (ha_strs _), hv_tup (sqT (eU _ _ hdd')) (ha_strs _), _, rfl, itFe (by simp) ?_⟩⟩
            exact ⟨_, rfl, eD.trans eU⟩
        rintro σ HD ⟨v15, rfl, _⟩
        have p2 : (Deed.en "a").plain := by
          intro w hw
          have hw' : w ∈ ([("end" : Str), "a"] : List Str) := hw
          simp only [List.mem_cons, List.not_mem_nil, or_false] at hw'
          rcases hw' with rfl | rfl <;> exact ⟨by decide +kernel, by decide +kernel⟩
        refine ⟨sz3, fun tg htg => ⟨tg, 3, ["go", "c1", "z2"], rfl, sqT upd_same, by decide, by decide, by decide +kernel, fun HE eE => ⟨rfl, _, rfl, itTe (by decide +kernel) ?_⟩⟩⟩
        refine ⟨"0 end a 0\n1 end b 2\n", [.en "a"], ["1 end b 2"], "", rfl, by decide +kernel, fun d hd => by rw [List.mem_singleton.mp hd]; exact p2, by decide, by decide, by decide +kernel, .inr ⟨_, _, rfl, ["end", "b"], "2", by decide +kernel, by decide, by decide +kernel⟩, fun HF q fo bs eF hq hfo hTF => ?_⟩
        refine ⟨sz2, fun w1 hw1 => ⟨sz1, fun w2 hw2 => ⟨sz2, fun w3 hw3 => ?_⟩⟩⟩
        have g1 : Same HF (upd HF w1 (.tup [.str "end", .str "a"])) := Same.new hw1
        have g2 := Same.new (o := .tup [.ref w1]) hw2
        have g3 := Same.new (o := .tup [.ref w2, .int 10]) hw3
        have f1 := g3 _ _ (g2 _ _ (upd_same (H := HF) (a := w1) (o := .tup [.str "end", .str "a"])))
        have f2 := g3 _ _ (upd_same (a := w2) (o := .tup [.ref w1]))
        have gL := (g1.trans g2).trans g3
        have e10 : (((textOf (linesF 0 [.en "a"])).length : Nat) : Int) = 10 := by decide +kernel
        rw [e10] at hq
        refine ⟨(PySem.W.Tup.mk [PySem.W.Tup.mk ["end", "a"]], 10), (PySem.W.Tup.mk [PySem.W.Tup.mk ["end", "a"]], 10), hv_pair (sqT (gL _ _ hq)) (hv_tup (sqT (gL _ _ hfo)) (ha_tupsM (hTF.same gL))) (hv_int _), hv_pair (sqT upd_same) (hv_tup (sqT f2) (ha_cons (hv_tup (sqT f1) (ha_strs ["end", "a"])) ha_nil)) (hv_int _), ?_⟩
        rw [decide_eq_true rfl]
        exact k _
    · rintro hR i x σ H7 H8 hi ⟨v6, v7, v8, rfl, hL⟩ ⟨rfl, hx⟩
      obtain rfl : x = .int (i : Int) := by
        rw [hx]
        show V.int (0 + (i : Int)) = _
        rw [Int.zero_add]
      obtain ⟨c, ds, s0, st, bs, eB, hD, hJ, hst, hdl, hT, run, hs0, hdsi, hnm⟩ := id hL
      obtain ⟨Rs, dn, rr, vv, hTF, hpne, full⟩ := id hJ.tn
      have plain : ∀ d ∈ ds, d.plain := runOk_plain PI (inv_zero PI) run (by show 0 + _ ≤ _; omega)
      obtain ⟨SI, hplen⟩ := run_inv PI (inv_zero PI) run (by show 0 + _ ≤ _; omega)
      have hpl0 : (TSt.zero).ps.length = 0 := rfl
      have hll : (textOf (linesF s0 (ds.drop s0))).length ≤ 2000 := by
        have := lines_len (n := s0) (ds := ds.drop s0) (fun d hd => plain d (List.mem_of_mem_drop hd)) (by rw [List.length_drop]; omega)
        rw [List.length_drop] at this
        omega
      refine ⟨_, rfl, jo, _, djo, _, _, rfl, hJ.at_, T.c_TownJournal, T.a_TownJournal_town, rfl, y.tw, _, y.dx, _, _, rfl, hTF.at_, T.c_Town, T.a_Town_places, rfl, y.pa, _, rfl, hTF.pa, _, _, rfl, rfl, _, rfl, itB (fun _ => ?_) fun _ => ?_⟩
      · exact hR _ _ ⟨i, _, v7, v8, by omega, rfl, hL⟩
      have hnew : cnm i ∉ keysL (runD TSt.zero ds).ps := fun h => by
        obtain ⟨t, ht, e⟩ := keys_cnm run hnm _ h
        have := cnm_inj e
        omega
      refine ⟨_, rfl, _, rfl, _, rfl, jo, _, djo, _, _, rfl, hJ.at_, T.c_TownJournal, T.a_TownJournal_town, rfl, _, rfl, dr, a, pl, ns, c, p, y, most, _, st, i, rfl, hD, hPB.same eB, hJ.tn, PI, SI, by omega, hnew, fun H9 c9 dd d o9 hD9 hdd0 hdd dok hbeg => ?_⟩
      have hJ9 := hJ.offD o9 hD.at_
      have hT9 := hT.off o9 (fun b hb xs e => by rw [hb, hD.at_] at e; cases e)
      have hdl9 := o9 _ _ ndl hdl
      have eB9 : Same HB H9 := Off.over eB (fun b hb => by rw [hb]; exact hBdr) o9
      have nmJ : ∀ b, mutJ jo y st b → HB b = none := fun b hb => by
        rcases hb with rfl | ((rfl | rfl) | rfl)
        · exact hBjo
        · exact hBtw
        · exact hBpa
        · exact hst
      have hblen : bs.length = ds.length := by rw [hT.1, List.length_map]
      refine ⟨_, rfl, jo, djo, _, rfl, hJ9.at_, rfl, _, rfl, jo, djo, y, p, most, _, st, _, _, _, dd, d.row, rfl, hJ9, PI, SI, by omega, by omega, by omega, hdd, .inl ⟨d, rfl, dok, fun tk HA st' u oA hst' hJA hu => ?tak, fun nt HA q oA hJA => ?ref⟩⟩
      case' tak =>
        have hddA := hJ9.tup oA hdd
        have hdlA := hJ9.lst oA hdl9
        have eBA : Same HB HA := Off.over eB9 nmJ oA
        have hTA := hT9.off oA (fun b hb xs e => by
          rcases hJ9.kind hb with ⟨_, _, _, z⟩ | ⟨_, z⟩ <;> (rw [e] at z; cases z))
        have hDA := hJ9.draw oA hD9
        obtain ⟨aw, rw', er⟩ : ∃ a r, d.row = a :: r := by cases d <;> exact ⟨_, _, rfl⟩
        have hddA' : HA dd = some (.tup (V.str aw :: rw'.map V.str)) := by rw [hddA, er]; rfl
        have hcase : (aw = "begin" ∧ u = .non) ∨ aw ≠ "begin" := by
          cases d with
          | beg n z => exact .inl ⟨by injection er with e _; exact e.symm, hu⟩
          | go n z => exact .inr (by injection er with e _; rw [← e]; decide +kernel)
          | en n => exact .inr (by injection er with e _; rw [← e]; decide +kernel)
          | fal m => exact .inr (by injection er with e _; rw [← e]; decide +kernel)
          | ris m => exact .inr (by injection er with e _; rw [← e]; decide +kernel)
        have hX : LInv K HB (upd HA dl (.lst (bs.map V.ref ++ [V.ref dd]))) dr a ns jo djo y p most dl (i + 1) := by
          have oX : ∀ {u : HO}, Off (· = dl) HA (upd HA dl u) := fun {u} => Off.refl.upd rfl
          have hJ' : JourS K HA jo djo y p most (runD TSt.zero (ds ++ [d])) st' (textOf (linesF 0 ((ds ++ [d]).take s0))) (textOf (linesF s0 ((ds ++ [d]).drop s0))) (ds ++ [d]).length := by
            rw [runD_append, lines_take hs0, lines_snoc hs0, List.length_append]
            exact hJA
          refine ⟨c9, ds ++ [d], s0, st', bs ++ [dd], eBA.turn hBdl, hD3.upd h3dl hDA, hJ'.offD oX hdlA, none_back eB9 hst', ?_, ?_, runOk_append.mpr ⟨run, dok, tk, trivial⟩, ?_, ?_, fun n z hn => ?_⟩
          · rw [upd_same, List.map_append]
            rfl
          · rw [List.map_append]
            refine TupsAt.snoc (hTA.off oX fun b hb xs e => by rw [hb, hdlA] at e; cases e) ?_
            rw [upd_ne (fun e => by rw [e, hdlA] at hddA; cases hddA)]
            exact hddA
          · rw [List.length_append]
            omega
          · rw [List.length_append]
            show ds.length + 1 ≤ _
            omega
          · rcases List.mem_append.mp hn with h | h
            · obtain ⟨t, ht, e⟩ := hnm n z h
              exact ⟨t, by omega, e⟩
            · exact ⟨i, by omega, hbeg _ _ (List.mem_singleton.mp h).symm⟩
        refine ⟨_, rfl, dd, _, 0, .str aw, rfl, rfl, sqT hddA', atI0 _ _, rfl, _, rfl, ?_⟩
        rw [dec_str]
        rcases hcase with ⟨haw, rfl⟩ | haw
        case' inl =>
          rw [decide_eq_true haw]
          refine itF ⟨_, rfl, _, rfl, itT ?_⟩
        case' inr =>
          rw [decide_eq_false haw]
          refine itT (itT ?_)
        all_goals
          refine ⟨_, rfl, .inl ⟨rfl, _, sqL hdlA⟩, _, rfl, dl, _, _, rfl, rfl, hdlA, szL (by rw [List.length_map]; omega), ?_⟩
          obtain ⟨HX, eHX⟩ : ∃ HX, HX = upd HA dl (.lst (bs.map V.ref ++ [V.ref dd])) := ⟨_, rfl⟩
          rw [← eHX] at hX
          rw [← eHX]
          clear eHX hu hJA
      case' ref =>
        have hddA := hJ9.tup oA hdd
        have hX : LInv K HB HA dr a ns jo djo y p most dl (i + 1) := ⟨c9, ds, s0, st, bs, Off.over eB9 nmJ oA, hJ9.draw oA hD9, hJA, hst, hJ9.lst oA hdl9, hT9.off oA (fun b hb xs e => by
          rcases hJ9.kind hb with ⟨_, _, _, z⟩ | ⟨_, z⟩ <;> (rw [e] at z; cases z)), run, hs0, by omega, fun n z hn => by
          obtain ⟨t, ht, e⟩ := hnm n z hn
          exact ⟨t, by omega, e⟩⟩
        obtain ⟨n', z', rfl⟩ : ∃ n z, d = .beg n z := by
          cases d with
          | beg n z => exact ⟨n, z, rfl⟩
          | go n z => exact absurd trivial nt
          | en n => exact absurd trivial nt
          | fal m => exact absurd trivial nt
          | ris m => exact absurd trivial nt
        refine ⟨_, rfl, dd, _, 0, .str "begin", rfl, rfl, sqT hddA, atI0 _ _, rfl, _, rfl, ?_⟩
        rw [dec_str, decide_eq_true rfl]
        refine itF ⟨_, rfl, _, rfl, itF ?_⟩
        obtain ⟨HX, eHX⟩ : ∃ HX, HX = HA := ⟨_, rfl⟩
        rw [← eHX] at hX
        rw [← eHX]
        clear eHX hJA
      all_goals
        clear hJ9 hT9 hdl9 eB9 nmJ hblen hdd0 hdd dok hbeg hD9 o9 hnew hTF full hD hJ hst hdl hT run hs0 hdsi hnm plain SI hplen hll hL eB oA
        obtain ⟨c, ds, s0, st, bs, eB, hD, hJ, hst, hdl, hT, run, hs0, hdsi, hnm⟩ := id hX
        obtain ⟨SI, hplen⟩ := run_inv PI (inv_zero PI) run (by show 0 + _ ≤ _; omega)
        have plain : ∀ d ∈ ds, d.plain := runOk_plain PI (inv_zero PI) run (by show 0 + _ ≤ _; omega)
        have hll : (textOf (linesF s0 (ds.drop s0))).length ≤ 2000 := by
          have := lines_len (n := s0) (ds := ds.drop s0) (fun d hd => plain d (List.mem_of_mem_drop hd)) (by rw [List.length_drop]; omega)
          rw [List.length_drop] at this
          omega
        have hzk : ("zz" : Str) ∉ keysL (runD TSt.zero ds).ps := fun h => by
          obtain ⟨t, ht, e⟩ := keys_cnm run hnm _ h
          exact (cnm_zz t (by omega)).1 e.symm
        have hzd : ("zz" : Str) ∉ (runD TSt.zero ds).down := fun h => hmz ((SI.dsub PI).2 _ h)
        refine ⟨_, rfl, jo, djo, _, rfl, hJ.at_, rfl, _, rfl, sz3, fun t1 ht1 => ⟨sz2, fun t2 ht2 => ⟨sz2, fun t3 ht3 => ⟨sz3, fun t4 ht4 => ⟨sz4, fun lq hlq => ?_⟩⟩⟩⟩⟩
        have g1 : Same HX _ := Same.new (o := .tup [.str "go", .str "zz", .str "z0"]) ht1
        have g2 := Same.new (o := .tup [.str "end", .str "zz"]) ht2
        have g3 := Same.new (o := .tup [.str "rise", .str "zz"]) ht3
        have g4 := Same.new (o := .tup [.str "begin", .str "c9", .str "zz"]) ht4
        have g5 := Same.new (o := .lst [.ref t1, .ref t2, .ref t3, .ref t4]) hlq
        have f1 := g5 _ _ (g4 _ _ (g3 _ _ (g2 _ _ (upd_same (H := HX) (a := t1) (o := .tup [.str "go", .str "zz", .str "z0"])))))
        have f2 := g5 _ _ (g4 _ _ (g3 _ _ (upd_same (a := t2) (o := .tup [.str "end", .str "zz"]))))
        have f3 := g5 _ _ (g4 _ _ (upd_same (a := t3) (o := .tup [.str "rise", .str "zz"])))
        have f4 := g5 _ _ (upd_same (a := t4) (o := .tup [.str "begin", .str "c9", .str "zz"]))
        have gL := (((g1.trans g2).trans g3).trans g4).trans g5
        refine ⟨dr, a, lq, ns, c, _, rfl, hD.same gL, sqL upd_same, (by intro e; cases e), (by intro e; cases e), fun HY cY v oY hDY hv => ?_⟩
        have hdrL := (hD.same gL).at_
        obtain ⟨tt, row, rfl, hrow, hbad⟩ : ∃ (tt : Addr) (row : List Str), v = .ref tt ∧ HY tt = some (.tup (row.map V.str)) ∧ RowBad p (runD TSt.zero ds) row := by
          simp only [List.mem_cons, List.not_mem_nil, or_false] at hv
          rcases hv with rfl | rfl | rfl | rfl
          · exact ⟨t1, ["go", "zz", "z0"], rfl, tup_off f1 oY hdrL, .inl ⟨_, _, rfl, hzk⟩⟩
          · exact ⟨t2, ["end", "zz"], rfl, tup_off f2 oY hdrL, .inr (.inl ⟨_, rfl, hzk⟩)⟩
          · exact ⟨t3, ["rise", "zz"], rfl, tup_off f3 oY hdrL, .inr (.inr (.inl ⟨_, rfl, hzd⟩))⟩
          · exact ⟨t4, ["begin", "c9", "zz"], rfl, tup_off f4 oY hdrL, .inr (.inr (.inr ⟨_, _, rfl, by decide +kernel, hzz⟩))⟩
        have hJY := (hJ.same gL).offD oY hdrL
        have hpl0 : (TSt.zero).ps.length = 0 := rfl
        refine ⟨jo, djo, y, p, most, _, st, _, _, _, tt, row, rfl, hJY, PI, SI, by omega, by omega, by omega, hrow, .inr ⟨hbad, fun HZ d' x' eZ hd' => ⟨true, exm_bad hbn, fun _ aa haa => ?_, fun q => nomatch q⟩⟩⟩
        have hS' := ((hX.same gL).offD oY hDY hBdr ndl).same (eZ.upd (o := .xd [("name", x')]) hd')
        clear hJY hbad hrow gL g1 g2 g3 g4 g5 f1 f2 f3 f4 hdrL hJ hD hdl hT hnm eB hst hzk hzd SI hplen hll plain run hs0 hdsi
        obtain ⟨c, ds, s0, st, bs, eB, hD, hJ, hst, hdl, hT, run, hs0, hdsi, hnm⟩ := id hS'
        have hblen : bs.length = ds.length := by rw [hT.1, List.length_map]
        refine ⟨_, rfl, jo, _, djo, _, _, rfl, hJ.at_, T.c_TownJournal, T.a_TownJournal_many, rfl, _, rfl, dl, _, rfl, .inl (sqL hdl), rfl, _, rfl, itFe (by rw [List.length_map, hblen]; simp) ?_⟩
        refine ⟨_, rfl, dr, a, ns, c, 3, rfl, hD, by decide, fun HW cW rW oW hDW _ _ => ⟨rfl, _, rfl, ?_⟩⟩
        have hW := hS'.offD oW hDW hBdr ndl
        refine itB (fun _ => ?_) fun _ => ⟨_, _, _, rfl, hW⟩
        clear hJ hD hdl hT hnm eB hst run hs0 hdsi hblen
        obtain ⟨c, ds, s0, st, bs, eB, hD, hJ, hst, hdl, hT, run, hs0, hdsi, hnm⟩ := id hW
        have plain : ∀ d ∈ ds, d.plain := runOk_plain PI (inv_zero PI) run (by show 0 + _ ≤ _; omega)
        have hlen1 := lines_len (n := s0) (ds := ds.drop s0) (fun d hd => plain d (List.mem_of_mem_drop hd)) (by rw [List.length_drop]; omega)
        have hlen2 := lines_len (n := 0) (ds := ds.take s0) (fun d hd => plain d (List.mem_of_mem_take hd)) (by rw [List.length_take]; omega)
        rw [List.length_drop] at hlen1
        rw [List.length_take] at hlen2
        refine ⟨_, rfl, jo, djo, _, rfl, hJ.at_, rfl, jo, djo, y.tw, _, _, _, rfl, hJ.at_, by omega, ?_⟩
        exact ⟨_, _, _, rfl, LInv.sync hBjo eB hD hJ hst hdl hT run hs0 hdsi hnm⟩
end
end MC
end
section
set_option Elab.async false
set_option linter.all false
set_option maxRecDepth 100000
set_option maxHeartbeats 0
/-! The head, 3: the facts; the theorem. Printed by gen_fin.py. -/
namespace MC
open PySem PySem.Spec PyProof.Rows L2
theorem txt {w : World} {K : PySem.W.Frag} {h : Heap} {mg : Str → Option Value} (X : K.In h) (G : h.Ns mainGlobals mg) (c : He.SaysT fa fn ts w K) (ex : exB K = true) (eb : xsB.map (badW K) = stB.map badV) : Txt prg w K mg := by
  obtain ⟨e1, e⟩ := He.ba ex
  obtain ⟨e2, e⟩ := He.ba e
  obtain ⟨e3, e⟩ := He.ba e
  obtain ⟨e4, e⟩ := He.ba e
  obtain ⟨e5, e6⟩ := He.ba e
  obtain ⟨s0, e4⟩ := He.ba e4
  obtain ⟨s1, e4⟩ := He.ba e4
  obtain ⟨s2, e4⟩ := He.ba e4
  obtain ⟨s3, e4⟩ := He.ba e4
  have eb2 : ([badW K "BadName", badW K "BadCut"] : List BadW) = [badV sBadNameInit, badV sBadCutInit] := eb
  have b1 : badW K "BadName" = badV sBadNameInit := (List.cons.inj eb2).1
  have b2 : badW K "BadCut" = badV sBadCutInit := (List.cons.inj (List.cons.inj eb2).2).1
  have zs : mg "super" = none := He.free_ok X G (c.d.fact 123 (f := .free "super") rfl)
  exact {
    g_Call := He.glo_ok X G (c.d.fact 0 (f := .glo "Call") rfl)
    c_Call := He.cls_ok (c.d.fact 1 (f := .cls "Call") rfl)
    k_Call := He.mkr_ok (c.d.fact 2 (f := .mkr "Call") rfl)
    a_Call_worth := He.noat_ok (c.d.fact 3 (f := .noat "Call" "worth") rfl)
    a_Call_heard := He.noat_ok (c.d.fact 4 (f := .noat "Call" "heard") rfl)
    g_Scene := He.glo_ok X G (c.d.fact 5 (f := .glo "Scene") rfl)
    c_Scene := He.cls_ok (c.d.fact 6 (f := .cls "Scene") rfl)
    k_Scene := He.mkr_ok (c.d.fact 7 (f := .mkr "Scene") rfl)
    a_Scene_channels := He.noat_ok (c.d.fact 8 (f := .noat "Scene" "channels") rfl)
    a_Scene_calls := He.noat_ok (c.d.fact 9 (f := .noat "Scene" "calls") rfl)
    m_Scene_order := He.meth_ok (c.d.fact 10 (f := .meth "Scene" "order") rfl)
    m_Scene_rank := He.meth_ok (c.d.fact 11 (f := .meth "Scene" "rank") rfl)
    g_Seats := He.glo_ok X G (c.d.fact 12 (f := .glo "Seats") rfl)
    c_Seats := He.cls_ok (c.d.fact 13 (f := .cls "Seats") rfl)
    k_Seats := He.mkr_ok (c.d.fact 14 (f := .mkr "Seats") rfl)
    a_Seats_scene := He.noat_ok (c.d.fact 15 (f := .noat "Seats" "scene") rfl)
    a_Seats_seating := He.noat_ok (c.d.fact 16 (f := .noat "Seats" "seating") rfl)
    a_Seats_seated := He.noat_ok (c.d.fact 17 (f := .noat "Seats" "seated") rfl)
    m_Seats_sit := He.meth_ok (c.d.fact 18 (f := .meth "Seats" "sit") rfl)
    m_Seats_has_room := He.meth_ok (c.d.fact 19 (f := .meth "Seats" "has_room") rfl)
    m_Seats_ways_from := He.meth_ok (c.d.fact 20 (f := .meth "Seats" "ways_from") rfl)
    m_Seats_add := He.meth_ok (c.d.fact 21 (f := .meth "Seats" "add") rfl)
    g_Kept := He.glo_ok X G (c.d.fact 22 (f := .glo "Kept") rfl)
    c_Kept := He.cls_ok (c.d.fact 23 (f := .cls "Kept") rfl)
    k_Kept := He.mkr_ok (c.d.fact 24 (f := .mkr "Kept") rfl)
    a_Kept_lot := He.noat_ok (c.d.fact 25 (f := .noat "Kept" "lot") rfl)
    a_Kept_seating := He.noat_ok (c.d.fact 26 (f := .noat "Kept" "seating") rfl)
    a_Kept_papers := He.noat_ok (c.d.fact 27 (f := .noat "Kept" "papers") rfl)
    g_Moves := He.glo_ok X G (c.d.fact 28 (f := .glo "Moves") rfl)
    c_Moves := He.cls_ok (c.d.fact 29 (f := .cls "Moves") rfl)
    k_Moves := He.mkr_ok (c.d.fact 30 (f := .mkr "Moves") rfl)
    a_Moves_scene := He.noat_ok (c.d.fact 31 (f := .noat "Moves" "scene") rfl)
    a_Moves_before := He.noat_ok (c.d.fact 32 (f := .noat "Moves" "before") rfl)
    a_Moves_seats := He.noat_ok (c.d.fact 33 (f := .noat "Moves" "seats") rfl)
    m_Moves_cost := He.meth_ok (c.d.fact 34 (f := .meth "Moves" "cost") rfl)
    m_Moves_arcs := He.meth_ok (c.d.fact 35 (f := .meth "Moves" "arcs") rfl)
    m_Moves_prices := He.meth_ok (c.d.fact 36 (f := .meth "Moves" "prices") rfl)
    m_Moves_ring := He.meth_ok (c.d.fact 37 (f := .meth "Moves" "ring") rfl)
    m_Moves_better := He.meth_ok (c.d.fact 38 (f := .meth "Moves" "better") rfl)
    g_Danger := He.glo_ok X G (c.d.fact 39 (f := .glo "Danger") rfl)
    c_Danger := He.cls_ok (c.d.fact 40 (f := .cls "Danger") rfl)
    k_Danger := He.mkr_ok (c.d.fact 41 (f := .mkr "Danger") rfl)
    a_Danger_falls := He.noat_ok (c.d.fact 42 (f := .noat "Danger" "falls") rfl)
    a_Danger_masts := He.noat_ok (c.d.fact 43 (f := .noat "Danger" "masts") rfl)
    a_Danger_ways := He.noat_ok (c.d.fact 44 (f := .noat "Danger" "ways") rfl)
    g_Town := He.glo_ok X G (c.d.fact 45 (f := .glo "Town") rfl)
    c_Town := He.cls_ok (c.d.fact 46 (f := .cls "Town") rfl)
    k_Town := He.mkr_ok (c.d.fact 47 (f := .mkr "Town") rfl)
    a_Town_plan := He.noat_ok (c.d.fact 48 (f := .noat "Town" "plan") rfl)
    a_Town_most := He.noat_ok (c.d.fact 49 (f := .noat "Town" "most") rfl)
    a_Town_down := He.noat_ok (c.d.fact 50 (f := .noat "Town" "down") rfl)
    a_Town_places := He.noat_ok (c.d.fact 51 (f := .noat "Town" "places") rfl)
    a_Town_seating := He.noat_ok (c.d.fact 52 (f := .noat "Town" "seating") rfl)
    a_Town_refused := He.noat_ok (c.d.fact 53 (f := .noat "Town" "refused") rfl)
    a_Town_moved := He.noat_ok (c.d.fact 54 (f := .noat "Town" "moved") rfl)
    m_Town_scene := He.meth_ok (c.d.fact 55 (f := .meth "Town" "scene") rfl)
    m_Town_settle := He.meth_ok (c.d.fact 56 (f := .meth "Town" "settle") rfl)
    m_Town_check := He.meth_ok (c.d.fact 57 (f := .meth "Town" "check") rfl)
    m_Town_begin := He.meth_ok (c.d.fact 58 (f := .meth "Town" "begin") rfl)
    m_Town_go := He.meth_ok (c.d.fact 59 (f := .meth "Town" "go") rfl)
    m_Town_end := He.meth_ok (c.d.fact 60 (f := .meth "Town" "end") rfl)
    m_Town_fall := He.meth_ok (c.d.fact 61 (f := .meth "Town" "fall") rfl)
    m_Town_rise := He.meth_ok (c.d.fact 62 (f := .meth "Town" "rise") rfl)
    m_Town_is_safe := He.meth_ok (c.d.fact 63 (f := .meth "Town" "is_safe") rfl)
    g_TownJournal := He.glo_ok X G (c.d.fact 64 (f := .glo "TownJournal") rfl)
    c_TownJournal := He.cls_ok (c.d.fact 65 (f := .cls "TownJournal") rfl)
    k_TownJournal := He.mkr_ok (c.d.fact 66 (f := .mkr "TownJournal") rfl)
    a_TownJournal_town := He.noat_ok (c.d.fact 67 (f := .noat "TownJournal" "town") rfl)
    a_TownJournal_text := He.noat_ok (c.d.fact 68 (f := .noat "TownJournal" "text") rfl)
    a_TownJournal_loose := He.noat_ok (c.d.fact 69 (f := .noat "TownJournal" "loose") rfl)
    a_TownJournal_many := He.noat_ok (c.d.fact 70 (f := .noat "TownJournal" "many") rfl)
    m_TownJournal_do := He.meth_ok (c.d.fact 71 (f := .meth "TownJournal" "do") rfl)
    m_TownJournal_sync := He.meth_ok (c.d.fact 72 (f := .meth "TownJournal" "sync") rfl)
    m_TownJournal_fallen := He.meth_ok (c.d.fact 73 (f := .meth "TownJournal" "fallen") rfl)
    g_Map := He.glo_ok X G (c.d.fact 74 (f := .glo "Map") rfl)
    c_Map := He.cls_ok (c.d.fact 75 (f := .cls "Map") rfl)
    k_Map := He.mkr_ok (c.d.fact 76 (f := .mkr "Map") rfl)
    a_Map_channels := He.noat_ok (c.d.fact 77 (f := .noat "Map" "channels") rfl)
    a_Map_heard := He.noat_ok (c.d.fact 78 (f := .noat "Map" "heard") rfl)
    a_Map_roads := He.noat_ok (c.d.fact 79 (f := .noat "Map" "roads") rfl)
    m_Map_next_zones := He.meth_ok (c.d.fact 80 (f := .meth "Map" "next_zones") rfl)
    m_Map_reach := He.meth_ok (c.d.fact 81 (f := .meth "Map" "reach") rfl)
    m_Map_up_masts := He.meth_ok (c.d.fact 82 (f := .meth "Map" "up_masts") rfl)
    m_Map_room := He.meth_ok (c.d.fact 83 (f := .meth "Map" "room") rfl)
    g_is_whole := He.glo_ok X G (c.d.fact 84 (f := .glo "is_whole") rfl)
    g_is_name := He.glo_ok X G (c.d.fact 85 (f := .glo "is_name") rfl)
    g_reseated := He.glo_ok X G (c.d.fact 86 (f := .glo "reseated") rfl)
    g_moves_of := He.glo_ok X G (c.d.fact 87 (f := .glo "moves_of") rfl)
    g_lots_of := He.glo_ok X G (c.d.fact 88 (f := .glo "lots_of") rfl)
    g_lots_below := He.glo_ok X G (c.d.fact 89 (f := .glo "lots_below") rfl)
    g_size_and_row := He.glo_ok X G (c.d.fact 90 (f := .glo "size_and_row") rfl)
    g_ways_into := He.glo_ok X G (c.d.fact 91 (f := .glo "ways_into") rfl)
    g_danger_at := He.glo_ok X G (c.d.fact 92 (f := .glo "danger_at") rfl)
    g_danger_for := He.glo_ok X G (c.d.fact 93 (f := .glo "danger_for") rfl)
    g_check_deed := He.glo_ok X G (c.d.fact 94 (f := .glo "check_deed") rfl)
    g_do_in := He.glo_ok X G (c.d.fact 95 (f := .glo "do_in") rfl)
    g_town_line := He.glo_ok X G (c.d.fact 96 (f := .glo "town_line") rfl)
    g_deed_of := He.glo_ok X G (c.d.fact 97 (f := .glo "deed_of") rfl)
    g_town_deeds := He.glo_ok X G (c.d.fact 98 (f := .glo "town_deeds") rfl)
    g__law_number := He.glo_ok X G (c.d.fact 99 (f := .glo "_law_number") rfl)
    g__law_take := He.glo_ok X G (c.d.fact 100 (f := .glo "_law_take") rfl)
    g__law_pick := He.glo_ok X G (c.d.fact 101 (f := .glo "_law_pick") rfl)
    g__law_masts := He.glo_ok X G (c.d.fact 102 (f := .glo "_law_masts") rfl)
    g__law_heard := He.glo_ok X G (c.d.fact 103 (f := .glo "_law_heard") rfl)
    g__law_town := He.glo_ok X G (c.d.fact 104 (f := .glo "_law_town") rfl)
    g__law_told := He.glo_ok X G (c.d.fact 105 (f := .glo "_law_told") rfl)
    g__law_wish := He.glo_ok X G (c.d.fact 106 (f := .glo "_law_wish") rfl)
    g_law := He.glo_ok X G (c.d.fact 107 (f := .glo "law") rfl)
    z_len := He.free_ok X G (c.d.fact 108 (f := .free "len") rfl)
    z_sorted := He.free_ok X G (c.d.fact 109 (f := .free "sorted") rfl)
    z_tuple := He.free_ok X G (c.d.fact 110 (f := .free "tuple") rfl)
    z_list := He.free_ok X G (c.d.fact 111 (f := .free "list") rfl)
    z_dict := He.free_ok X G (c.d.fact 112 (f := .free "dict") rfl)
    z_set := He.free_ok X G (c.d.fact 113 (f := .free "set") rfl)
    z_min := He.free_ok X G (c.d.fact 114 (f := .free "min") rfl)
    z_sum := He.free_ok X G (c.d.fact 115 (f := .free "sum") rfl)
    z_all := He.free_ok X G (c.d.fact 116 (f := .free "all") rfl)
    z_str := He.free_ok X G (c.d.fact 117 (f := .free "str") rfl)
    z_int := He.free_ok X G (c.d.fact 118 (f := .free "int") rfl)
    z_abs := He.free_ok X G (c.d.fact 119 (f := .free "abs") rfl)
    z_range := He.free_ok X G (c.d.fact 120 (f := .free "range") rfl)
    z_isinstance := He.free_ok X G (c.d.fact 121 (f := .free "isinstance") rfl)
    z_bool := He.free_ok X G (c.d.fact 122 (f := .free "bool") rfl)
    z_super := He.free_ok X G (c.d.fact 123 (f := .free "super") rfl)
    d_IsWhole := c.d.def_ 0 (d := dIsWhole) rfl
    d_IsName := c.d.def_ 1 (d := dIsName) rfl
    d_CallInit := c.d.def_ 2 (d := dCallInit) rfl
    d_SceneInit := c.d.def_ 3 (d := dSceneInit) rfl
    d_SceneOrder := c.d.def_ 4 (d := dSceneOrder) rfl
    d_SceneRank := c.d.def_ 5 (d := dSceneRank) rfl
    d_SeatsInit := c.d.def_ 6 (d := dSeatsInit) rfl
    d_SeatsSit := c.d.def_ 7 (d := dSeatsSit) rfl
    d_SeatsHasRoom := c.d.def_ 8 (d := dSeatsHasRoom) rfl
    d_SeatsWaysFrom := c.d.def_ 9 (d := dSeatsWaysFrom) rfl
    d_SeatsAdd := c.d.def_ 10 (d := dSeatsAdd) rfl
    d_KeptInit := c.d.def_ 11 (d := dKeptInit) rfl
    d_MovesInit := c.d.def_ 12 (d := dMovesInit) rfl
    d_MovesCost := c.d.def_ 13 (d := dMovesCost) rfl
    d_MovesArcs := c.d.def_ 14 (d := dMovesArcs) rfl
    d_MovesPrices := c.d.def_ 15 (d := dMovesPrices) rfl
    d_MovesRing := c.d.def_ 16 (d := dMovesRing) rfl
    d_MovesBetter := c.d.def_ 17 (d := dMovesBetter) rfl
    d_Reseated := c.d.def_ 18 (d := dReseated) rfl
    d_MovesOf := c.d.def_ 19 (d := dMovesOf) rfl
    d_LotsOf := c.d.def_ 20 (d := dLotsOf) rfl
    d_DangerInit := c.d.def_ 21 (d := dDangerInit) rfl
    d_LotsBelow := c.d.def_ 22 (d := dLotsBelow) rfl
    d_SizeAndRow := c.d.def_ 23 (d := dSizeAndRow) rfl
    d_WaysInto := c.d.def_ 24 (d := dWaysInto) rfl
    d_DangerAt := c.d.def_ 25 (d := dDangerAt) rfl
    d_DangerFor := c.d.def_ 26 (d := dDangerFor) rfl
    d_TownInit := c.d.def_ 27 (d := dTownInit) rfl
    d_TownScene := c.d.def_ 28 (d := dTownScene) rfl
    d_TownSettle := c.d.def_ 29 (d := dTownSettle) rfl
    d_TownCheck := c.d.def_ 30 (d := dTownCheck) rfl
    d_TownBegin := c.d.def_ 31 (d := dTownBegin) rfl
    d_TownGo := c.d.def_ 32 (d := dTownGo) rfl
    d_TownEnd := c.d.def_ 33 (d := dTownEnd) rfl
    d_TownFall := c.d.def_ 34 (d := dTownFall) rfl
    d_TownRise := c.d.def_ 35 (d := dTownRise) rfl
    d_TownIsSafe := c.d.def_ 36 (d := dTownIsSafe) rfl
    d_CheckDeed := c.d.def_ 37 (d := dCheckDeed) rfl
    d_DoIn := c.d.def_ 38 (d := dDoIn) rfl
    d_TownLine := c.d.def_ 39 (d := dTownLine) rfl
    d_DeedOf := c.d.def_ 40 (d := dDeedOf) rfl
    d_TownDeeds := c.d.def_ 41 (d := dTownDeeds) rfl
    d_TownJournalInit := c.d.def_ 42 (d := dTownJournalInit) rfl
    d_TownJournalDo := c.d.def_ 43 (d := dTownJournalDo) rfl
    d_TownJournalSync := c.d.def_ 44 (d := dTownJournalSync) rfl
    d_TownJournalFallen := c.d.def_ 45 (d := dTownJournalFallen) rfl
    d_MapInit := c.d.def_ 46 (d := dMapInit) rfl
    d_MapNextZones := c.d.def_ 47 (d := dMapNextZones) rfl
    d_MapReach := c.d.def_ 48 (d := dMapReach) rfl
    d_MapUpMasts := c.d.def_ 49 (d := dMapUpMasts) rfl
    d_MapRoom := c.d.def_ 50 (d := dMapRoom) rfl
    d_Lnumber := c.d.def_ 51 (d := dLnumber) rfl
    d_Ltake := c.d.def_ 52 (d := dLtake) rfl
    d_Lpick := c.d.def_ 53 (d := dLpick) rfl
    d_Lmasts := c.d.def_ 54 (d := dLmasts) rfl
    d_Lheard := c.d.def_ 55 (d := dLheard) rfl
    d_Ltown := c.d.def_ 56 (d := dLtown) rfl
    d_Ltold := c.d.def_ 57 (d := dLtold) rfl
    d_Lwish := c.d.def_ 58 (d := dLwish) rfl
    d_Law := c.d.def_ 59 (d := dLaw) rfl
    letters := He.str_ok X G (c.d.fact 124 (f := .str "LETTERS" "abcdefghijklmnopqrstuvwxyz") rfl)
    figures := He.str_ok X G (c.d.fact 125 (f := .str "FIGURES" "0123456789") rfl)
    most := He.int_ok X G (c.d.fact 126 (f := .int "MOST_CHANNELS" 1000) rfl)
    free := He.str_ok X G (c.d.fact 127 (f := .str "FREE" "") rfl)
    g_SHAPES := He.glo_ok X G (c.d.fact 128 (f := .glo "SHAPES") rfl)
    badName := badT_of (He.glo_ok X G (c.d.fact 129 (f := .glo "BadName") rfl)) zs (by decide +kernel) b1 e1 fun _ _ _ _ _ => ⟨_, by with_unfolding_all rfl⟩
    badCut := badT_of (He.glo_ok X G (c.d.fact 130 (f := .glo "BadCut") rfl)) zs (by decide +kernel) b2 e2 fun _ _ _ _ _ => ⟨_, by with_unfolding_all rfl⟩
    bm_rank := bmB_ok (He.meth_ok (c.d.fact 11 (f := .meth "Scene" "rank") rfl)) (by decide +kernel) e3
    shapes := c.tab 0 rfl
    sh_begin := shB_ok s0
    sh_go := shB_ok s1
    sh_end := shB_ok s2
    sh_fall := shB_ok s3
    sh_rise := shB_ok e4
    sh_begn := He.eqO_ok e5
    sh_tick := He.eqO_ok e6 }
theorem facts {w : World} {K : PySem.W.Frag} {h : Heap} {mg : Str → Option Value} {f : Addr} (T : Txt prg w K mg) (hfa : mg ("law" : Str) = some (.ref f)) :
    ∃ fd : FuncData, (∀ (s : Shared) (v : Value), BindsTo s fd ⟨[v], []⟩ [("_law_script", v)]) ∧ ∀ base : Heap, K.In base → base.Ns mainGlobals mg → FnOk prg w K mg base CX0 13 f fd ["_law_script"] (spLaw K) := by
  obtain ⟨fd, F⟩ := T.d_Law
  have e := hfa.symm.trans T.g_law
  cases e
  have b := FunD.bindsA (ps := ["_law_script"]) F fun _ _ _ _ _ _ us hl => match us, hl with | [_], _ => rfl
  exact ⟨fd, fun s v => b s [v] rfl, fun base _ _ => ok_law T F⟩
end MC
open PySem PySem.W PySem.Calls PyProof.Rows
theorem PySem.Challenge.cw_mastcalls_k46_whole_town_cuts_holds : PySem.Challenge.rw_mastcalls_k46_whole_town_cuts.Holds := by
  w_on; o_law
  refine HandSHeadRun.head_any (r := OpenLaw.row PySem.Challenge.rw_mastcalls_k46_whole_town_cuts) (q := view (OpenLaw.row PySem.Challenge.rw_mastcalls_k46_whole_town_cuts).prog [52]) (H := MC.hk) (ob := MC.ob) (M := 9000) (loose := MC.loose) (d := HandSHeadRun.topDef (OpenLaw.row PySem.Challenge.rw_mastcalls_k46_whole_town_cuts).prog 52) (kwd := []) MC.ob_eq
    (by kernel_rfl) (fun s => by kernel_rfl) MC.run (by kernel_rfl) (by kernel_rfl) (by kernel_rfl) (by rfl) (by first | assumption | decide +kernel) (by decide +kernel) ⟨rfl, rfl, rfl, rfl, rfl, by decide +kernel⟩ ?hw ?hc
  case hw => w_witness2
  case hc =>
    refine L2.walk_ofE (l := PySem.Challenge.rw_mastcalls_k46_whole_town_cuts) (n := 63) (k := 13) (x := "_law_script") (CX := L2.CX0) rfl (by decide) (by kernel_rfl) ⟨rfl, by decide, by decide⟩ ?F (fun _ _ _ _ z => z)
    intro w mg fa h Y G hmg0
    obtain ⟨K, KX, c, ex, eb⟩ := Y
    have hmg : mg ("law" : PySem.Str) = some (.ref fa) := by
      have e : (HandSHeadRun.topDef (OpenLaw.row PySem.Challenge.rw_mastcalls_k46_whole_town_cuts).prog 52).name = ("law" : PySem.Str) := by kernel_rfl
      rw [← e]
      exact hmg0
    obtain ⟨fd, hb, hF⟩ := MC.facts (h := h) (MC.txt KX G c ex eb) hmg
    exact ⟨K, fd, MC.spLaw K, KX, hb, fun H a ns hl _ hS => ⟨a, ns, rfl, hS, hl, fun _ => rfl⟩, hF⟩
end
