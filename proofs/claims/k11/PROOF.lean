import PyProof.Rows.All
import Wide.All
import OpenK.AllK
import Wide.FinOn
import HandS.ForMost
import HandS.Property
import HandS.IsInst
import HandS.DictComp
import HandS.ListItems
import HandS.DictTup
import HandS.Finally
import HandS.Style
import HandS.WideBits
import HandS.Defaults
import KE.KOpsOwn
import KE.SortData
import HandS.Walk
import PySem.Challenge.RW_quietsums_k11_sums_by_numbers
set_option Elab.async false
set_option maxRecDepth 100000
set_option maxHeartbeats 4000000
namespace QR
open PySem PySem.Spec PyProof.Rows L2
section
variable {X : Cx} {CX : CXT} {n : Nat} {C f : Addr} {fd : FuncData} {ps : List Str} {sp : Sp} {E : XK}

theorem cmpback_of {Q : Value → Shared → Prop} {u : Value} {s : Shared} (h : u ≠ .notImplemented) (q : Q u s) : PySem.W.CmpBack Q u s := by
  unfold PySem.W.CmpBack
  cases u <;> first | exact q | exact absurd rfl h
theorem relv_ni {v : V} {u : Value} (r : RelV v u) : u ≠ .notImplemented := by
  intro e
  subst e
  cases v <;> first | (obtain ⟨t, z⟩ := r; cases z) | cases r

/-- a + b, a - b of two instances of one class with the operator's own def -/
def rOwn2 (C : Addr) (sp : Sp) (E : XK) : R2 := fun x y H Q => ∃ a b dx dy fs gs, x = .ref a ∧ y = .ref b ∧ H a = some (.ins C dx fs) ∧ H b = some (.ins C dy gs) ∧ sp [.ref a, .ref b] H Q E
theorem op_own2 {op : Operator} (F : FnOk X.prog X.w X.K X.mg X.base CX n f fd ps sp) (hr : Room n X.A) (hsf : PySem.W.selfFirst X.K C = true)
    (hs : PySem.W.findIn X.K (.ref C) (PySem.dunder op.info.2) = some (some (.ref f))) (hf : PySem.W.isFn X.K (.ref f) = true) (hb : Binds X.K fd ps []) (hx : Passes CX X E) :
    OpR X (binaryOp op) (rOwn2 C sp E) := by
  intro pins s σ H x y v u Q I rx ry h
  obtain ⟨a, b, dx, dy, fs, gs, rfl, rfl, ha, hb', q⟩ := h
  cases rx
  cases ry
  obtain ⟨mA, J, _⟩ := ins_get I.hok ha
  obtain ⟨mB, J', _⟩ := ins_get I.hok hb'
  obtain ⟨od, J, _⟩ := J.look
  obtain ⟨od', J', _⟩ := J'.look
  obtain ⟨m, hF⟩ := I.fr
  refine PySem.W.binop_K hF I.ok.mod.kin J J'.type hsf hs hf ?_
  refine wpAny_mono (run_fn (dvs := []) (ds := []) F hr hb .nil hx I (vs := [.ref a, .ref b]) (us := [.ref a, .ref b]) (.cons rfl (.cons rfl .nil)) q) (fun w s' z => ?_) fun _ _ z => z
  obtain ⟨v', H', I', rv, q'⟩ := z
  exact cmpback_of (relv_ni rv) ⟨v', H', I', rv, q'⟩

/-- a * n: an instance with an int -/
def rOwnI (C : Addr) (sp : Sp) (E : XK) : R2 := fun x y H Q => ∃ a dx fs i, x = .ref a ∧ y = .int i ∧ H a = some (.ins C dx fs) ∧ sp [.ref a, .int i] H Q E
theorem op_ownI {op : Operator} {rc fo ro : Option Value} (F : FnOk X.prog X.w X.K X.mg X.base CX n f fd ps sp) (hr : Room n X.A) (hsf : PySem.W.selfFirst X.K C = true)
    (hs : PySem.W.findIn X.K (.ref C) (PySem.dunder op.info.2) = some (some (.ref f))) (hf : PySem.W.isFn X.K (.ref f) = true)
    (hrr : PySem.W.findIn X.K (.ref C) (dunderR op.info.2) = some rc) (hp : rc = none ∨ ∃ g : Addr, rc = some (.ref g))
    (h1 : PySem.W.findIn X.K (.type "int") (PySem.dunder op.info.2) = some fo) (h2 : PySem.W.findIn X.K (.type "int") (dunderR op.info.2) = some ro) (hsub : PySem.W.subIn X.K (.type "int") (.ref C) = some false)
    (hb : Binds X.K fd ps []) (hx : Passes CX X E) :
    OpR X (binaryOp op) (rOwnI C sp E) := by
  intro pins s σ H x y v u Q I rx ry h
  obtain ⟨a, dx, fs, i, rfl, rfl, ha, q⟩ := h
  cases rx
  obtain ⟨t, rfl⟩ := ry
  obtain ⟨mA, J, _⟩ := ins_get I.hok ha
  obtain ⟨od, J, _⟩ := J.look
  obtain ⟨m, hF⟩ := I.fr
  refine PySem.W.ksp_binT hF I.ok.mod.kin J (T := "int") rfl hsf hs hf hrr hp h1 h2 hsub ?_
  refine wpAny_mono (run_fn (dvs := []) (ds := []) F hr hb .nil hx I (vs := [.ref a, .int i]) (us := [.ref a, .int i t]) (.cons rfl (.cons ⟨t, rfl⟩ .nil)) q) (fun w s' z => ?_) fun _ _ z => z
  obtain ⟨v', H', I', rv, q'⟩ := z
  exact cmpback_of (relv_ni rv) ⟨v', H', I', rv, q'⟩

/-- -a -/
def rOwnN (C : Addr) (sp : Sp) (E : XK) : V → Hp → VK → Prop := fun x H Q => ∃ a dx fs, x = .ref a ∧ H a = some (.ins C dx fs) ∧ sp [.ref a] H Q E
theorem un_own (F : FnOk X.prog X.w X.K X.mg X.base CX n f fd ps sp) (hr : Room n X.A)
    (hs : PySem.W.findIn X.K (.ref C) "__neg__" = some (some (.ref f))) (hf : PySem.W.isFn X.K (.ref f) = true) (hb : Binds X.K fd ps []) (hx : Passes CX X E) :
    UnR X (unaryOp .USub) (rOwnN C sp E) := by
  intro pins s σ H x v Q I rx h
  obtain ⟨a, dx, fs, rfl, ha, q⟩ := h
  cases rx
  obtain ⟨mA, J, _⟩ := ins_get I.hok ha
  obtain ⟨od, J, _⟩ := J.look
  obtain ⟨m, hF⟩ := I.fr
  refine PySem.W.ksp_neg hF I.ok.mod.kin J hs hf ?_
  exact run_fn (dvs := []) (ds := []) F hr hb .nil hx I (vs := [.ref a]) (us := [.ref a]) (.cons rfl .nil) q

/-- the value of e, a thing that may be written, is locked from now on -/
def tFrz (te : TE) : TE := fun σ H Q => te σ H fun x H1 => ∃ d u, x = .ref d ∧ H1 d = some u ∧ Mut (some u) ∧ ∀ od, Q x (upd H1 d (.frz od u))
theorem pe_frz {e : Expr} {te : TE} (he : PE X e te) : PE X e (tFrz te) := by
  refine ⟨fun pins s σ H Q I h => ?_⟩
  refine thn (he.run pins s σ H _ I h) fun u s1 ⟨x, H1, I1, rx, d, o, ex, hd, mu, q⟩ => ?_
  obtain ⟨od, I2⟩ := I1.lock hd mu
  exact ⟨x, _, I2, rx, q od⟩

/-- two dicts of ints and texts compared: equal if they have the same pairs, unlike if their sizes differ -/
def rEqDL : R2 := fun x y H Q => ∃ a b ks ls, x = .ref a ∧ y = .ref b ∧ H a = some (.dK ks) ∧ H b = some (.dK ls) ∧ (ks.length = ls.length → ∀ p ∈ ks, valV ls p.1 = some p.2 ∧ flatB p.2 = true) ∧ Q (.bl (decide (ks.length = ls.length))) H
theorem op_eqDL (hu : X.A.units < cLine) : OpR X (compareOp .Eq) rEqDL := by
  intro pins s σ H x y v u Q I rx ry h
  obtain ⟨a, b, ks, ls, rfl, rfl, ea, eb, hp, q⟩ := h
  obtain rfl : v = Value.ref a := rx
  obtain rfl : u = Value.ref b := ry
  obtain ⟨_, ya, va, ra, da⟩ := (show ObjOk X.prog X.w H s.heap a (.dK ks) from I.hok a _ ea)
  obtain ⟨_, yb, vb, rb, db⟩ := (show ObjOk X.prog X.w H s.heap b (.dK ls) from I.hok b _ eb)
  have l1 : ks.length = va.length := ra.length
  have l2 : ls.length = vb.length := rb.length
  have e : (va.length == vb.length && true) = decide (ks.length = ls.length) := by
    rw [Bool.and_true, l1, l2]
    by_cases h : va.length = vb.length
    · rw [h]; simp
    · rw [decide_eq_false h]; simpa using h
  exact PySem.W.keq_eq (knd := mixKind X.prog X.w) (r := true) ya yb da db hu (fun hl => hits_all rb ra (hp (by omega))) (fin_bl I q e.symm)
end
end QR
set_option Elab.async false
set_option maxRecDepth 100000
set_option maxHeartbeats 4000000
namespace QR
open PySem PySem.Spec PyProof.Rows L2
/-- a dict from texts to ints, as pairs of the layer -/
def dk (ws : List (Str × Int)) : List (Key × V) := ws.map fun p => (Sum.inr p.1, V.int p.2)
def stLe (x y : Str) : Prop := x.cps.toList ≤ y.cps.toList
section
variable {X : Cx}
/-- d.items() as a value, d with int and text keys -/
def rItemsK : V → List V → Hp → VK → Prop := fun x xs H Q => ∃ (a : Addr) (kvs : List (Key × V)), x = .ref a ∧ xs = [] ∧ H a = some (.dK kvs) ∧ ∀ p, H p = none → Q (.ref p) (upd H p (DX.itemsO p a))
theorem mt_itemsK : MtR X "dict.items" rItemsK := by
  intro pins s σ H x xs v us Q I rx rxs h
  obtain ⟨a, kvs, rfl, rfl, ha, q⟩ := h
  cases rx
  cases rxs
  obtain ⟨hz, hd, vs, kv, o, es, ep, ho, hx, hdat, _⟩ := I.hok a _ ha
  refine DT.callItems (es := es) (ep := ep) hd ⟨o, ho, hx, hdat⟩ ?_
  have hf : H s.heap.objs.size = none := I.hok.fresh (Nat.le_refl _)
  exact ⟨.ref s.heap.objs.size, upd H s.heap.objs.size (DX.itemsO s.heap.objs.size a), I.laid (t' := s.toks) (fun b u e => Heap.get?_push_of_some _ e) (Nat.le_refl _) (DX.itemsO_ok (Heap.get?_push_size _ rfl)), rfl, q _ hf⟩
/-- sorted(view) of such a dict, texts to ints -/
def rSortItK : List V → Hp → VK → Prop := fun vs H Q => ∃ (p a : Addr) (ws : List (Str × Int)), vs = [.ref p] ∧ H p = some (DX.itemsO p a) ∧ H a = some (.dK (dk ws)) ∧
  ∀ (H' : Hp) (l : Addr) (zs : List (Addr × Str × Int)), (∀ b o, H b = some o → H' b = some o) → (zs.map (·.2)).Perm ws → (zs.map (·.2)).Pairwise (fun e f => stLe e.1 f.1) → H l = none → H' l = some (.lst (zs.map fun z => V.ref z.1)) →
    (∀ z ∈ zs, H' z.1 = some (.tup [.str z.2.1, .int z.2.2])) → Q (.ref l) H'
abbrev enc1 (z : Addr × Str × Int) : PyData := .tuple [.str z.2.1, .int z.2.2]
theorem enc1_le {x y : Addr × Str × Int} (h : PySem.W.dataLe false enc1 x y = true) : stLe x.2.1 y.2.1 := by
  have e : (!PySem.W.dataLt (enc1 y) (enc1 x)) = true := h
  rw [PySem.W.dataLt_pair (by simp [PySem.W.alike]) (by simp [PySem.W.alike])] at e
  unfold stLe
  by_cases q : PyData.eqv (.str y.2.1) (.str x.2.1) = true
  · have q' : y.2.1 = x.2.1 := by simpa [PyData.eqv] using q
    rw [q']
    exact List.le_refl _
  · rw [if_neg q, PySem.W.dataLt_str] at e
    have e2 : ¬ (y.2.1.cps.toList < x.2.1.cps.toList) := by simpa using e
    exact List.not_lt.mp e2
theorem zs_each {as : List Addr} : ∀ {ws : List (Str × Int)}, as.length = ws.length → PySem.W.EachIs (fun v (b : Addr × Str × Int) => v = Value.ref b.1) (as.map Value.ref) (as.zip ws) := by
  induction as with
  | nil => intro ws _; exact .nil
  | cons a as ih =>
    intro ws h
    cases ws with
    | nil => cases h
    | cons w ws => exact .cons rfl (ih (Nat.succ.inj h))
theorem each_get {α β : Type} {R : α → β → Prop} {S : α → β → Prop} : ∀ {as : List α} {bs : List β}, PySem.W.EachIs R as bs → (∀ (j : Nat) a b, as[j]? = some a → bs[j]? = some b → R a b → S a b) → PySem.W.EachIs S as bs
  | _, _, .nil, _ => .nil
  | _, _, .cons r t, h => .cons (h 0 _ _ rfl rfl r) (each_get t fun j a b ha hb => h (j + 1) a b ha hb)
theorem each_map {R : Value → Addr × Str × Int → Prop} (hR : ∀ v b, R v b → v = Value.ref b.1) : ∀ {as : List Value} {bs : List (Addr × Str × Int)}, PySem.W.EachIs R as bs → as = bs.map fun b => Value.ref b.1
  | _, _, .nil => rfl
  | _, _, .cons r t => by
    rw [List.map_cons, ← each_map hR t, hR _ _ r]
theorem pairs_get {P : Program} {w : World} : ∀ {es : List DictEntry} {kvs : List (Key × Value)}, Pairs (mixKind P w) es kvs → ∀ {j : Nat} {e : DictEntry}, es[j]? = some e → ∃ kv : Key × Value, kvs[j]? = some kv ∧ keyIs kv.1 e.key = true ∧ e.val = kv.2
  | _, _, .nil, j, e, h => by simp at h
  | _, _, .cons h1 h2 t, 0, e, h => by
    have q := Option.some.inj h
    subst q
    exact ⟨_, rfl, h1, h2⟩
  | _, _, .cons h1 h2 t, j + 1, e, h => pairs_get t h
theorem cr_sortItK (hc : X.calm = true) (hu : X.A.units + 64 < cLine) : CallR X (.builtin "sorted") rSortItK := by
  intro pins s σ H xs us Q I r h
  obtain ⟨p, a, ws, rfl, hp, ha, q⟩ := h
  obtain rfl := Vals.ref1 r
  have view : s.heap.IsItemsView p a := (show ObjOk X.prog X.w H s.heap p (DX.itemsO p a) from I.hok p _ hp).1
  obtain ⟨hz, hd, vs, kv, o, es, ep, ho, hx, hdat, hks, hpr, hnd⟩ := I.hok a _ ha
  have l1 : (dk ws).length = vs.length := Paired.length kv
  have l1' : (dk ws).length = ws.length := by unfold dk; rw [List.length_map]
  have l2 : es.toList.length = vs.length := hpr.length
  have l2' : es.size = vs.length := by rw [← l2]; simp
  have hh : X.A.handled = none := I.ok.hd hc
  refine DT.sortedI (es := es) (ep := ep) hh view ⟨o, ho, hx, hdat⟩ (by omega) fun h' tk as hk hlt hl hG => ?_
  have lak : as.length = ws.length := by omega
  have nd : as.Nodup := List.Pairwise.imp (fun h => Nat.ne_of_lt h) hG.rise
  -- the pairs that were made
  have pr : ∀ (j : Nat) (b : Addr) (e : Str × Int), as[j]? = some b → ws[j]? = some e → ∃ t u, h'.get? b = some { cls := .type "tuple", data := .seq #[Value.str e.1 t, Value.int e.2 u] } := by
    intro j b e hj he
    obtain ⟨en, h1, h2⟩ := hG.pairs j b hj
    have h1' : es.toList[j]? = some en := by rw [Array.getElem?_toList]; exact h1
    obtain ⟨kv1, g1, g2, g3⟩ := pairs_get hpr h1'
    have g0 : (dk ws)[j]? = some (Sum.inr e.1, V.int e.2) := by unfold dk; rw [List.getElem?_map, he]; rfl
    obtain ⟨y, f1, f2, f3⟩ := LiI.paired_get kv g0
    rw [g1] at f1
    cases f1
    rw [← f2] at g2
    obtain ⟨t, et⟩ := relV_key g2
    obtain ⟨u, eu⟩ := f3
    rw [g3, eu, et] at h2
    exact ⟨t, u, h2⟩
  have hob : (h'.push { cls := .type "list", data := .seq (as.map Value.ref).toArray }).get? h'.objs.size = some (seqObj "list" (as.map Value.ref).toArray 0) := Heap.get?_push_size _ rfl
  have kb : ∀ b o, s.heap.get? b = some o → (h'.push { cls := .type "list", data := .seq (as.map Value.ref).toArray }).get? b = some o := fun b o e => Heap.get?_push_of_some _ (hk b o e)
  have ne0 : ∀ b o, h'.get? b = some o → b ≠ h'.objs.size := fun b o e => Nat.ne_of_lt (Heap.lt_size e)
  generalize hh2 : h'.push { cls := .type "list", data := .seq (as.map Value.ref).toArray } = h2 at hob kb ⊢
  have ka : ∀ b o, h'.get? b = some o → h2.get? b = some o := fun b o e => by rw [← hh2]; exact Heap.get?_push_of_some _ e
  have each := zs_each lak
  refine PySem.W.list_sort_data (s := { s with heap := h2, toks := tk }) (vs := as.map Value.ref) (bs := as.zip ws) (enc := enc1) hob each ?_ ?_ ?_ ?_ ?_ ?_
  · refine each_get each fun j v b hj hb e => ?_
    obtain ⟨h3, h4⟩ := List.getElem?_zip_eq_some.mp hb
    obtain ⟨t, u, g⟩ := pr j b.1 b.2 h3 h4
    subst e
    refine ⟨[], .tuple (ka _ _ g) rfl rfl ?_, by simp⟩
    exact .cons (.str _ _) (.cons (.int _ _) .nil)
  · exact PySem.W.AllAlike.of fun b b' => by simp [PySem.W.alike, PySem.W.alikeAll]
  · exact PySem.W.Sortable.tuples fun b => ⟨_, _, rfl⟩
  · rw [List.length_zip, lak, Nat.min_self]; omega
  · intro b _
    show X.A.units + 1 + 1 + (enc1 b).depth < cLine
    have : (enc1 b).depth ≤ 2 := by simp [enc1, PyData.depth, PyData.depthAll]
    omega
  · intro out hlen hout
    show EP X pins σ Q (.ref h'.objs.size) { s with heap := sortedHeap h2 h'.objs.size (as.map Value.ref) out.toArray, toks := tk }
    generalize hzs : (as.zip ws).mergeSort (PySem.W.dataLe false enc1) = zs at hout
    have pz : zs.Perm (as.zip ws) := by rw [← hzs]; exact List.mergeSort_perm _ _
    have idx : ∀ z ∈ zs, ∃ j : Nat, as[j]? = some z.1 ∧ ws[j]? = some z.2 := by
      intro z' hz'
      obtain ⟨j, hj⟩ := List.mem_iff_getElem?.mp (pz.mem_iff.mp hz')
      exact ⟨j, List.getElem?_zip_eq_some.mp hj⟩
    have hout' : out = zs.map fun z => Value.ref z.1 := each_map (fun _ _ e => e) hout
    have hperm : (zs.map (·.2)).Perm ws := by
      have e := pz.map (·.2)
      have m2 : (as.zip ws).map (·.2) = ws := List.map_snd_zip (by rw [lak]; exact Nat.le_refl _)
      rw [m2] at e
      exact e
    have hsort : (zs.map (·.2)).Pairwise (fun e f => stLe e.1 f.1) := by
      have o3 := PySem.W.sort_pairwise (le := PySem.W.dataLe false enc1) (PySem.W.sortLe_total _ _ _) (as.zip ws)
      rw [hzs] at o3
      rw [List.pairwise_map]
      exact List.Pairwise.imp (fun {x y} h => enc1_le h) o3
    have kF : ∀ b o, b ≠ h'.objs.size → h2.get? b = some o → (sortedHeap h2 h'.objs.size (as.map Value.ref) out.toArray).get? b = some o := fun b o hb e => (PyProof.Rows.sortedHeap_old hb (Heap.lt_size e)).trans e
    have kS : ∀ b o, s.heap.get? b = some o → (sortedHeap h2 h'.objs.size (as.map Value.ref) out.toArray).get? b = some o := fun b o e => kF b o (ne0 _ _ (hk b o e)) (kb b o e)
    obtain ⟨eF, heF⟩ := PyProof.Rows.sortedHeap_at (vs := as.map Value.ref) (out := out.toArray) hob
    have I1 : Inv X pins σ H { s with heap := sortedHeap h2 h'.objs.size (as.map Value.ref) out.toArray, toks := tk } := I.kept (t' := tk) kS
    have hn0 : H h'.objs.size = none := I.hok.fresh (Nat.le_of_lt hlt)
    have hlz : zs.length = ws.length := by have e := hperm.length_eq; rw [List.length_map] at e; exact e
    have hlen : (zs.map fun z => V.ref z.1).length ≤ sizeLine := by rw [List.length_map]; omega
    have rv : Vals (zs.map fun z => V.ref z.1) out := by
      rw [hout']
      exact vals_maps (fun z : Addr × Str × Int => V.ref z.1) (fun z => Value.ref z.1) zs fun _ _ => rfl
    have I2 : Inv X pins σ (upd H h'.objs.size (.lst (zs.map fun z => V.ref z.1))) { s with heap := sortedHeap h2 h'.objs.size (as.map Value.ref) out.toArray, toks := tk } :=
      I1.take (h' := sortedHeap h2 h'.objs.size (as.map Value.ref) out.toArray) (t' := tk) (fun b ob _ e => e) (I.fpOk (Nat.le_of_lt hlt) hn0) ⟨hlen, out, eF, rv, heF⟩
    obtain ⟨H2, I3, g, qt⟩ := DX.takeT (P := fun b vs => ∃ (j : Nat) (e : Str × Int), as[j]? = some b ∧ ws[j]? = some e ∧ vs = [V.str e.1, V.int e.2]) I as _ I2 nd fun b hb => by
      obtain ⟨j, hj⟩ := List.mem_iff_getElem?.mp hb
      have hjl : j < ws.length := by rw [← lak]; exact (List.getElem?_eq_some_iff.mp hj).1
      have he : ws[j]? = some ws[j] := List.getElem?_eq_getElem hjl
      obtain ⟨t, u, hg⟩ := pr j b _ hj he
      have hbl : s.heap.objs.size ≤ b := Nat.le_of_lt (hG.above b hb)
      refine ⟨hbl, ?_, [V.str ws[j].1, V.int ws[j].2], ⟨j, ws[j], hj, he, rfl⟩, fun H3 => ⟨(by show 2 ≤ sizeLine; decide), [Value.str ws[j].1 t, Value.int ws[j].2 u], .cons ⟨t, rfl⟩ (.cons ⟨u, rfl⟩ .nil), ⟨_, kF _ _ (ne0 _ _ hg) (ka _ _ hg), rfl, 0, rfl⟩⟩⟩
      rw [upd_ne (ne0 _ _ hg)]
      exact I.hok.fresh hbl
    have gr : ∀ b o, H b = some o → H2 b = some o := fun b o e => g b o (by rw [upd_ne (ne_of_none e hn0)]; exact e)
    refine ⟨.ref h'.objs.size, H2, I3, rfl, q H2 h'.objs.size zs gr hperm hsort hn0 (g _ _ upd_same) fun z' hz' => ?_⟩
    obtain ⟨i, i1, i2⟩ := idx z' hz'
    obtain ⟨vs, ⟨j, e, j1, j2, ev⟩, hH⟩ := qt z'.1 (List.mem_of_getElem? i1)
    have eij : i = j := (List.getElem?_inj (List.getElem?_eq_some_iff.mp i1).1 nd).mp (i1.trans j1.symm)
    subst eij
    have ee : e = z'.2 := Option.some.inj (j2.symm.trans i2)
    rw [ev, ee] at hH
    exact hH
end
end QR
set_option Elab.async false
set_option maxRecDepth 100000
set_option maxHeartbeats 1000000
namespace QM
open PySem L2 QR
/-! ### dicts from texts to ints: plain lists of pairs -/
abbrev Ws := List (Str × Int)
def lk (ws : Ws) (n : Str) : Option Int := (ws.find? fun p => decide (p.1 = n)).map (·.2)
def wt (ws : Ws) (n : Str) : Int := (lk ws n).getD 0
def putS (ws : Ws) (n : Str) (v : Int) : Ws := if (ws.any fun p => decide (p.1 = n)) = true then ws.map (fun p => if p.1 = n then (p.1, v) else p) else ws ++ [(n, v)]
theorem lk_nil {n : Str} : lk [] n = none := rfl
theorem lk_cons (p : Str × Int) (r : Ws) (n : Str) : lk (p :: r) n = if p.1 = n then some p.2 else lk r n := by
  unfold lk
  rw [List.find?_cons]
  by_cases e : p.1 = n <;> simp [e]
theorem wt_nil {n : Str} : wt [] n = 0 := rfl
theorem wt_cons (p : Str × Int) (r : Ws) (n : Str) : wt (p :: r) n = if p.1 = n then p.2 else wt r n := by
  unfold wt
  rw [lk_cons]
  by_cases e : p.1 = n <;> simp [e]
theorem dk_nil : dk [] = [] := rfl
theorem dk_cons (p : Str × Int) (r : Ws) : dk (p :: r) = (Sum.inr p.1, V.int p.2) :: dk r := rfl
theorem dk_len (ws : Ws) : (dk ws).length = ws.length := by unfold dk; rw [List.length_map]
theorem dk_append (a b : Ws) : dk (a ++ b) = dk a ++ dk b := by unfold dk; rw [List.map_append]
theorem key_inr (a b : Str) : ((Sum.inr a : Key) = Sum.inr b) ↔ a = b := ⟨fun h => Sum.inr.inj h, fun h => by rw [h]⟩
theorem valV_dk (n : Str) : ∀ ws : Ws, valV (dk ws) (Sum.inr n : Key) = (lk ws n).map V.int
  | [] => rfl
  | p :: r => by
    rw [dk_cons, lk_cons]
    by_cases e : p.1 = n
    · rw [if_pos e, valV_pos (show (Sum.inr p.1 : Key) = Sum.inr n by rw [e])]; rfl
    · rw [if_neg e, valV_neg (show ¬ (Sum.inr p.1 : Key) = Sum.inr n from fun z => e (Sum.inr.inj z)), valV_dk n r]
theorem any_dk (n : Str) (ws : Ws) : ((dk ws).any fun kv => decide (kv.1 = (Sum.inr n : Key))) = (ws.any fun p => decide (p.1 = n)) := by
  unfold dk
  rw [List.any_map]
  congr 1
  funext p
  show decide ((Sum.inr p.1 : Key) = Sum.inr n) = decide (p.1 = n)
  by_cases e : p.1 = n
  · rw [decide_eq_true e, decide_eq_true (by rw [e])]
  · rw [decide_eq_false e, decide_eq_false (fun z => e (Sum.inr.inj z))]
theorem putK_dk (ws : Ws) (n : Str) (v : Int) : putK (dk ws) (Sum.inr n : Key) (V.int v) = dk (putS ws n v) := by
  unfold putK putS
  rw [any_dk]
  by_cases a : (ws.any fun p => decide (p.1 = n)) = true
  · rw [if_pos a, if_pos a]
    unfold dk
    rw [List.map_map, List.map_map]
    refine List.map_congr_left fun p _ => ?_
    show (if (Sum.inr p.1 : Key) = Sum.inr n then ((Sum.inr p.1 : Key), V.int v) else (Sum.inr p.1, V.int p.2)) = _
    by_cases e : p.1 = n
    · rw [if_pos (by rw [e])]; simp [e]
    · rw [if_neg (fun z => e (Sum.inr.inj z))]; simp [e]
  · rw [if_neg a, if_neg a, dk_append]; rfl
theorem lk_some_mem : ∀ {ws : Ws} {n : Str} {v : Int}, lk ws n = some v → (n, v) ∈ ws
  | [], n, v, h => by cases h
  | p :: r, n, v, h => by
    rw [lk_cons] at h
    by_cases e : p.1 = n
    · rw [if_pos e] at h
      have z := Option.some.inj h
      rw [← e, ← z]; exact List.mem_cons_self
    · rw [if_neg e] at h
      exact List.mem_cons_of_mem _ (lk_some_mem h)
theorem lk_none_iff : ∀ {ws : Ws} {n : Str}, lk ws n = none ↔ ¬ n ∈ ws.map (·.1)
  | [], n => by simp [lk_nil]
  | p :: r, n => by
    rw [lk_cons]
    by_cases e : p.1 = n
    · rw [if_pos e]; simp [e]
    · rw [if_neg e, lk_none_iff]
      simp only [List.map_cons, List.mem_cons]
      constructor
      · rintro h (z | z)
        · exact e z.symm
        · exact h z
      · exact fun h z => h (Or.inr z)
theorem mem_lk : ∀ {ws : Ws} {p : Str × Int}, (ws.map (·.1)).Nodup → p ∈ ws → lk ws p.1 = some p.2
  | [], p, _, h => by cases h
  | a :: r, p, hn, h => by
    have hn' := List.nodup_cons.mp hn
    rw [lk_cons]
    rcases List.mem_cons.mp h with e | e
    · rw [e, if_pos rfl]
    · have : a.1 ≠ p.1 := fun z => hn'.1 (by show a.1 ∈ _; rw [z]; exact List.mem_map_of_mem e)
      rw [if_neg this]
      exact mem_lk hn'.2 e
theorem mem_wt {ws : Ws} {p : Str × Int} (hn : (ws.map (·.1)).Nodup) (h : p ∈ ws) : wt ws p.1 = p.2 := by unfold wt; rw [mem_lk hn h]; rfl
theorem wt_not {ws : Ws} {n : Str} (h : ¬ n ∈ ws.map (·.1)) : wt ws n = 0 := by unfold wt; rw [lk_none_iff.mpr h]; rfl
theorem wt_mem {ws : Ws} {n : Str} (h : wt ws n ≠ 0) : (n, wt ws n) ∈ ws := by
  unfold wt at h ⊢
  cases e : lk ws n with
  | none => rw [e] at h; exact absurd rfl h
  | some v => exact lk_some_mem e
theorem any_iff {ws : Ws} {n : Str} : (ws.any fun p => decide (p.1 = n)) = true ↔ n ∈ ws.map (·.1) := by
  rw [List.any_eq_true]
  constructor
  · rintro ⟨p, hp, e⟩; exact List.mem_map.mpr ⟨p, hp, of_decide_eq_true e⟩
  · intro h
    obtain ⟨p, hp, e⟩ := List.mem_map.mp h
    exact ⟨p, hp, decide_eq_true e⟩
theorem putS_old {ws : Ws} {n : Str} {v : Int} (h : n ∈ ws.map (·.1)) : putS ws n v = ws.map (fun p => if p.1 = n then (p.1, v) else p) := by unfold putS; rw [if_pos (any_iff.mpr h)]
theorem putS_new {ws : Ws} {n : Str} {v : Int} (h : ¬ n ∈ ws.map (·.1)) : putS ws n v = ws ++ [(n, v)] := by unfold putS; rw [if_neg (fun z => h (any_iff.mp z))]
theorem putS_keys_old {ws : Ws} {n : Str} {v : Int} (h : n ∈ ws.map (·.1)) : (putS ws n v).map (·.1) = ws.map (·.1) := by
  rw [putS_old h, List.map_map]
  refine List.map_congr_left fun p _ => ?_
  show (if p.1 = n then (p.1, v) else p).1 = p.1
  by_cases e : p.1 = n <;> simp [e]
theorem putS_keys_new {ws : Ws} {n : Str} {v : Int} (h : ¬ n ∈ ws.map (·.1)) : (putS ws n v).map (·.1) = ws.map (·.1) ++ [n] := by
  rw [putS_new h, List.map_append]; rfl
theorem putS_nd {ws : Ws} {n : Str} {v : Int} (h : (ws.map (·.1)).Nodup) : ((putS ws n v).map (·.1)).Nodup := by
  by_cases hm : n ∈ ws.map (·.1)
  · rw [putS_keys_old hm]; exact h
  · rw [putS_keys_new hm]; exact nd_snoc h hm
theorem putS_mem {ws : Ws} {n : Str} {v : Int} {p : Str × Int} (h : p ∈ putS ws n v) : p = (n, v) ∨ p ∈ ws := by
  by_cases hm : n ∈ ws.map (·.1)
  · rw [putS_old hm] at h
    obtain ⟨a, ha, e⟩ := List.mem_map.mp h
    by_cases q : a.1 = n
    · rw [if_pos q] at e; left; rw [← e, q]
    · rw [if_neg q] at e; right; rw [← e]; exact ha
  · rw [putS_new hm] at h
    rcases List.mem_append.mp h with h | h
    · exact Or.inr h
    · exact Or.inl (List.mem_singleton.mp h)
theorem lk_map (n m : Str) (v : Int) : ∀ ws : Ws, lk (ws.map fun p => if p.1 = n then (p.1, v) else p) m = if m = n then (lk ws m).map (fun _ => v) else lk ws m
  | [] => by simp [lk_nil]
  | p :: r => by
    rw [List.map_cons, lk_cons, lk_cons, lk_map n m v r]
    by_cases e : p.1 = n
    · by_cases e2 : m = n
      · simp [e, e2]
      · have : ¬ n = m := fun z => e2 z.symm
        simp [e, e2, this]
    · by_cases e2 : m = n
      · have : ¬ p.1 = m := fun z => e (z.trans e2)
        simp [e, e2]
      · simp [e, e2]
theorem lk_append (a b : Ws) (m : Str) : lk (a ++ b) m = (lk a m).or (lk b m) := by
  induction a with
  | nil => simp [lk_nil]
  | cons p r ih =>
    rw [List.cons_append, lk_cons, lk_cons, ih]
    by_cases e : p.1 = m <;> simp [e]
theorem lk_put (ws : Ws) (n m : Str) (v : Int) : lk (putS ws n v) m = if m = n then some v else lk ws m := by
  by_cases hm : n ∈ ws.map (·.1)
  · rw [putS_old hm, lk_map]
    by_cases e : m = n
    · rw [if_pos e, if_pos e, e]
      cases q : lk ws n with
      | none => exact absurd hm (lk_none_iff.mp q)
      | some x => rfl
    · rw [if_neg e, if_neg e]
  · rw [putS_new hm, lk_append]
    by_cases e : m = n
    · rw [if_pos e, e, lk_none_iff.mpr hm, lk_cons]; simp
    · have : ¬ n = m := fun z => e z.symm
      rw [if_neg e, lk_cons, if_neg this, lk_nil]; simp
theorem wt_put (ws : Ws) (n m : Str) (v : Int) : wt (putS ws n v) m = if m = n then v else wt ws m := by
  unfold wt
  rw [lk_put]
  by_cases e : m = n <;> simp [e]
/-! ### dict(pairs) -/
theorem merge_nd : ∀ (more acc : Ws), ((acc ++ more).map (·.1)).Nodup → mergeK (dk acc) (dk more) = dk (acc ++ more)
  | [], acc, _ => by rw [List.append_nil]; rfl
  | p :: r, acc, h => by
    have e : acc ++ p :: r = (acc ++ [p]) ++ r := by simp
    have h1 : ¬ p.1 ∈ acc.map (·.1) := by
      intro hm
      rw [List.map_append, List.map_cons] at h
      have := (List.nodup_append.mp h).2.2
      exact this p.1 hm p.1 List.mem_cons_self rfl
    show mergeK (putK (dk acc) (Sum.inr p.1) (V.int p.2)) (dk r) = _
    rw [putK_dk, putS_new h1, e]
    exact merge_nd r (acc ++ [p]) (by rw [← e]; exact h)
theorem merge_all (more : Ws) (h : (more.map (·.1)).Nodup) : mergeK [] (dk more) = dk more := by
  have e := merge_nd more [] (by simpa using h)
  rw [List.nil_append] at e
  exact e
/-! ### what a dict of weights is: different keys among N, numbers from lo to q - 1 -/
structure Dct (lo q : Int) (N : List Str) (ws : Ws) : Prop where
  nd : (ws.map (·.1)).Nodup
  mem : ∀ p ∈ ws, p.1 ∈ N ∧ lo ≤ p.2 ∧ p.2 < q
theorem Dct.nil {lo q : Int} {N : List Str} : Dct lo q N [] := ⟨List.nodup_nil, fun p h => by cases h⟩
theorem Dct.len {lo q : Int} {N : List Str} {ws : Ws} (h : Dct lo q N ws) : ws.length ≤ N.length := by
  have e : ws.length = (ws.map (·.1)).length := by rw [List.length_map]
  rw [e]
  refine h.nd.length_le_of_subset fun n hn => ?_
  obtain ⟨p, hp, e⟩ := List.mem_map.mp hn
  rw [← e]; exact (h.mem p hp).1
theorem Dct.put {lo q : Int} {N : List Str} {ws : Ws} (h : Dct lo q N ws) {n : Str} {v : Int} (hn : n ∈ N) (h1 : lo ≤ v) (h2 : v < q) : Dct lo q N (putS ws n v) := by
  refine ⟨putS_nd h.nd, fun p hp => ?_⟩
  rcases putS_mem hp with e | e
  · rw [e]; exact ⟨hn, h1, h2⟩
  · exact h.mem p e
theorem Dct.weak {q : Int} {N : List Str} {ws : Ws} (h : Dct 1 q N ws) : Dct 0 q N ws := ⟨h.nd, fun p hp => ⟨(h.mem p hp).1, by have := (h.mem p hp).2.1; omega, (h.mem p hp).2.2⟩⟩
theorem Dct.wt0 {lo q : Int} {N : List Str} {ws : Ws} (h : Dct lo q N ws) (h0 : 0 ≤ lo) (hq : 0 < q) (n : Str) : 0 ≤ wt ws n ∧ wt ws n < q := by
  by_cases e : wt ws n = 0
  · rw [e]; exact ⟨Int.le_refl _, hq⟩
  · have := (h.mem _ (wt_mem e)).2
    exact ⟨Int.le_trans h0 this.1, this.2⟩
theorem Dct.perm {lo q : Int} {N : List Str} {ws vs : Ws} (h : Dct lo q N ws) (p : vs.Perm ws) : Dct lo q N vs := ⟨(p.map (·.1)).symm.nodup h.nd, fun x hx => h.mem x (p.mem_iff.mp hx)⟩
theorem wt_perm {ws vs : Ws} (h : (ws.map (·.1)).Nodup) (p : vs.Perm ws) (n : Str) : wt vs n = wt ws n := by
  have hv : (vs.map (·.1)).Nodup := (p.map (·.1)).symm.nodup h
  by_cases e : n ∈ vs.map (·.1)
  · obtain ⟨x, hx, rfl⟩ := List.mem_map.mp e
    rw [mem_wt hv hx, mem_wt h (p.mem_iff.mp hx)]
  · rw [wt_not e, wt_not (fun z => e ((p.map (·.1)).mem_iff.mpr z))]
theorem mem_iff_wt {q : Int} {N : List Str} {ws : Ws} (h : Dct 1 q N ws) (p : Str × Int) : p ∈ ws ↔ wt ws p.1 = p.2 ∧ p.2 ≠ 0 := by
  constructor
  · intro hp
    refine ⟨mem_wt h.nd hp, ?_⟩
    have := (h.mem p hp).2.1; omega
  · rintro ⟨h1, h2⟩
    have := wt_mem (ws := ws) (n := p.1) (by rw [h1]; exact h2)
    rw [h1] at this
    exact this
theorem nd_of_keys {ws : Ws} (h : (ws.map (·.1)).Nodup) : ws.Nodup := by
  rw [List.nodup_iff_pairwise_ne] at h ⊢
  rw [List.pairwise_map] at h
  exact h.imp fun {a b} z e => z (by rw [e])
/-- two such dicts with the same weights have the same pairs -/
theorem Dct.same {q q' : Int} {N N' : List Str} {ws vs : Ws} (h : Dct 1 q N ws) (h' : Dct 1 q' N' vs) (e : ∀ n, wt ws n = wt vs n) : ws.Perm vs := by
  rw [List.perm_ext_iff_of_nodup (nd_of_keys h.nd) (nd_of_keys h'.nd)]
  intro p
  rw [mem_iff_wt h, mem_iff_wt h', e]
/-! ### texts in order -/
def stLt (x y : Str) : Prop := x.cps.toList < y.cps.toList
theorem str_ext {x y : Str} (h : x.cps.toList = y.cps.toList) : x = y := PySem.W.str_of_cps h
theorem stLe_antisymm {x y : Str} (h1 : stLe x y) (h2 : stLe y x) : x = y := str_ext (List.le_antisymm h1 h2)
theorem stLt_of {x y : Str} (h : stLe x y) (ne : x ≠ y) : stLt x y := by
  unfold stLt
  rcases Classical.em (x.cps.toList < y.cps.toList) with z | z
  · exact z
  · exact absurd (stLe_antisymm h (List.not_lt.mp z)) ne
theorem stLt.le {x y : Str} (h : stLt x y) : stLe x y := List.le_of_lt h
theorem stLt.ne {x y : Str} (h : stLt x y) : x ≠ y := fun e => by subst e; exact List.lt_irrefl _ h
/-! ### sums: sorted names, weights from 1 to q - 1 -/
structure Canon (q : Int) (N : List Str) (ws : Ws) : Prop where
  srt : ws.Pairwise fun a b => stLt a.1 b.1
  d : Dct 1 q N ws
theorem Canon.uniq {q q' : Int} {N N' : List Str} {ws vs : Ws} (h : Canon q N ws) (h' : Canon q' N' vs) (e : ∀ n, wt ws n = wt vs n) : ws = vs := by
  refine List.Perm.eq_of_pairwise (le := fun a b => stLt a.1 b.1) (fun a b _ _ h1 h2 => ?_) h.srt h'.srt (h.d.same h'.d e)
  exact absurd (stLe_antisymm h1.le h2.le) h1.ne
theorem canon_sorted {q : Int} {N : List Str} {ws : Ws} (h : Dct 1 q N ws) (s : ws.Pairwise fun a b => stLe a.1 b.1) : Canon q N ws := by
  refine ⟨?_, h⟩
  have nd := h.nd
  rw [List.nodup_iff_pairwise_ne, List.pairwise_map] at nd
  exact (s.and nd).imp fun {a b} z => stLt_of z.1 z.2
theorem rising_le : ∀ (l : List Str) (p : Str), PyProof.Rows.risingS p l = true → (∀ x ∈ l, stLe p x) ∧ l.Pairwise stLe
  | [], _, _ => ⟨(fun x h => by cases h), List.Pairwise.nil⟩
  | x :: r, p, h => by
    unfold PyProof.Rows.risingS at h
    rw [Bool.and_eq_true] at h
    obtain ⟨h1, h2⟩ := h
    obtain ⟨a, b⟩ := rising_le r x h2
    have hp : stLe p x := by
      unfold stLe
      refine List.not_lt.mp fun z => ?_
      rw [PyProof.Rows.ltCps_eq, decide_eq_true z] at h1
      cases h1
    exact ⟨fun y hy => (List.mem_cons.mp hy).elim (fun e => by rw [e]; exact hp) fun e => List.le_trans hp (a y e), List.pairwise_cons.mpr ⟨a, b⟩⟩
theorem sorted_le {l : List Str} (h : PyProof.Rows.sortedS l = true) : l.Pairwise stLe := by
  cases l with
  | nil => exact List.Pairwise.nil
  | cons x r => exact List.pairwise_cons.mpr (rising_le r x h)
/-- the sorted names of a sum's model are the sum's names -/
theorem sorted_names {q q' : Int} {N N' : List Str} {ws kvs : Ws} {ys : List Str} (h : Canon q N ws) (h' : Dct 1 q' N' kvs) (e : ∀ n, wt ws n = wt kvs n) (p : ys.Perm (kvs.map (·.1))) (s : ys.Pairwise stLe) : ys = ws.map (·.1) := by
  have p2 : (ws.map (·.1)).Perm (kvs.map (·.1)) := (h.d.same h' e).map _
  refine List.Perm.eq_of_pairwise (le := stLe) (fun a b _ _ h1 h2 => stLe_antisymm h1 h2) s ?_ (p.trans p2.symm)
  rw [List.pairwise_map]
  exact h.srt.imp fun z => z.le
end QM
set_option Elab.async false
set_option maxRecDepth 100000
set_option maxHeartbeats 4000000
namespace QR
open PySem L2
theorem Same.new {H : Hp} {p : Addr} {o : HO} (h : H p = none) : Same H (upd H p o) := fun b u e => by rw [upd_ne (ne_of_none e h)]; exact e
/-- a change of what H does not know -/
theorem Same.mut {H H' : Hp} {p : Addr} {o : HO} (s : Same H H') (h : H p = none) : Same H (upd H' p o) := fun b u e => by rw [upd_ne (ne_of_none e h)]; exact s b u e
theorem Same.tup {K : PySem.W.Frag} {H H' : Hp} {a : Addr} {xs : List V} (e : Same H H') (h : SqT K H a xs) : SqT K H' a xs := by
  rcases h with (h | ⟨o, h⟩) | h
  · exact .inl (.inl (e _ _ h))
  · exact .inl (.inr ⟨o, e _ _ h⟩)
  · exact .inr h
theorem sz_le {n : Nat} (h : n ≤ 100000) : n ≤ sizeLine := Nat.le_trans h (by decide)
theorem sz_lt {n : Nat} (h : n < 100000) : n < sizeLine := Nat.lt_of_lt_of_le h (by decide)
theorem filterMap_succ {α : Type} (f : Nat → Option α) (i : Nat) : (List.range (i + 1)).filterMap f = (List.range i).filterMap f ++ (f i).toList := by
  rw [List.range_succ, List.filterMap_append]
  cases e : f i <;> simp [e]
theorem filterMap_len {α : Type} (f : Nat → Option α) (i : Nat) : ((List.range i).filterMap f).length ≤ i := by
  have := List.length_filterMap_le f (List.range i)
  rw [List.length_range] at this
  exact this
section
variable {J : It} {n : Nat} {G : Hp → Prop} {Y : Nat → Hp → V → Hp → Prop} {g : TG} {tt : TT} {te tk tv : TE} {vs : List Nat} {σ : L2.St} {H1 : Hp} {D : Addr} {Qd : Hp → Prop}
/-- [e for target in iter if ..] that leaves what stood before as it was: f i is what the i-th turn gives -/
theorem lc_filter (w : Walk J n G Y) (f : Nat → Option V) (hG : ∀ H, Same H1 H → G H) (hD : H1 D = none) (hn : n ≤ 100000)
    (hs : ∀ i x H H', i < n → Same H1 H → Y i H x H' → ∀ (P : V → Hp → Prop) (P0 : Hp → Prop), (∀ y H4, f i = some y → Same H H4 → P y H4) → (∀ H3, f i = none → Same H H3 → P0 H3) →
      g x (wipe σ vs) H' fun σ2 H2 => wipe σ2 vs = wipe σ vs ∧ tt σ2 H2 fun b H3 => if b = true then te σ2 H3 P else P0 H3)
    (hd : ∀ H, Same H1 H → H D = some (.lst ((List.range n).filterMap f)) → Qd H) :
    ∃ W : Nat → Nat → Hp → Prop, (∃ m, W 0 m (upd H1 D (.lst []))) ∧ ∀ i m H, W i m H →
      (J.stop i H ∧ Qd H) ∨ (J.go i H ∧ ∃ Nx : Hp → Prop, (∀ H', Nx H' → ∃ m', m' < m ∧ W (i + 1) m' H') ∧ ∀ x H', J.yld i H x H' → g x (wipe σ vs) H' fun σ2 H2 => wipe σ2 vs = wipe σ vs ∧ tt σ2 H2 fun b H3 =>
        if b = true then te σ2 H3 fun y H4 => ∃ acc, H4 D = some (.lst acc) ∧ acc.length < sizeLine ∧ Nx (upd H4 D (.lst (acc ++ [y]))) else Nx H3) := by
  refine lc_it w (fun i H => Same H1 H ∧ H D = some (.lst ((List.range i).filterMap f))) ⟨Same.new hD, upd_same⟩ (fun i H _ p => hG H p.1) (fun i x H H' hi p y => ?_) fun H p => hd H p.1 p.2
  refine hs i x H H' hi p.1 y _ _ (fun v H4 q1 q2 => ⟨_, q2 _ _ p.2, sz_lt (Nat.lt_of_le_of_lt (filterMap_len f i) (Nat.lt_of_lt_of_le hi hn)), ?_, ?_⟩) (fun H3 q1 q2 => ⟨p.1.trans q2, ?_⟩)
  · exact Same.mut (p.1.trans q2) hD
  · rw [upd_same, filterMap_succ, q1]; rfl
  · rw [filterMap_succ, q1, q2 _ _ p.2]; simp
/-- without tests: ys item by item -/
theorem lc_map (w : Walk J n G Y) (ys : List V) (hl : ys.length = n) (hG : ∀ H, Same H1 H → G H) (hD : H1 D = none) (hn : n ≤ 100000)
    (hs : ∀ i x H H', i < n → Same H1 H → Y i H x H' → ∀ (P : V → Hp → Prop), (∀ y H4, ys[i]? = some y → Same H H4 → P y H4) →
      g x (wipe σ vs) H' fun σ2 H2 => wipe σ2 vs = wipe σ vs ∧ te σ2 H2 P)
    (hd : ∀ H, Same H1 H → H D = some (.lst ys) → Qd H) :
    ∃ W : Nat → Nat → Hp → Prop, (∃ m, W 0 m (upd H1 D (.lst []))) ∧ ∀ i m H, W i m H →
      (J.stop i H ∧ Qd H) ∨ (J.go i H ∧ ∃ Nx : Hp → Prop, (∀ H', Nx H' → ∃ m', m' < m ∧ W (i + 1) m' H') ∧ ∀ x H', J.yld i H x H' → g x (wipe σ vs) H' fun σ2 H2 => wipe σ2 vs = wipe σ vs ∧ tYes σ2 H2 fun b H3 =>
        if b = true then te σ2 H3 fun y H4 => ∃ acc, H4 D = some (.lst acc) ∧ acc.length < sizeLine ∧ Nx (upd H4 D (.lst (acc ++ [y]))) else Nx H3) := by
  refine lc_it w (fun i H => Same H1 H ∧ H D = some (.lst (ys.take i))) ⟨Same.new hD, upd_same⟩ (fun i H _ p => hG H p.1) (fun i x H H' hi p y => ?_) fun H p => hd H p.1 (by rw [p.2, ← hl, List.take_length])
  refine hs i x H H' hi p.1 y _ (fun v H4 q1 q2 => ⟨_, q2 _ _ p.2, sz_lt ?_, ?_, ?_⟩)
  · rw [List.length_take]; omega
  · exact Same.mut (p.1.trans q2) hD
  · rw [upd_same, List.take_add_one, q1]; rfl
/-- a dict comprehension over any walk: Pv by the turn and the heap (the new dict at D within) -/
theorem dc_it (w : Walk J n G Y) (Pv : Nat → Hp → Prop) (h0 : Pv 0 (upd H1 D (.dK []))) (hG : ∀ i H, i ≤ n → Pv i H → G H)
    (hs : ∀ i x H H', i < n → Pv i H → Y i H x H' → g x (wipe σ vs) H' fun σ2 H2 => wipe σ2 vs = wipe σ vs ∧ tt σ2 H2 fun b H3 =>
      if b = true then tk σ2 H3 fun y H4 => tv σ2 H4 fun z H5 => ∃ kvs k, y = kV k ∧ H5 D = some (.dK kvs) ∧ kvs.length < sizeLine ∧ Pv (i + 1) (upd H5 D (.dK (putK kvs k z))) else Pv (i + 1) H3) (hd : ∀ H, Pv n H → Qd H) :
    ∃ W : Nat → Nat → Hp → Prop, (∃ m, W 0 m (upd H1 D (.dK []))) ∧ ∀ i m H, W i m H →
      (J.stop i H ∧ Qd H) ∨ (J.go i H ∧ ∃ Nx : Hp → Prop, (∀ H', Nx H' → ∃ m', m' < m ∧ W (i + 1) m' H') ∧ ∀ x H', J.yld i H x H' → g x (wipe σ vs) H' fun σ2 H2 => wipe σ2 vs = wipe σ vs ∧ tt σ2 H2 fun b H3 =>
        if b = true then tk σ2 H3 fun y H4 => tv σ2 H4 fun z H5 => ∃ kvs k, y = kV k ∧ H5 D = some (.dK kvs) ∧ kvs.length < sizeLine ∧ Nx (upd H5 D (.dK (putK kvs k z))) else Nx H3) := by
  refine ⟨fun i m H => m = n - i ∧ i ≤ n ∧ Pv i H, ⟨n, by simp, Nat.zero_le _, h0⟩, ?_⟩
  rintro i m H ⟨rfl, hi, p⟩
  have q := hG i H hi p
  by_cases hlt : i < n
  · refine .inr ⟨w.goes i H hlt q, Pv (i + 1), fun H' p' => ⟨n - (i + 1), by omega, rfl, hlt, p'⟩, fun x H' y => hs i x H H' hlt p (w.yields i H x H' hlt q y)⟩
  · have e : i = n := by omega
    subst e
    exact .inl ⟨w.stops H q, hd H p⟩
end
end QR
set_option Elab.async false
set_option maxRecDepth 100000
set_option maxHeartbeats 4000000
namespace Q
open PySem L2 QR QM
/-! ### the text by places -/
def top (i : Nat) : Stmt := PySem.Challenge.pw_quietsums_k11_sums_by_numbers.main.body.getD i (.Pass ⟨0, 0, 0, 0⟩)
abbrev sIsInteger : Stmt := top 15
abbrev sIsNumber : Stmt := top 16
abbrev sIsName : Stmt := top 17
abbrev sIsWorld : Stmt := top 18
abbrev sIsSum : Stmt := top 19
abbrev sWantModulus : Stmt := top 20
abbrev sInit : Stmt := inClass (top 22) 0
abbrev sModulus : Stmt := inClass (top 22) 3
abbrev sConstant : Stmt := inClass (top 22) 4
abbrev sIsConstant : Stmt := inClass (top 22) 5
abbrev sWeights : Stmt := inClass (top 22) 6
abbrev sNames : Stmt := inClass (top 22) 7
abbrev sWeight : Stmt := inClass (top 22) 8
abbrev sWantAlike : Stmt := inClass (top 22) 9
abbrev sAdd : Stmt := inClass (top 22) 10
abbrev sNeg : Stmt := inClass (top 22) 11
abbrev sSub : Stmt := inClass (top 22) 12
abbrev sMul : Stmt := inClass (top 22) 13
abbrev sAt : Stmt := inClass (top 22) 14
abbrev sPut : Stmt := inClass (top 22) 15
abbrev sLRng : Stmt := top 24
abbrev sLDraw : Stmt := top 25
abbrev sLSomeNames : Stmt := top 27
abbrev sLDrawn : Stmt := top 28
abbrev sLAdded : Stmt := top 29
abbrev sLReplaced : Stmt := top 30
abbrev sLValue : Stmt := top 31
abbrev sLTells : Stmt := top 32
abbrev sLRight : Stmt := top 33
abbrev sLValuesRight : Stmt := top 34
abbrev sLaw : Stmt := top 35
/-- a def of the text as it stands behind the top -/
structure FT (K : PySem.W.Frag) (x qual : Str) (st : Stmt) (ps : List Str) where
  f : Addr
  fd : FuncData
  F : Fun K x qual st f fd
  b : Binds K fd ps []
theorem FT.kp {K : PySem.W.Frag} {x qual : Str} {st : Stmt} {ps : List Str} (T : FT K x qual st ps) : PySem.W.keepIn K (.ref T.f) = true := T.F.kp
/-- built-in names that the module doesn't bind -/
structure Blt (mg : Str → Option Value) : Prop where
  isinstance : mg "isinstance" = none
  int : mg "int" = none
  bool : mg "bool" = none
  str : mg "str" = none
  len : mg "len" = none
  all : mg "all" = none
  dict : mg "dict" = none
  list : mg "list" = none
  sorted : mg "sorted" = none
  max : mg "max" = none
  min : mg "min" = none
  abs : mg "abs" = none
  divmod : mg "divmod" = none
  range : mg "range" = none
  sum : mg "sum" = none
section
variable {P : Program} {w : World} {K : PySem.W.Frag} {mg : Str → Option Value} {base : Heap}
/-! ### is_integer, is_number -/
def spIsInteger : Sp := fun vs H Q _ => ∃ i : Int, vs = [.int i] ∧ Q (.bl true) H
theorem scIsInteger : FnScope ["value"] ["value"] (defScope sIsInteger) := ⟨rfl, rfl, rfl, by decide +kernel, rfl, by decide +kernel, by decide +kernel⟩
theorem ok_isInteger (T : FT K "is_integer" "is_integer" sIsInteger ["value"]) (B : Blt mg) : FnOk P w K mg base CX0 1 T.f T.fd ["value"] spIsInteger := by
  refine T.F.ok scIsInteger (fun vs H Q E h => ?_) (fun cdv A outer s H vs Q E hr h => ?_)
  · obtain ⟨i, rfl, _⟩ := h
    rfl
  · obtain ⟨i, rfl, k⟩ := h
    refine ⟨_, pss_one (ps_ret (pe_and (pe_callB call_isi (by rfl) B.isinstance (by decide +kernel) (pa_cons (pv 0) (pa_cons (pe_bltn (v := .ty "int") (by rfl) B.int (by decide +kernel) rfl) pa_nil)))
      (pe_one (pe_not (pe_callB call_isi (by rfl) B.isinstance (by decide +kernel) (pa_cons (pv 0) (pa_cons (pe_bltn (v := .ty "bool") (by rfl) B.bool (by decide +kernel) rfl) pa_nil))))))), ?_⟩
    refine ⟨_, rfl, _, _, _, _, true, rfl, .ty _, .base (.int i), kit_ty (by decide +kernel), true, rfl, ?_⟩
    refine iteT ?_
    refine ⟨_, rfl, _, _, _, _, false, rfl, .ty _, .base (.int i), kit_ty (by decide +kernel), false, rfl, ?_⟩
    exact k
def spIsNumber : Sp := fun vs H Q _ => ∃ i q : Int, vs = [.int i, .int q] ∧ 0 ≤ i ∧ i < q ∧ Q (.bl true) H
theorem scIsNumber : FnScope ["value", "modulus"] ["value", "modulus"] (defScope sIsNumber) := ⟨rfl, rfl, rfl, by decide +kernel, rfl, by decide +kernel, by decide +kernel⟩
theorem ok_isNumber (T : FT K "is_number" "is_number" sIsNumber ["value", "modulus"]) (TI : FT K "is_integer" "is_integer" sIsInteger ["value"]) (gI : mg "is_integer" = some (.ref TI.f)) (B : Blt mg) : FnOk P w K mg base CX0 2 T.f T.fd ["value", "modulus"] spIsNumber := by
  refine T.F.ok scIsNumber (fun vs H Q E h => ?_) (fun cdv A outer s H vs Q E hr h => ?_)
  · obtain ⟨i, q, rfl, _⟩ := h
    rfl
  · obtain ⟨i, q, rfl, h0, h1, k⟩ := h
    refine ⟨_, pss_one (ps_ret (pe_and (pe_call (ok_isInteger TI B) hr (by rfl) gI TI.kp TI.b .nil pass0 (pa_cons (pv 0) pa_nil)) (pe_one (pe_chain op_le op_lt pe_int (pv 0) (pv 1))))), ?_⟩
    refine ⟨_, rfl, i, rfl, true, rfl, ?_⟩
    refine iteT ?_
    refine ⟨_, rfl, _, _, rfl, rfl, _, rfl, ?_⟩
    rw [decide_eq_true h0]
    refine iteT ?_
    refine ⟨_, rfl, _, _, rfl, rfl, ?_⟩
    show Q (.bl (decide (i < q))) H
    rw [decide_eq_true h1]
    exact k
end
end Q
set_option Elab.async false
set_option maxRecDepth 100000
set_option maxHeartbeats 4000000
namespace Q
open PySem L2 QR QM
abbrev lettersS : Str := "abcdefghijklmnopqrstuvwxyz"
abbrev signsS : Str := "abcdefghijklmnopqrstuvwxyz0123456789"
/-- a name -/
structure IsNm (n : Str) : Prop where
  len : 1 ≤ n.cps.size ∧ n.cps.size ≤ 12
  hd : ∀ c, n.cps[0]? = some c → c ∈ lettersS.cps.toList
  all : ∀ c ∈ n.cps.toList, c ∈ signsS.cps.toList
/-- the module's constants -/
structure Cst (K : PySem.W.Frag) (mg : Str → Option Value) : Prop where
  letters : ∃ t, mg "LETTERS" = some (.str lettersS t)
  signs : ∃ t, mg "NAME_SIGNS" = some (.str signsS t)
  longest : ∃ t, mg "LONGEST_NAME" = some (.int 12 t)
  moduli : ∃ (a : Addr), mg "MODULI" = some (.ref a) ∧ ∀ H : Hp, SqT K H a [.int 2, .int 3, .int 5, .int 7, .int 11, .int 13]
section
variable {P : Program} {w : World} {K : PySem.W.Frag} {mg : Str → Option Value} {base : Heap}
/-- in comes a name, out comes True -/
def spIsName : Sp := fun vs H Q _ => ∃ n : Str, vs = [.str n] ∧ IsNm n ∧ ∀ H', Same H H' → Q (.bl true) H'
theorem scIsName : FnScope ["value", "sign"] ["value"] (defScope sIsName) := ⟨rfl, rfl, rfl, by decide +kernel, rfl, by decide +kernel, by decide +kernel⟩
theorem ok_isName (T : FT K "is_name" "is_name" sIsName ["value"]) (B : Blt mg) (C : Cst K mg) : FnOk P w K mg base CX0 1 T.f T.fd ["value"] spIsName := by
  obtain ⟨t1, hlet⟩ := C.letters
  obtain ⟨t2, hsig⟩ := C.signs
  obtain ⟨t3, hlon⟩ := C.longest
  refine T.F.ok scIsName (fun vs H Q E h => ?_) (fun cdv A outer s H vs Q E hr h => ?_)
  · obtain ⟨i, rfl, _⟩ := h
    rfl
  · obtain ⟨n, rfl, hn, k⟩ := h
    refine ⟨_, pss_cons (ps_if (PW.pt (pw_or (pt_not (pt_val (pe_callB call_isi (by rfl) B.isinstance (by decide +kernel) (pa_cons (pv 0) (pa_cons (pe_bltn (v := .ty "str") (by rfl) B.str (by decide +kernel) rfl) pa_nil)))))
        (pw_or (pt_not (pt_chain op_le op_le pe_int (pe_callB call_len_str (by rfl) B.len PySem.boot_len (pa_cons (pv 0) pa_nil)) (pe_glob (v := .int 12) rfl hlon ⟨_, rfl⟩)))
        (pw_or1 (pt_cmpR op_notIn_sign (pe_item_str (pv 0) pe_int (fun _ _ => rfl)) (pe_glob (v := .str lettersS) rfl hlet ⟨_, rfl⟩) (by rfl))))))
        (pss_one (ps_ret pe_bl)) pss_nil)
      (pss_one (ps_ret (pe_callB (cr_all rfl) (by rfl) B.all (by decide +kernel) (pa_cons (pe_lc (own := [("sign", 1)]) (g := gName 1) (tt := tYes) rfl scIsName.nd (pi_str (pv 0)) (blkOk_by (own := [("sign", 1)]) (N := ["value", "sign"]) (sc := defScope sIsName) (by decide +kernel))
        (fun _ _ _ _ _ => pg_name (i := 1) scIsName.nd rfl (Or.inl rfl)) (fun _ _ _ _ _ => pts_nil) (fun _ _ _ _ _ => pe_cmpR op_in_sign (pv 1) (pe_glob (v := .str signsS) rfl hsig ⟨_, rfl⟩) (by rfl))) pa_nil)))), ?_⟩
    have hl := hn.len
    obtain ⟨c0, hc0⟩ : ∃ c, n.cps[0]? = some c := ⟨n.cps[0], by simp⟩
    refine ⟨_, rfl, _, _, _, _, true, rfl, .ty _, .base (.str n), kit_ty (by decide +kernel), true, rfl, ?_⟩
    refine iteF ?_
    refine ⟨_, rfl, _, rfl, sz_le (by show n.cps.size ≤ 100000; omega), _, _, rfl, rfl, _, rfl, ?_⟩
    rw [decide_eq_true (show (1 : Int) ≤ (n.length : Int) by show (1 : Int) ≤ (n.cps.size : Int); omega)]
    refine iteT ?_
    refine ⟨_, _, rfl, rfl, _, rfl, ?_⟩
    rw [decide_eq_true (show (n.length : Int) ≤ 12 by show (n.cps.size : Int) ≤ 12; omega)]
    refine iteF ?_
    refine ⟨_, rfl, n, 0, c0, rfl, rfl, by decide, by decide, by show (0 : Int) < (n.cps.size : Int); omega, hc0, c0, lettersS, rfl, rfl, _, rfl, ?_⟩
    rw [decide_eq_true (hn.hd c0 hc0)]
    refine iteF ?_
    refine ⟨_, rfl, n, rfl, fun D hD => lc_map walk_str (List.replicate n.cps.size (.bl true)) (List.length_replicate ..) (fun _ _ => True.intro) hD (by omega) (fun i x H1 H' hi s1 y P1 kp => ?_) fun H1 s1 hD1 => ?_⟩
    · obtain ⟨rfl, c, hc, rfl⟩ := y
      refine ⟨rfl, ?_⟩
      refine ⟨_, rfl, c, signsS, rfl, rfl, ?_⟩
      rw [decide_eq_true (hn.all c (by have := Array.mem_of_getElem? hc; simpa using this))]
      exact kp _ _ (by rw [List.getElem?_replicate, if_pos hi]) (Same.refl _)
    · refine ⟨D, List.replicate n.cps.size true, rfl, SqL.of (by rw [hD1, List.map_replicate]), ?_⟩
      have e : (List.replicate n.cps.size true).all id = true := by simp
      show Q (.bl ((List.replicate n.cps.size true).all id)) H1
      rw [e]
      exact k _ s1
end
end Q
set_option Elab.async false
set_option maxRecDepth 100000
set_option maxHeartbeats 4000000
namespace Q
open PySem L2 QR QM
abbrev gPair (K : PySem.W.Frag) (i j : Nat) : TG := gTup K 2 (gCons (gName i) (gCons (gName j) gNil))
theorem Blt.rg {mg : Str → Option Value} (B : Blt mg) : mg "range" = none := B.range
section
variable {P : Program} {w : World} {K : PySem.W.Frag} {mg : Str → Option Value} {base : Heap}
/-- names of the module -/
structure T1 (K : PySem.W.Frag) (mg : Str → Option Value) where
  isInteger : FT K "is_integer" "is_integer" sIsInteger ["value"]
  gIsInteger : mg "is_integer" = some (.ref isInteger.f)
  isNumber : FT K "is_number" "is_number" sIsNumber ["value", "modulus"]
  gIsNumber : mg "is_number" = some (.ref isNumber.f)
  isName : FT K "is_name" "is_name" sIsName ["value"]
  gIsName : mg "is_name" = some (.ref isName.f)
  isWorld : FT K "is_world" "is_world" sIsWorld ["value", "modulus"]
  gIsWorld : mg "is_world" = some (.ref isWorld.f)
  isSum : FT K "is_sum" "is_sum" sIsSum ["value", "modulus"]
  gIsSum : mg "is_sum" = some (.ref isSum.f)
  wantModulus : FT K "want_modulus" "want_modulus" sWantModulus ["value"]
  gWantModulus : mg "want_modulus" = some (.ref wantModulus.f)
  B : Blt mg
  C : Cst K mg
def IsWd (q : Int) (ws : Ws) : Prop := ∀ p ∈ ws, IsNm p.1 ∧ 0 ≤ p.2 ∧ p.2 < q
theorem dk_get {ws : Ws} {i : Nat} (h : i < (dk ws).length) : ∃ p : Str × Int, ws[i]? = some p ∧ p ∈ ws ∧ (dk ws)[i]? = some (Sum.inr p.1, V.int p.2) := by
  rw [dk_len] at h
  refine ⟨ws[i], List.getElem?_eq_getElem h, List.getElem_mem h, ?_⟩
  unfold dk
  rw [List.getElem?_map, List.getElem?_eq_getElem h]
  rfl
theorem Same.unlock {H H1 : Hp} {d : Addr} {od : Obj} {u : HO} (hd : H d = some u) (s : Same (upd H d (.frz od u)) H1) : Same H (upd H1 d u) := fun b o hb => by
  by_cases z : b = d
  · subst z
    rw [upd_same, ← hb, hd]
  · rw [upd_ne z]; exact s _ _ (by rw [upd_ne z]; exact hb)
theorem ypair_dk {ws : Ws} {i : Nat} {H H' : Hp} {x : V} (hi : i < (dk ws).length) (y : YPair (fun i => (dk ws)[i]?.map fun kv => kV kv.1) (fun i => (dk ws)[i]?.map Prod.snd) i H x H') :
    ∃ (p : Str × Int) (T : Addr), ws[i]? = some p ∧ p ∈ ws ∧ x = .ref T ∧ H T = none ∧ H' = upd H T (.tup [.str p.1, .int p.2]) := by
  obtain ⟨p, h1, h2, h3⟩ := dk_get hi
  obtain ⟨T0, x0, y0, rfl, hT, rfl, e1, e2⟩ := y
  have e1' : some (kV (Sum.inr p.1)) = some x0 := by rw [← e1]; show _ = Option.map _ ((dk ws)[i]?); rw [h3]; rfl
  have e2' : some (V.int p.2) = some y0 := by rw [← e2]; show _ = Option.map _ ((dk ws)[i]?); rw [h3]; rfl
  cases e1'
  cases e2'
  exact ⟨p, T0, h1, h2, rfl, hT, rfl⟩
/-- in comes a dict from names to numbers of q, out comes True -/
def spIsWorld : Sp := fun vs H Q _ => ∃ (d : Addr) (q : Int) (ws : Ws), vs = [.ref d, .int q] ∧ H d = some (.dK (dk ws)) ∧ IsWd q ws ∧ ws.length ≤ 1000 ∧ ∀ H', Same H H' → Q (.bl true) H'
theorem scIsWorld : FnScope ["value", "modulus", "name", "number"] ["value", "modulus"] (defScope sIsWorld) := ⟨rfl, rfl, rfl, by decide +kernel, rfl, by decide +kernel, by decide +kernel⟩
theorem ok_isWorld (T : T1 K mg) : FnOk P w K mg base CX0 3 T.isWorld.f T.isWorld.fd ["value", "modulus"] spIsWorld := by
  have GN : FnOk P w K mg base CX0 1 T.isName.f T.isName.fd ["value"] spIsName := ok_isName T.isName T.B T.C
  have GU : FnOk P w K mg base CX0 2 T.isNumber.f T.isNumber.fd ["value", "modulus"] spIsNumber := ok_isNumber T.isNumber T.isInteger T.gIsInteger T.B
  refine T.isWorld.F.ok scIsWorld (fun vs H Q E h => ?_) (fun cdv A outer s H vs Q E hr h => ?_)
  · obtain ⟨d, q, ws, rfl, _⟩ := h
    rfl
  · obtain ⟨d, q, ws, rfl, hd, hw, hl, k⟩ := h
    have hr1 : Room 1 _ := hr.mono (by decide)
    refine ⟨_, pss_cons (ps_if (pt_not (pt_val (pe_callB call_isi (by rfl) T.B.isinstance (by decide +kernel) (pa_cons (pv 0) (pa_cons (pe_bltn (v := .ty "dict") (by rfl) T.B.dict (by decide +kernel) rfl) pa_nil)))))
        (pss_one (ps_ret pe_bl)) pss_nil)
      (pss_one (ps_ret (pe_callB (cr_all rfl) (by rfl) T.B.all (by decide +kernel) (pa_cons (pe_lock (pe_lc (own := [("name", 2), ("number", 3)]) (g := gPair K 2 3) (tt := tYes) rfl scIsWorld.nd (pi_items (pv 0)) (blkOk_by (own := [("name", 2), ("number", 3)]) (N := ["value", "modulus", "name", "number"]) (sc := defScope sIsWorld) (by decide +kernel))
        (fun _ _ _ _ _ => pg_tup rfl (pgs_cons (pg_name (i := 2) scIsWorld.nd rfl (Or.inl rfl)) (pgs_cons (pg_name (i := 3) scIsWorld.nd rfl (Or.inl rfl)) pgs_nil))) (fun _ _ _ _ _ => pts_nil)
        (fun _ _ _ _ _ => pe_and (pe_call GN hr1 (by rfl) T.gIsName T.isName.kp T.isName.b .nil pass0 (pa_cons (pv 2) pa_nil)) (pe_one (pe_call GU hr (by rfl) T.gIsNumber T.isNumber.kp T.isNumber.b .nil pass0 (pa_cons (pv 3) (pa_cons (pv 1) pa_nil))))))) pa_nil)))), ?_⟩
    refine ⟨_, rfl, _, _, _, _, true, rfl, .ty _, .base (.dK hd), kit_ty (by decide +kernel), true, rfl, ?_⟩
    refine iteF ?_
    refine ⟨d, _, hd, True.intro, fun od => ?_⟩
    refine ⟨_, rfl, d, od, dk ws, rfl, upd_same, fun D hD => lc_map walk_items (List.replicate ws.length (.bl true)) (by rw [List.length_replicate, dk_len]) (fun H1 s1 => s1 _ _ upd_same) hD (by rw [dk_len]; omega) (fun i x H1 H' hi s1 y P1 kp => ?_) fun H1 s1 hD1 => ?_⟩
    · obtain ⟨p, T0, h1, h2, rfl, hT, rfl⟩ := ypair_dk hi y
      obtain ⟨w1, w2, w3⟩ := hw p h2
      refine ⟨T0, _, rfl, SqT.of upd_same, rfl, _, _, rfl, _, _, rfl, rfl, rfl, ?_⟩
      refine ⟨_, rfl, p.1, rfl, w1, fun H2 s2 => ⟨true, rfl, iteT ?_⟩⟩
      refine ⟨_, rfl, _, rfl, p.2, q, rfl, w2, w3, ?_⟩
      refine kp _ _ ?_ ((Same.new hT).trans s2)
      rw [List.getElem?_replicate, if_pos (by rw [dk_len] at hi; exact hi)]
    · refine ⟨s1 _ _ upd_same, ?_⟩
      have nDd : D ≠ d := fun z => by rw [z, upd_same] at hD; cases hD
      refine ⟨D, List.replicate ws.length true, rfl, SqL.of (by rw [upd_ne nDd, hD1, List.map_replicate]), ?_⟩
      have e : (List.replicate ws.length true).all id = true := by simp
      show Q (.bl ((List.replicate ws.length true).all id)) _
      rw [e]
      exact k _ (Same.unlock hd s1)
end
end Q
set_option Elab.async false
set_option maxRecDepth 100000
set_option maxHeartbeats 1000000
namespace QM
open PySem L2 QR
theorem nd_filter {α : Type} (p : α → Bool) {l : List α} (h : l.Nodup) : (l.filter p).Nodup := by
  rw [List.nodup_iff_pairwise_ne] at h ⊢
  exact List.Pairwise.filter _ h
/-! ### what Sum.__init__ keeps -/
def mkW (R : Ws) (ys : List Str) : Ws := (ys.filter fun n => decide (wt R n ≠ 0)).map fun n => (n, wt R n)
theorem mkW_nil (R : Ws) : mkW R [] = [] := rfl
theorem mkW_snoc (R : Ws) (ys : List Str) (n : Str) : mkW R (ys ++ [n]) = if wt R n ≠ 0 then mkW R ys ++ [(n, wt R n)] else mkW R ys := by
  unfold mkW
  rw [List.filter_append, List.map_append]
  by_cases e : wt R n = 0 <;> simp [e]
theorem mkW_keys (R : Ws) (ys : List Str) : (mkW R ys).map (·.1) = ys.filter fun n => decide (wt R n ≠ 0) := by
  unfold mkW
  rw [List.map_map]
  exact List.map_id' _
theorem mkW_not {R : Ws} {ys : List Str} {n : Str} (h : ¬ n ∈ ys) : ¬ n ∈ (mkW R ys).map (·.1) := by
  rw [mkW_keys]
  exact fun z => h (List.mem_filter.mp z).1
theorem mkW_len (R : Ws) (ys : List Str) : (mkW R ys).length ≤ ys.length := by
  unfold mkW
  rw [List.length_map]
  exact List.length_filter_le _ _
theorem mkW_dct {q : Int} {N : List Str} {R : Ws} (h : Dct 0 q N R) {ys : List Str} (hn : ys.Nodup) : Dct 1 q N (mkW R ys) := by
  refine ⟨?_, fun p hp => ?_⟩
  · rw [mkW_keys]; exact nd_filter _ hn
  · unfold mkW at hp
    obtain ⟨n, hn, rfl⟩ := List.mem_map.mp hp
    have h0 : wt R n ≠ 0 := of_decide_eq_true (List.mem_filter.mp hn).2
    have := h.mem _ (wt_mem h0)
    exact ⟨this.1, by have := this.2.1; show 1 ≤ wt R n; omega, this.2.2⟩
theorem mkW_wt {R : Ws} {ys : List Str} (hn : ys.Nodup) (hm : ∀ n, n ∈ R.map (·.1) → n ∈ ys) (n : Str) : wt (mkW R ys) n = wt R n := by
  have hnd : ((mkW R ys).map (·.1)).Nodup := by rw [mkW_keys]; exact nd_filter _ hn
  by_cases e : wt R n = 0
  · rw [e]
    refine wt_not fun z => ?_
    rw [mkW_keys] at z
    exact of_decide_eq_true (List.mem_filter.mp z).2 e
  · have h1 : n ∈ ys := hm n (List.mem_map_of_mem (f := (·.1)) (wt_mem e))
    have h2 : (n, wt R n) ∈ mkW R ys := by
      unfold mkW
      exact List.mem_map.mpr ⟨n, List.mem_filter.mpr ⟨h1, decide_eq_true e⟩, rfl⟩
    exact mem_wt hnd h2
theorem mkW_canon {q : Int} {N : List Str} {R : Ws} (h : Dct 0 q N R) {ys : List Str} (p : ys.Perm (R.map (·.1))) (s : ys.Pairwise stLe) : Canon q N (mkW R ys) ∧ ∀ n, wt (mkW R ys) n = wt R n := by
  have hn : ys.Nodup := p.symm.nodup h.nd
  refine ⟨canon_sorted (mkW_dct h hn) ?_, mkW_wt hn fun n z => p.mem_iff.mpr z⟩
  have s2 : ((mkW R ys).map (·.1)).Pairwise stLe := by rw [mkW_keys]; exact List.Pairwise.filter _ s
  rw [List.pairwise_map] at s2
  exact s2
theorem lk_of_mem {R : Ws} {n : Str} (h : n ∈ R.map (·.1)) : lk R n = some (wt R n) := by
  unfold wt
  cases e : lk R n with
  | none => exact absurd h (lk_none_iff.mp e)
  | some v => rfl
theorem valV_of_mem {R : Ws} {n : Str} (h : n ∈ R.map (·.1)) : valV (dk R) (Sum.inr n : Key) = some (V.int (wt R n)) := by rw [valV_dk, lk_of_mem h]; rfl
theorem putK_snoc {R : Ws} {n : Str} {v : Int} (h : ¬ n ∈ R.map (·.1)) : putK (dk R) (Sum.inr n : Key) (V.int v) = dk (R ++ [(n, v)]) := by rw [putK_dk, putS_new h]
theorem dk_keys (R : Ws) : (dk R).map (·.1) = (R.map (·.1)).map Sum.inr := by unfold dk; rw [List.map_map, List.map_map]; rfl
end QM
set_option Elab.async false
set_option maxRecDepth 100000
set_option maxHeartbeats 4000000
namespace Q
open PySem L2 QR QM
abbrev modsL : List Int := [2, 3, 5, 7, 11, 13]
def IsMod (q : Int) : Prop := q ∈ modsL
theorem IsMod.pos {q : Int} (h : IsMod q) : 2 ≤ q ∧ q ≤ 13 := by
  unfold IsMod at h
  simp only [List.mem_cons, List.not_mem_nil, or_false] at h
  omega
/-- the names that sums are made of -/
structure Nms (N : List Str) : Prop where
  len : N.length ≤ 60
  nm : ∀ n ∈ N, IsNm n
theorem isWd_of {lo q : Int} {N : List Str} {R : Ws} (h : Dct lo q N R) (h0 : 0 ≤ lo) (hN : Nms N) : IsWd q R := fun p hp => ⟨hN.nm _ (h.mem p hp).1, Int.le_trans h0 (h.mem p hp).2.1, (h.mem p hp).2.2⟩
/-! ### an instance of Sum -/
def fl (q : Int) (d : Addr) (c : Int) : List (Str × V) := [("own_modulus", .int q), ("own_weights", .ref d), ("own_constant", .int c)]
theorem fl_m (q : Int) (d : Addr) (c : Int) : (fl q d c).lookup ("own_modulus" : Str) = some (.int q) := rfl
theorem fl_w (q : Int) (d : Addr) (c : Int) : (fl q d c).lookup ("own_weights" : Str) = some (.ref d) := by
  have e : (("own_weights" : Str) == ("own_modulus" : Str)) = false := by decide +kernel
  unfold fl
  rw [List.lookup_cons, e]
  rfl
theorem fl_c (q : Int) (d : Addr) (c : Int) : (fl q d c).lookup ("own_constant" : Str) = some (.int c) := by
  have e : (("own_constant" : Str) == ("own_modulus" : Str)) = false := by decide +kernel
  have e2 : (("own_constant" : Str) == ("own_weights" : Str)) = false := by decide +kernel
  unfold fl
  rw [List.lookup_cons, e, List.lookup_cons, e2]
  rfl
theorem fl_no {q : Int} {d : Addr} {c : Int} {m : Str} (h1 : (m == ("own_modulus" : Str)) = false) (h2 : (m == ("own_weights" : Str)) = false) (h3 : (m == ("own_constant" : Str)) = false) : (fl q d c).lookup m = none := by
  unfold fl
  rw [List.lookup_cons, h1, List.lookup_cons, h2, List.lookup_cons, h3]
  rfl
theorem fl_made (q : Int) (d : Addr) (c : Int) : putF "own_constant" (.int c) (putF "own_weights" (.ref d) (putF "own_modulus" (.int q) [])) = fl q d c := by
  have e1 : ¬ (("own_modulus" : Str) = ("own_weights" : Str)) := by decide +kernel
  have e2 : ¬ (("own_modulus" : Str) = ("own_constant" : Str)) := by decide +kernel
  have e3 : ¬ (("own_weights" : Str) = ("own_constant" : Str)) := by decide +kernel
  have a1 : putF "own_modulus" (.int q) [] = [(("own_modulus" : Str), V.int q)] := rfl
  have a2 : putF "own_weights" (.ref d) [(("own_modulus" : Str), V.int q)] = [(("own_modulus" : Str), V.int q), ("own_weights", .ref d)] := by
    show (if ("own_modulus" : Str) = "own_weights" then _ else (("own_modulus" : Str), V.int q) :: putF "own_weights" (.ref d) []) = _
    rw [if_neg e1]; rfl
  rw [a1, a2]
  show (if ("own_modulus" : Str) = "own_constant" then _ else (("own_modulus" : Str), V.int q) :: (if ("own_weights" : Str) = "own_constant" then _ else (("own_weights" : Str), V.ref d) :: putF "own_constant" (.int c) [])) = _
  rw [if_neg e2, if_neg e3]; rfl
/-- a sum stands at p: its modulus, weights (sorted), constant -/
def SumAt (S : Addr) (H : Hp) (p : Addr) (q : Int) (N : List Str) (ws : Ws) (c : Int) : Prop :=
  ∃ dx d, H p = some (.ins S dx (fl q d c)) ∧ H d = some (.dK (dk ws)) ∧ Canon q N ws ∧ 0 ≤ c ∧ c < q
theorem SumAt.same {S : Addr} {H H' : Hp} {p : Addr} {q : Int} {N : List Str} {ws : Ws} {c : Int} (h : SumAt S H p q N ws c) (s : Same H H') : SumAt S H' p q N ws c := by
  obtain ⟨dx, d, h1, h2, h3⟩ := h
  exact ⟨dx, d, s _ _ h1, s _ _ h2, h3⟩
abbrev psInit : List Str := ["self", "modulus", "weights", "constant"]
/-- names of the module, with the class -/
structure T2 (K : PySem.W.Frag) (mg : Str → Option Value) extends T1 K mg where
  S : Addr
  gS : mg "Sum" = some (.ref S)
  cl : Cls K S
  nM : NoAttr K S "own_modulus"
  nW : NoAttr K S "own_weights"
  nC : NoAttr K S "own_constant"
  ha : PySem.W.findIn K (.ref S) "__class__" = some (some (.builtin "object.__class__"))
  hn : PySem.W.specialIn K (.builtin "object.__class__") "__get__" = some (some (.builtin "getset_descriptor.__get__"))
  htk : PySem.W.takesIn K (.builtin "object.__class__") = some true
  hm : PySem.W.mroIn K S (.type "object") = some true
  sf : PySem.W.selfFirst K S = true
  fI : Addr
  fdI : FuncData
  FI : FunD K "__init__" "Sum.__init__" (defArgs sInit) (defBody sInit) (defScope sInit) [.int 0] [] fI fdI
  MI : Mk K S fI
  bI : Binds K fdI psInit []
  bI0 : ∃ ds, Vals [.int 0] ds ∧ Binds K fdI psInit ds
section
variable {P : Program} {w : World} {K : PySem.W.Frag} {mg : Str → Option Value} {base : Heap}
theorem T2.ty (T : T2 K mg) {H : Hp} {a dx : Addr} {fs : List (Str × V)} (e : H a = some (.ins T.S dx fs)) : TyX K H (.ref a) (.ref T.S) := .base (.ins e T.cl T.ha T.hn T.htk T.hm)
theorem kit_self {K : PySem.W.Frag} {C : Addr} : PySem.W.kitOne K (.ref C) (.ref C) = some true := by unfold PySem.W.kitOne; simp
/-! ### want_modulus -/
def spWantModulus : Sp := fun vs H Q _ => ∃ q : Int, vs = [.int q] ∧ IsMod q ∧ Q .non H
theorem scWantModulus : FnScope ["value"] ["value"] (defScope sWantModulus) := ⟨rfl, rfl, rfl, by decide +kernel, rfl, by decide +kernel, by decide +kernel⟩
theorem mod_in {q : Int} (h : IsMod q) : inV (.int q) [.int 2, .int 3, .int 5, .int 7, .int 11, .int 13] = true := by
  unfold IsMod at h
  simp only [List.mem_cons, List.not_mem_nil, or_false] at h
  rcases h with rfl | rfl | rfl | rfl | rfl | rfl <;> decide
theorem ok_wantModulus (T : T1 K mg) : FnOk P w K mg base CX0 2 T.wantModulus.f T.wantModulus.fd ["value"] spWantModulus := by
  have GI : FnOk P w K mg base CX0 1 T.isInteger.f T.isInteger.fd ["value"] spIsInteger := ok_isInteger T.isInteger T.B
  obtain ⟨am, hmod, hsq⟩ := T.C.moduli
  refine T.wantModulus.F.ok scWantModulus (fun vs H Q E h => ?_) (fun cdv A outer s H vs Q E hr h => ?_)
  · obtain ⟨q, rfl, _⟩ := h
    rfl
  · obtain ⟨q, rfl, hq, k⟩ := h
    refine ⟨_, pss_one (ps_if (PW.pt (pw_or (pt_not (pt_val (pe_call GI hr (by rfl) T.gIsInteger T.isInteger.kp T.isInteger.b .nil pass0 (pa_cons (pv 0) pa_nil))))
      (pw_or1 (pt_cmpR op_notIn_seq (pv 0) (pe_glob (v := .ref am) rfl hmod rfl) (by rfl))))) pss_never pss_nil), ?_⟩
    refine ⟨_, rfl, q, rfl, true, rfl, ?_⟩
    refine iteF ?_
    refine ⟨_, rfl, am, _, rfl, .inr (hsq _), rfl, rfl, _, rfl, ?_⟩
    rw [if_pos rfl, mod_in hq]
    exact iteF k
/-! ### Sum.__init__ -/
def spInit (S : Addr) : Sp := fun vs H Q _ => ∃ (x dx d : Addr) (q c : Int) (N : List Str) (R : Ws), vs = [.ref x, .int q, .ref d, .int c] ∧ H x = some (.ins S dx []) ∧ H d = some (.dK (dk R)) ∧ Dct 0 q N R ∧ Nms N ∧ IsMod q ∧ 0 ≤ c ∧ c < q ∧
  ∀ (ws : Ws) (e : Addr) (H' : Hp), H e = none → Canon q N ws → (∀ n, wt ws n = wt R n) → H' x = some (.ins S dx (fl q e c)) → H' e = some (.dK (dk ws)) → (∀ b o, H b = some o → b ≠ x → H' b = some o) → Q .non H'
theorem scInit : FnScope ["self", "modulus", "weights", "constant", "name"] psInit (defScope sInit) := ⟨rfl, rfl, rfl, by decide +kernel, rfl, by decide +kernel, by decide +kernel⟩
theorem ok_init (T : T2 K mg) : FnOk P w K mg base CX0 4 T.fI T.fdI psInit (spInit T.S) := by
  have GM : FnOk P w K mg base CX0 2 T.wantModulus.f T.wantModulus.fd ["value"] spWantModulus := ok_wantModulus T.toT1
  have GW : FnOk P w K mg base CX0 3 T.isWorld.f T.isWorld.fd ["value", "modulus"] spIsWorld := ok_isWorld T.toT1
  have GU : FnOk P w K mg base CX0 2 T.isNumber.f T.isNumber.fd ["value", "modulus"] spIsNumber := ok_isNumber T.isNumber T.isInteger T.gIsInteger T.B
  refine T.FI.ok scInit (fun vs H Q E h => ?_) (fun cdv A outer s H vs Q E hr h => ?_)
  · obtain ⟨x, dx, d, q, c, N, R, rfl, _⟩ := h
    rfl
  · obtain ⟨x, dx, d, q, c, N, R, rfl, hx, hd, hR, hN, hq, hc0, hc1, k⟩ := h
    have hr2 : Room 2 _ := hr.mono (by decide)
    have hu := hu_of hr
    refine ⟨_, PSs.nox (pss_cons (ps_expr (pe_call GM hr2 (by rfl) T.gWantModulus T.wantModulus.kp T.wantModulus.b .nil pass0 (pa_cons (pv 1) pa_nil)))
      (pss_cons (ps_if (pt_not (pt_val (pe_call GW hr (by rfl) T.gIsWorld T.isWorld.kp T.isWorld.b .nil pass0 (pa_cons (pv 2) (pa_cons (pv 1) pa_nil))))) pss_never pss_nil)
      (pss_cons (ps_if (pt_not (pt_val (pe_call GU hr2 (by rfl) T.gIsNumber T.isNumber.kp T.isNumber.b .nil pass0 (pa_cons (pv 3) (pa_cons (pv 1) pa_nil))))) pss_never pss_nil)
      (pss_cons (ps_fld (pv 0) (pv 1) rfl)
      (pss_cons (ps_fld (pv 0) (pe_dc (own := [("name", 4)]) (g := gName 4) rfl scInit.nd (pi_list (pe_callB (call_sortedD rfl) (by rfl) T.B.sorted (by decide +kernel) (pa_cons (pv 2) pa_nil)))
          (blkOk_by (own := [("name", 4)]) (N := ["self", "modulus", "weights", "constant", "name"]) (sc := defScope sInit) (by decide +kernel))
          (fun _ _ _ _ _ => pg_name (i := 4) scInit.nd rfl (Or.inl rfl))
          (fun _ _ _ _ _ => pts_one (pt_cmpR op_ne (pe_dget hu (pv 2) (pv 4) (fun _ _ => rfl)) pe_int (nomark _)))
          (fun _ _ _ _ _ => pv 4) (fun _ _ _ _ _ => pe_dget hu (pv 2) (pv 4) (fun _ _ => rfl))) rfl)
      (pss_one (ps_fld (pv 0) (pv 3) rfl))))))), ?_⟩
    have hq2 := hq.pos
    have hl := hR.len
    have hl2 := hN.len
    have nxd : x ≠ d := ne_of hx hd (by intro z; cases z)
    refine ⟨_, rfl, q, rfl, hq, ?_⟩
    refine ⟨_, rfl, _, rfl, d, q, R, rfl, hd, isWd_of hR (Int.le_refl _) hN, by omega, fun H1 s1 => ⟨true, rfl, iteF ?_⟩⟩
    refine ⟨_, rfl, _, rfl, c, q, rfl, hc0, hc1, true, rfl, iteF ?_⟩
    refine ⟨_, rfl, _, rfl, x, T.S, dx, [], rfl, s1 _ _ hx, T.cl, T.nM, (by show 0 < 1000; decide), ?_⟩
    generalize hH2 : upd H1 x (.ins T.S dx (putF "own_modulus" (.int q) [])) = H2
    have hx2 : H2 x = some (.ins T.S dx (putF "own_modulus" (.int q) [])) := by rw [← hH2]; exact upd_same
    have hd2 : H2 d = some (.dK (dk R)) := by rw [← hH2, upd_ne nxd.symm]; exact s1 _ _ hd
    refine ⟨_, rfl, d, dk R, R.map (·.1), rfl, .inl hd2, dk_keys R, by rw [List.length_map]; omega, fun ys p hp hs hpn => ?_⟩
    have hle := sorted_le hs
    have hnd : ys.Nodup := hp.symm.nodup hR.nd
    have hyl : ys.length = R.length := by rw [hp.length_eq, List.length_map]
    obtain ⟨hcan, hwt⟩ := mkW_canon hR hp hle
    have npd : p ≠ d := fun z => by rw [z, hd2] at hpn; cases hpn
    have npx : p ≠ x := fun z => by rw [z, hx2] at hpn; cases hpn
    have s2 : Same H2 (upd H2 p (.lst (ys.map V.str))) := Same.new hpn
    generalize hH3 : upd H2 p (.lst (ys.map V.str)) = H3 at s2
    have hp3 : H3 p = some (.lst (ys.map V.str)) := by rw [← hH3]; exact upd_same
    refine ⟨p, rfl, ⟨_, SqL.of hp3⟩, fun D hD => dc_it (walk_list (xs := ys.map V.str)) (fun i H => Same H3 H ∧ H D = some (.dK (dk (mkW R (ys.take i))))) ⟨Same.new hD, upd_same⟩ (fun i H _ z => SqL.of (z.1 _ _ hp3)) ?_ ?_⟩
    · rintro i y H4 H4' hi ⟨s4, hD4⟩ ⟨rfl, hy⟩
      rw [List.length_map] at hi
      have hyi : ys[i]? = some ys[i] := List.getElem?_eq_getElem hi
      rw [List.getElem?_map, hyi] at hy
      cases hy
      have hmem : ys[i] ∈ R.map (·.1) := hp.mem_iff.mp (List.getElem_mem hi)
      have hnot : ¬ ys[i] ∈ ys.take i := fun z => by
        obtain ⟨j, hj, e⟩ := List.mem_take_iff_getElem.mp z
        have := (List.getElem_inj hnd).mp e
        omega
      have hd4 : H4' d = some (.dK (dk R)) := s4 _ _ (s2 _ _ hd2)
      have hg : DGet H4' d (.str ys[i]) (some (.int (wt R ys[i]))) := by
        have := DGet.k (k := (Sum.inr ys[i] : Key)) hd4
        rw [valV_of_mem hmem] at this
        exact this
      have etk : ys.take (i + 1) = ys.take i ++ [ys[i]] := by rw [List.take_add_one, hyi]; rfl
      refine ⟨rfl, ?_⟩
      refine ⟨_, rfl, _, rfl, d, _, rfl, hg, rfl, _, rfl, ?_⟩
      by_cases e0 : wt R ys[i] = 0
      · rw [e0]
        refine iteF ⟨s4, ?_⟩
        rw [hD4, etk, mkW_snoc, if_neg (fun z => z e0)]
      · have e1 : (!decide (V.int (wt R ys[i]) = V.int 0)) = true := by
          rw [decide_eq_false (fun z => e0 (V.int.inj z))]; rfl
        rw [e1]
        refine iteT ?_
        refine ⟨_, rfl, ?_⟩
        refine ⟨_, rfl, _, rfl, d, _, rfl, hg, dk (mkW R (ys.take i)), Sum.inr ys[i], rfl, hD4, ?_, ?_, ?_⟩
        · have := mkW_len R (ys.take i)
          rw [List.length_take] at this
          rw [dk_len]; exact sz_lt (by omega)
        · exact Same.mut s4 hD
        · rw [upd_same, putK_snoc (mkW_not hnot), etk, mkW_snoc, if_pos e0]
    · rintro H4 ⟨s4, hD4⟩
      rw [List.length_map, List.take_length] at hD4
      have hx4 : H4 x = some (.ins T.S dx (putF "own_modulus" (.int q) [])) := s4 _ _ (s2 _ _ hx2)
      have nxD : x ≠ D := fun z => by rw [← z, hx4] at hD4; cases hD4
      refine ⟨_, rfl, x, T.S, dx, _, rfl, hx4, T.cl, T.nW, (by show 1 < 1000; decide), ?_⟩
      refine ⟨_, rfl, _, rfl, x, T.S, dx, _, rfl, upd_same, T.cl, T.nC, ?_, ?_⟩
      · show (if ("own_modulus" : Str) = "own_weights" then _ else (("own_modulus" : Str), V.int q) :: putF "own_weights" (.ref D) []).length < 1000
        rw [if_neg (by decide +kernel)]; show 2 < 1000; decide
      · have fD : H D = none := by
          have f2 : H2 D = none := s2.free hD
          rw [← hH2, upd_ne nxD.symm] at f2
          exact s1.free f2
        refine k _ D _ fD hcan hwt (by rw [upd_same, fl_made]) (by rw [upd_ne nxD.symm, upd_ne nxD.symm]; exact hD4) fun b o hb nb => ?_
        rw [upd_ne nb, upd_ne nb]
        refine s4 _ _ (s2 _ _ ?_)
        rw [← hH2, upd_ne nb]
        exact s1 _ _ hb
end
end Q
set_option Elab.async false
set_option maxRecDepth 100000
set_option maxHeartbeats 4000000
namespace Q
open PySem L2 QR QM
/-- a method of Sum -/
structure MT (K : PySem.W.Frag) (S : Addr) (x qual : Str) (st : Stmt) (ps : List Str) extends FT K x qual st ps where
  m : Meth K S x f
/-- a property of Sum -/
structure PT (K : PySem.W.Frag) (S : Addr) (x qual : Str) (st : Stmt) extends FT K x qual st ["self"] where
  p : Addr
  pr : PropOf K S x p f
structure T3 (K : PySem.W.Frag) (mg : Str → Option Value) extends T2 K mg where
  modulus : PT K S "modulus" "Sum.modulus" sModulus
  constant : PT K S "constant" "Sum.constant" sConstant
  isConstant : PT K S "is_constant" "Sum.is_constant" sIsConstant
  weights : MT K S "weights" "Sum.weights" sWeights ["self"]
  names : MT K S "names" "Sum.names" sNames ["self"]
  weight : MT K S "weight" "Sum.weight" sWeight ["self", "name"]
  wantAlike : MT K S "want_alike" "Sum.want_alike" sWantAlike ["self", "other"]
  add : MT K S "__add__" "Sum.__add__" sAdd ["self", "other"]
  neg : MT K S "__neg__" "Sum.__neg__" sNeg ["self"]
  sub : MT K S "__sub__" "Sum.__sub__" sSub ["self", "other"]
  mul : MT K S "__mul__" "Sum.__mul__" sMul ["self", "number"]
  at_ : MT K S "at" "Sum.at" sAt ["self", "world"]
  put : MT K S "put" "Sum.put" sPut ["self", "sums"]
  rmul : PySem.W.findIn K (.ref S) "__rmul__" = some none
  imul : ∃ fo, PySem.W.findIn K (.type "int") "__mul__" = some fo
  irmul : ∃ ro, PySem.W.findIn K (.type "int") "__rmul__" = some ro
  isub : PySem.W.subIn K (.type "int") (.ref S) = some false
section
variable {P : Program} {w : World} {K : PySem.W.Frag} {mg : Str → Option Value} {base : Heap}
/-! ### properties -/
theorem scModulus : FnScope ["self"] ["self"] (defScope sModulus) := ⟨rfl, rfl, rfl, by decide +kernel, rfl, by decide +kernel, by decide +kernel⟩
theorem ok_modulus (T : T3 K mg) : FnOk P w K mg base CX0 1 T.modulus.f T.modulus.fd ["self"] (getSp T.S "own_modulus") := by
  refine T.modulus.F.ok scModulus (fun vs H Q E h => ?_) (fun cdv A outer s H vs Q E hr h => ?_)
  · obtain ⟨a, dx, fs, v, rfl, _⟩ := h
    rfl
  · obtain ⟨a, dx, fs, v, rfl, ha, hl, k⟩ := h
    exact ⟨_, pss_one (ps_ret (pe_fld (pv 0) rfl)), _, rfl, a, T.S, dx, fs, v, rfl, ha, T.cl, T.nM, hl, k⟩
theorem scConstant : FnScope ["self"] ["self"] (defScope sConstant) := ⟨rfl, rfl, rfl, by decide +kernel, rfl, by decide +kernel, by decide +kernel⟩
theorem ok_constant (T : T3 K mg) : FnOk P w K mg base CX0 1 T.constant.f T.constant.fd ["self"] (getSp T.S "own_constant") := by
  refine T.constant.F.ok scConstant (fun vs H Q E h => ?_) (fun cdv A outer s H vs Q E hr h => ?_)
  · obtain ⟨a, dx, fs, v, rfl, _⟩ := h
    rfl
  · obtain ⟨a, dx, fs, v, rfl, ha, hl, k⟩ := h
    exact ⟨_, pss_one (ps_ret (pe_fld (pv 0) rfl)), _, rfl, a, T.S, dx, fs, v, rfl, ha, T.cl, T.nC, hl, k⟩
/-- what a sum's readers ask: where it stands -/
def spIsConstant (S : Addr) : Sp := fun vs H Q _ => ∃ (p : Addr) (q : Int) (N : List Str) (ws : Ws) (c : Int), vs = [.ref p] ∧ SumAt S H p q N ws c ∧ ∀ H', Same H H' → Q (.bl (decide (ws.length = 0))) H'
theorem scIsConstant : FnScope ["self"] ["self"] (defScope sIsConstant) := ⟨rfl, rfl, rfl, by decide +kernel, rfl, by decide +kernel, by decide +kernel⟩
theorem ok_isConstant (T : T3 K mg) : FnOk P w K mg base CX0 1 T.isConstant.f T.isConstant.fd ["self"] (spIsConstant T.S) := by
  refine T.isConstant.F.ok scIsConstant (fun vs H Q E h => ?_) (fun cdv A outer s H vs Q E hr h => ?_)
  · obtain ⟨p, q, N, ws, c, rfl, _⟩ := h
    rfl
  · obtain ⟨p, q, N, ws, c, rfl, ⟨dx, d, h1, h2, h3⟩, k⟩ := h
    refine ⟨_, pss_one (ps_ret (pe_cmpR (op_eqDL hr.units0) (pe_fld (pv 0) rfl) pe_dnewK (nomark _))), ?_⟩
    refine ⟨_, rfl, p, T.S, dx, _, _, rfl, h1, T.cl, T.nW, fl_w _ _ _, fun e he => ?_⟩
    have s1 : Same H (upd H e (.dK [])) := Same.new he
    refine ⟨d, e, dk ws, [], rfl, rfl, s1 _ _ h2, upd_same, fun hl => ?_, ?_⟩
    · intro x hx
      have : dk ws = [] := List.eq_nil_of_length_eq_zero hl
      rw [this] at hx
      cases hx
    · have := k _ s1
      rw [dk_len]
      exact this
def spWeights (S : Addr) : Sp := fun vs H Q _ => ∃ (p : Addr) (q : Int) (N : List Str) (ws : Ws) (c : Int), vs = [.ref p] ∧ SumAt S H p q N ws c ∧ ∀ e, H e = none → Q (.ref e) (upd H e (.dK (dk ws)))
theorem scWeights : FnScope ["self"] ["self"] (defScope sWeights) := ⟨rfl, rfl, rfl, by decide +kernel, rfl, by decide +kernel, by decide +kernel⟩
theorem ok_weights (T : T3 K mg) : FnOk P w K mg base CX0 1 T.weights.f T.weights.fd ["self"] (spWeights T.S) := by
  refine T.weights.F.ok scWeights (fun vs H Q E h => ?_) (fun cdv A outer s H vs Q E hr h => ?_)
  · obtain ⟨p, q, N, ws, c, rfl, _⟩ := h
    rfl
  · obtain ⟨p, q, N, ws, c, rfl, ⟨dx, d, h1, h2, h3⟩, k⟩ := h
    refine ⟨_, pss_one (ps_ret (pe_callTy call_dictD (by rfl) T.B.dict (by decide +kernel) (pa_cons (pe_fld (pv 0) rfl) pa_nil))), ?_⟩
    exact ⟨_, rfl, p, T.S, dx, _, _, rfl, h1, T.cl, T.nW, fl_w _ _ _, d, dk ws, rfl, .inl h2, k⟩
def spNames (S : Addr) : Sp := fun vs H Q _ => ∃ (p : Addr) (q : Int) (N : List Str) (ws : Ws) (c : Int), vs = [.ref p] ∧ SumAt S H p q N ws c ∧ ∀ e, H e = none → Q (.ref e) (upd H e (.lst (ws.map fun x => .str x.1)))
theorem dk_names (ws : Ws) : ((dk ws).map fun kv => kV kv.1) = ws.map fun x => V.str x.1 := by unfold dk; rw [List.map_map]; rfl
theorem scNames : FnScope ["self"] ["self"] (defScope sNames) := ⟨rfl, rfl, rfl, by decide +kernel, rfl, by decide +kernel, by decide +kernel⟩
theorem ok_names (T : T3 K mg) : FnOk P w K mg base CX0 1 T.names.f T.names.fd ["self"] (spNames T.S) := by
  refine T.names.F.ok scNames (fun vs H Q E h => ?_) (fun cdv A outer s H vs Q E hr h => ?_)
  · obtain ⟨p, q, N, ws, c, rfl, _⟩ := h
    rfl
  · obtain ⟨p, q, N, ws, c, rfl, ⟨dx, d, h1, h2, h3⟩, k⟩ := h
    refine ⟨_, pss_one (ps_ret (pe_callTy (call_listD rfl) (by rfl) T.B.list (by decide +kernel) (pa_cons (pe_fld (pv 0) rfl) pa_nil))), ?_⟩
    refine ⟨_, rfl, p, T.S, dx, _, _, rfl, h1, T.cl, T.nW, fl_w _ _ _, d, dk ws, rfl, .inl h2, fun e he => ?_⟩
    rw [dk_names]
    exact k e he
/-- a text: its weight; a value of another kind: 0 -/
def spWeight (K : PySem.W.Frag) (S : Addr) : Sp := fun vs H Q _ => ∃ (p : Addr) (q : Int) (N : List Str) (ws : Ws) (c : Int) (v : V), vs = [.ref p, v] ∧ SumAt S H p q N ws c ∧
  ((∃ n, v = .str n ∧ Q (.int (wt ws n)) H) ∨ (∃ t, TyX K H v (.type t) ∧ kitB t "str" = some false ∧ Q (.int 0) H))
theorem getD_dk (ws : Ws) (n : Str) : (valV (dk ws) (Sum.inr n : Key)).getD (.int 0) = .int (wt ws n) := by
  rw [valV_dk]
  unfold wt
  cases lk ws n <;> rfl
theorem scWeight : FnScope ["self", "name"] ["self", "name"] (defScope sWeight) := ⟨rfl, rfl, rfl, by decide +kernel, rfl, by decide +kernel, by decide +kernel⟩
theorem ok_weight (T : T3 K mg) : FnOk P w K mg base CX0 1 T.weight.f T.weight.fd ["self", "name"] (spWeight K T.S) := by
  refine T.weight.F.ok scWeight (fun vs H Q E h => ?_) (fun cdv A outer s H vs Q E hr h => ?_)
  · obtain ⟨p, q, N, ws, c, v, rfl, _⟩ := h
    rfl
  · obtain ⟨p, q, N, ws, c, v, rfl, ⟨dx, d, h1, h2, h3⟩, k⟩ := h
    have hu := hu_of hr
    refine ⟨_, pss_one (ps_ret (pe_ifExp (pt_val (pe_callB call_isi (by rfl) T.B.isinstance (by decide +kernel) (pa_cons (pv 1) (pa_cons (pe_bltn (v := .ty "str") (by rfl) T.B.str (by decide +kernel) rfl) pa_nil))))
      (pe_dget2 hu (pe_fld (pv 0) rfl) (pv 1) pe_int ⟨rfl, rfl, rfl, rfl⟩) pe_int)), ?_⟩
    rcases k with ⟨n, rfl, k⟩ | ⟨t, ht, hk, k⟩
    · refine ⟨_, rfl, _, _, _, _, true, rfl, .ty _, .base (.str n), kit_ty (by decide +kernel), true, rfl, ?_⟩
      refine iteT ?_
      refine ⟨_, rfl, p, T.S, dx, _, _, rfl, h1, T.cl, T.nW, fl_w _ _ _, d, rfl, .inl ⟨_, .inl h2⟩, _, rfl, _, DGet.k (k := Sum.inr n) h2, ?_⟩
      rw [getD_dk]
      exact k
    · refine ⟨_, rfl, _, _, _, _, false, rfl, .ty _, ht, kit_ty hk, false, rfl, ?_⟩
      exact iteF k
/-! ### want_alike -/
def spWantAlike (S : Addr) : Sp := fun vs H Q _ => ∃ (p o : Addr) (q : Int) (dx dy d e : Addr) (c c' : Int), vs = [.ref p, .ref o] ∧ H p = some (.ins S dx (fl q d c)) ∧ H o = some (.ins S dy (fl q e c')) ∧ Q .non H
theorem scWantAlike : FnScope ["self", "other"] ["self", "other"] (defScope sWantAlike) := ⟨rfl, rfl, rfl, by decide +kernel, rfl, by decide +kernel, by decide +kernel⟩
theorem ok_wantAlike (T : T3 K mg) : FnOk P w K mg base CX0 3 T.wantAlike.f T.wantAlike.fd ["self", "other"] (spWantAlike T.S) := by
  have GM : FnOk P w K mg base CX0 1 T.modulus.f T.modulus.fd ["self"] (getSp T.S "own_modulus") := ok_modulus T
  refine T.wantAlike.F.ok scWantAlike (fun vs H Q E h => ?_) (fun cdv A outer s H vs Q E hr h => ?_)
  · obtain ⟨p, o, q, dx, dy, d, e, c, c', rfl, _⟩ := h
    rfl
  · obtain ⟨p, o, q, dx, dy, d, e, c, c', rfl, h1, h2, k⟩ := h
    refine ⟨_, pss_cons (ps_if (pt_not (pt_val (pe_callB call_isi (by rfl) T.B.isinstance (by decide +kernel) (pa_cons (pv 1) (pa_cons (pe_glob (v := .ref T.S) rfl T.gS rfl) pa_nil))))) pss_never pss_nil)
      (pss_one (ps_if (pt_cmpR op_ne (pe_prop (pv 1) T.cl T.modulus.pr GM hr T.modulus.b .nil pass0 rfl) (pe_fld (pv 0) rfl) (nomark _)) pss_never pss_nil)), ?_⟩
    refine ⟨_, rfl, _, _, _, _, true, rfl, .own _, T.ty h2, kit_self, true, rfl, iteF ?_⟩
    refine ⟨_, rfl, o, dy, _, rfl, h2, o, dy, _, _, rfl, h2, fl_m _ _ _, ?_⟩
    refine ⟨_, rfl, p, T.S, dx, _, _, rfl, h1, T.cl, T.nM, fl_m _ _ _, rfl, _, rfl, ?_⟩
    exact iteNS rfl k
end
end Q
set_option Elab.async false
set_option maxRecDepth 100000
set_option maxHeartbeats 1000000
namespace QM
open PySem L2 QR
/-! ### multiples -/
def mulW (ws : Ws) (k q : Int) : Ws := ws.map fun p => (p.1, p.2 * k % q)
theorem mulW_keys (ws : Ws) (k q : Int) : (mulW ws k q).map (·.1) = ws.map (·.1) := by unfold mulW; rw [List.map_map]; rfl
theorem mulW_len (ws : Ws) (k q : Int) : (mulW ws k q).length = ws.length := by unfold mulW; rw [List.length_map]
theorem mulW_snoc (ws : Ws) (p : Str × Int) (k q : Int) : mulW (ws ++ [p]) k q = mulW ws k q ++ [(p.1, p.2 * k % q)] := by unfold mulW; rw [List.map_append]; rfl
theorem mulW_dct {lo q : Int} {N : List Str} {ws : Ws} (h : Dct lo q N ws) (hq : 0 < q) (k : Int) : Dct 0 q N (mulW ws k q) := by
  refine ⟨by rw [mulW_keys]; exact h.nd, fun p hp => ?_⟩
  unfold mulW at hp
  obtain ⟨x, hx, rfl⟩ := List.mem_map.mp hp
  exact ⟨(h.mem x hx).1, Int.emod_nonneg _ (by omega), Int.emod_lt_of_pos _ hq⟩
theorem mulW_wt (k q : Int) (n : Str) : ∀ ws : Ws, wt (mulW ws k q) n = wt ws n * k % q
  | [] => by simp [mulW, wt_nil]
  | p :: r => by
    show wt ((p.1, p.2 * k % q) :: mulW r k q) n = _
    rw [wt_cons, wt_cons, mulW_wt k q n r]
    by_cases e : p.1 = n <;> simp [e]
/-! ### sums -/
def addW (q : Int) (acc vs : Ws) : Ws := vs.foldl (fun a p => putS a p.1 ((wt a p.1 + p.2) % q)) acc
theorem addW_snoc (q : Int) (acc vs : Ws) (p : Str × Int) : addW q acc (vs ++ [p]) = putS (addW q acc vs) p.1 ((wt (addW q acc vs) p.1 + p.2) % q) := by unfold addW; rw [List.foldl_append]; rfl
theorem addW_dct {q : Int} {N : List Str} (hq : 0 < q) : ∀ {vs acc : Ws}, Dct 0 q N acc → (∀ p ∈ vs, p.1 ∈ N) → Dct 0 q N (addW q acc vs)
  | [], acc, h, _ => h
  | p :: r, acc, h, hv => by
    show Dct 0 q N (addW q (putS acc p.1 ((wt acc p.1 + p.2) % q)) r)
    exact addW_dct hq (h.put (hv p List.mem_cons_self) (Int.emod_nonneg _ (by omega)) (Int.emod_lt_of_pos _ hq)) fun x hx => hv x (List.mem_cons_of_mem _ hx)
theorem addW_wt {q : Int} {N : List Str} (hq : 0 < q) (n : Str) : ∀ {vs acc : Ws}, Dct 0 q N acc → (vs.map (·.1)).Nodup → (∀ p ∈ vs, p.1 ∈ N) → wt (addW q acc vs) n = (wt acc n + wt vs n) % q
  | [], acc, h, _, _ => by
    show wt acc n = _
    rw [wt_nil, Int.add_zero, Int.emod_eq_of_lt (h.wt0 (Int.le_refl _) hq n).1 (h.wt0 (Int.le_refl _) hq n).2]
  | p :: r, acc, h, hn, hv => by
    have hn' := List.nodup_cons.mp hn
    show wt (addW q (putS acc p.1 ((wt acc p.1 + p.2) % q)) r) n = _
    rw [addW_wt hq n (h.put (hv p List.mem_cons_self) (Int.emod_nonneg _ (by omega)) (Int.emod_lt_of_pos _ hq)) hn'.2 fun x hx => hv x (List.mem_cons_of_mem _ hx), wt_put, wt_cons]
    by_cases e : p.1 = n
    · have h0 : wt r n = 0 := wt_not (by rw [← e]; exact hn'.1)
      rw [if_pos e.symm, if_pos e, h0, Int.add_zero, Int.emod_emod_of_dvd _ (Int.dvd_refl q), e]
    · rw [if_neg (fun z => e z.symm), if_neg e]
theorem take_snoc {α : Type} {l : List α} {i : Nat} {x : α} (h : l[i]? = some x) : l.take (i + 1) = l.take i ++ [x] := by rw [List.take_add_one, h]; rfl
end QM
set_option Elab.async false
set_option maxRecDepth 100000
set_option maxHeartbeats 4000000
namespace QR
open PySem PySem.Spec PyProof.Rows L2
section
variable {X : Cx}
/-- y = {k: v for ..} -/
theorem ps_setDc {i : Nat} {y : Str} {py : Pos} {kx vx tg iter : Expr} {ifs : List Expr} {scope : Scope} {own : List (Str × Nat)} {pos spos : Pos} {wi : TI} {g : TG} {tt : TT} {tk tv : TE} (hc : X.calm = true) (hN : X.N.Nodup) (hy : X.N[i]? = some y) (hyl : X.env.scope.names.lookup y = some .local)
    (hsw : swapsWith (.DictComp kx vx [⟨tg, iter, ifs, 0⟩] scope pos) (some (.Name y py)) spos.line X.env = pure true) (hi : PI X tg iter wi) (ok : BlkOk X.N X.env.scope scope own)
    (hg : ∀ (s : Shared) (H : Hp) (C : Addr) (cl : List (Str × Addr)) (fp : List Addr), PG (X.blk s H scope (compEnvC scope cl C X.env) fp) tg g) (ht : ∀ (s : Shared) (H : Hp) (C : Addr) (cl : List (Str × Addr)) (fp : List Addr), PTs (X.blk s H scope (compEnvC scope cl C X.env) fp) ifs tt)
    (hk : ∀ (s : Shared) (H : Hp) (C : Addr) (cl : List (Str × Addr)) (fp : List Addr), PE (X.blk s H scope (compEnvC scope cl C X.env) fp) kx tk)
    (he : ∀ (s : Shared) (H : Hp) (C : Addr) (cl : List (Str × Addr)) (fp : List Addr), PE (X.blk s H scope (compEnvC scope cl C X.env) fp) vx tv) (hs : ∀ x, foldedSetIterable iter X.env x = pure x := by intro _; rfl) :
    PS X (.Assign [.Name y py] (.DictComp kx vx [⟨tg, iter, ifs, 0⟩] scope pos) spos) (tAsg (tDc wi g tt tk tv (own.map (·.2))) (gName i)) := by
  refine ⟨fun pins s σ H D I h => ?_⟩
  rw [exec_Assign_Name_used _ _ _ _ hsw]
  refine wpAny_bind (wpAny_standAt (wpAny_bind ?_))
  show wpAny _ X.A (do let _ ← comprehension (.DictComp kx vx [⟨tg, iter, ifs, 0⟩] scope pos) scope X.env (firstIterPos [⟨tg, iter, ifs, 0⟩] pos) newDict false (eval iter X.env) (some (assign (.Name y py) X.env))) _ _ s
  have h : tDc wi g tt tk tv (own.map (·.2)) σ H (fun x H1 => gName i x σ H1 D.nx) := h
  refine wpAny_bind (thn (dc_core (Qf := fun _ s' => SP X pins D .next s') hc hN I hi ok hg ht hk he hs h fun L C s' m H' I' q hn f => ?_) fun _ s' hq => wpAny_pure (wpAny_pure hq))
  show wpAny _ _ (assign (.Name y py) X.env (.ref L)) _ _ _
  refine wpAny_assign_Name (store_ok2 (v := V.ref L) I' hN hy (.inl hyl) rfl (fun s2 I2 ⟨a, sb, ha⟩ => ?_) (.inr hyl))
  obtain ⟨f0, f1, f2, f3, f4, f5⟩ := f
  have haC : C ≠ a := by
    rcases ha with z | z
    · rw [z]; exact f1
    · exact fun e => f4 y a z e.symm
  refine ⟨m, hn.sameBut sb haC, fun h3 sb3 => ?_⟩
  exact ⟨_, H', I2.turned (t' := s2.toks) (fun b o hb e => (sb3.2 b hb).trans e) f0 f1 f3 f4 f5, q⟩
theorem sw_trueD {kx vx : Expr} {gs : List Comprehension} {scope : Scope} {pos py : Pos} {y : Str} {l : Nat} {env : Env} (hk : env.scope.kind = .function) (hy : env.scope.names.lookup y = some .local) (hl : (py.line == pos.line) = true)
    (ha : (scope.names.any fun (n, k) => n == y && (k == .local || k == .cell)) = false) : swapsWith (.DictComp kx vx gs scope pos) (some (.Name y py)) l env = pure true := by
  have ky : env.kindOf y = some .local := hy
  have hb : env.blockKind = .function := by unfold Env.blockKind; rw [hk]; rfl
  unfold swapsWith
  simp only [hb, ky, ha, Expr.pos, hl]
  rfl
end
end QR
set_option Elab.async false
set_option maxRecDepth 100000
set_option maxHeartbeats 4000000
namespace Q
open PySem L2 QR QM
abbrev rMod : R2 := rI (fun _ j => 0 < j) fun i j => .int (i % j)
abbrev rMul : R2 := rI CMul fun i j => .int (i * j)
section
variable {P : Program} {w : World} {K : PySem.W.Frag} {mg : Str → Option Value} {base : Heap}
/-! ### Sum.__mul__ -/
def spMul (S : Addr) : Sp := fun vs H Q _ => ∃ (p : Addr) (q : Int) (N : List Str) (ws : Ws) (c k : Int), vs = [.ref p, .int k] ∧ SumAt S H p q N ws c ∧ Nms N ∧ IsMod q ∧
  ∀ (x : Addr) (us : Ws) (H' : Hp), H x = none → Same H H' → SumAt S H' x q N us (c * k % q) → (∀ n, wt us n = wt ws n * k % q) → Q (.ref x) H'
theorem scMul : FnScope ["self", "number", "weights", "name", "weight"] ["self", "number"] (defScope sMul) := ⟨rfl, rfl, rfl, by decide +kernel, rfl, by decide +kernel, by decide +kernel⟩
theorem ok_mul (T : T3 K mg) : FnOk P w K mg base CX0 6 T.mul.f T.mul.fd ["self", "number"] (spMul T.S) := by
  have GI : FnOk P w K mg base CX0 1 T.isInteger.f T.isInteger.fd ["value"] spIsInteger := ok_isInteger T.isInteger T.B
  have GS : FnOk P w K mg base CX0 4 T.fI T.fdI psInit (spInit T.S) := ok_init T.toT2
  refine T.mul.F.ok scMul (fun vs H Q E h => ?_) (fun cdv A outer s H vs Q E hr h => ?_)
  · obtain ⟨p, q, N, ws, c, k, rfl, _⟩ := h
    rfl
  · obtain ⟨p, q, N, ws, c, k, rfl, ⟨dx, d, h1, h2, hcan, hc0, hc1⟩, hN, hq, kk⟩ := h
    have hr1 : Room 1 _ := hr.mono (by decide)
    have hu := hu_of hr
    refine ⟨_, pss_cons (ps_if (pt_not (pt_val (pe_call GI hr1 (by rfl) T.gIsInteger T.isInteger.kp T.isInteger.b .nil pass0 (pa_cons (pv 1) pa_nil)))) pss_never pss_nil)
      (pss_cons (ps_lock (ps_setDc (i := 2) (own := [("name", 3), ("weight", 4)]) (g := gPair K 3 4) (tt := tYes) (tv := tOp rMod (tOp rMul (tVar 4) (tVar 1)) (tFld K (tVar 0) "own_modulus")) rfl scMul.nd rfl rfl (sw_trueD rfl rfl rfl (by decide +kernel)) (pi_items (pe_fld (pv 0) rfl))
          (blkOk_by (own := [("name", 3), ("weight", 4)]) (N := ["self", "number", "weights", "name", "weight"]) (sc := defScope sMul) (by decide +kernel))
          (fun _ _ _ _ _ => pg_tup rfl (pgs_cons (pg_name (i := 3) scMul.nd rfl (Or.inl rfl)) (pgs_cons (pg_name (i := 4) scMul.nd rfl (Or.inl rfl)) pgs_nil))) (fun _ _ _ _ _ => pts_nil)
          (fun _ _ _ _ _ => pv 3) (fun _ _ _ _ _ => pe_op op_mod (pe_op op_mul (pv 4) (pv 1)) (pe_fld (pv 0) rfl))))
      (pss_one (ps_ret (pe_make T.MI GS hr rfl T.gS T.bI .nil pass0 (pa_cons (pe_fld (pv 0) rfl) (pa_cons (pv 2) (pa_cons (pe_op op_mod (pe_op op_mul (pe_fld (pv 0) rfl) (pv 1)) (pe_fld (pv 0) rfl)) pa_nil))))))), ?_⟩
    have hq2 := hq.pos
    have hl := hcan.d.len
    have hl2 := hN.len
    have npd : p ≠ d := ne_of h1 h2 (by intro z; cases z)
    refine ⟨_, rfl, k, rfl, true, rfl, iteF ?_⟩
    refine ⟨d, _, h2, True.intro, fun od => ?_⟩
    have h1' : upd H d (.frz od (.dK (dk ws))) p = some (.ins T.S dx (fl q d c)) := by rw [upd_ne npd]; exact h1
    refine ⟨_, rfl, p, T.S, dx, _, _, rfl, h1', T.cl, T.nW, fl_w _ _ _, d, od, dk ws, rfl, upd_same, fun D hD => dc_it walk_items (fun i H2 => Same (upd H d (.frz od (.dK (dk ws)))) H2 ∧ H2 D = some (.dK (dk (mulW (ws.take i) k q)))) ⟨Same.new hD, upd_same⟩ (fun i H2 _ z => z.1 _ _ upd_same) ?_ ?_⟩
    · rintro i y H2 H2' hi ⟨s2, hD2⟩ y2
      obtain ⟨x, T0, g1, g2, rfl, hT, rfl⟩ := ypair_dk hi y2
      have s3 : Same H2 (upd H2 T0 (.tup [.str x.1, .int x.2])) := Same.new hT
      have hx := hcan.d.mem x g2
      refine ⟨T0, _, rfl, SqT.of upd_same, rfl, _, _, rfl, _, _, rfl, rfl, rfl, ?_⟩
      refine ⟨_, rfl, ?_⟩
      refine ⟨_, rfl, _, rfl, _, _, rfl, rfl, .inl ⟨by omega, by omega⟩, ?_⟩
      refine ⟨_, rfl, p, T.S, dx, _, _, rfl, s3 _ _ (s2 _ _ h1'), T.cl, T.nM, fl_m _ _ _, _, _, rfl, rfl, (show (0 : Int) < q by omega), ?_⟩
      refine ⟨_, Sum.inr x.1, rfl, s3 _ _ hD2, ?_, ?_, ?_⟩
      · rw [dk_len, mulW_len, List.length_take]; exact sz_lt (by omega)
      · exact Same.mut (s2.trans s3) hD
      · rw [upd_same, putK_snoc ?_, take_snoc g1, mulW_snoc]
        rw [mulW_keys]
        intro z
        have nd := hcan.d.nd
        rw [← List.take_append_drop (i + 1) ws, take_snoc g1, List.map_append, List.map_append, List.append_assoc] at nd
        exact (List.nodup_append.mp nd).2.2 x.1 z x.1 (List.mem_append_left _ List.mem_cons_self) rfl
    · rintro H2 ⟨s2, hD2⟩
      rw [dk_len, List.take_length] at hD2
      refine ⟨s2 _ _ upd_same, ?_⟩
      have nDd : D ≠ d := fun z => by rw [z, upd_same] at hD; cases hD
      have s3 : Same H (upd H2 d (.dK (dk ws))) := Same.unlock h2 s2
      have hD3 : upd H2 d (.dK (dk ws)) D = some (.dK (dk (mulW ws k q))) := by rw [upd_ne nDd]; exact hD2
      generalize upd H2 d (.dK (dk ws)) = H3 at s3 hD3
      have h1'' := s3 _ _ h1
      refine ⟨_, rfl, p, T.S, dx, _, _, rfl, h1'', T.cl, T.nM, fl_m _ _ _, ?_⟩
      refine ⟨_, rfl, ?_⟩
      refine ⟨_, rfl, p, T.S, dx, _, _, rfl, h1'', T.cl, T.nC, fl_c _ _ _, _, rfl, _, _, rfl, rfl, .inl ⟨by omega, by omega⟩, ?_⟩
      refine ⟨_, rfl, p, T.S, dx, _, _, rfl, h1'', T.cl, T.nM, fl_m _ _ _, _, _, rfl, rfl, (show (0 : Int) < q by omega), ?_⟩
      intro x e nx ne nex
      have hq0 : 0 < q := by omega
      refine ⟨x, e, D, q, _, N, mulW ws k q, rfl, upd_same, ?_, mulW_dct hcan.d hq0 k, hN, hq, Int.emod_nonneg _ (by omega), Int.emod_lt_of_pos _ hq0, fun us ed H4 _ c4 w4 sx4 sd4 kp4 => ⟨rfl, ?_⟩⟩
      · rw [upd_ne (ne_of_none hD3 nx), upd_ne (ne_of_none hD3 ne)]; exact hD3
      · have s4 : Same H3 H4 := Same.made nx ne kp4
        exact kk x us H4 (s3.free nx) (s3.trans s4) ⟨_, ed, sx4, sd4, c4, Int.emod_nonneg _ (by omega), Int.emod_lt_of_pos _ hq0⟩ fun n => by rw [w4, mulW_wt]
/-! ### Sum.__neg__ -/
def spNeg (S : Addr) : Sp := fun vs H Q _ => ∃ (p : Addr) (q : Int) (N : List Str) (ws : Ws) (c : Int), vs = [.ref p] ∧ SumAt S H p q N ws c ∧ Nms N ∧ IsMod q ∧
  ∀ (x : Addr) (us : Ws) (H' : Hp), H x = none → Same H H' → SumAt S H' x q N us (c * -1 % q) → (∀ n, wt us n = wt ws n * -1 % q) → Q (.ref x) H'
theorem scNeg : FnScope ["self"] ["self"] (defScope sNeg) := ⟨rfl, rfl, rfl, by decide +kernel, rfl, by decide +kernel, by decide +kernel⟩
theorem ok_neg (T : T3 K mg) : FnOk P w K mg base CX0 7 T.neg.f T.neg.fd ["self"] (spNeg T.S) := by
  have GM : FnOk P w K mg base CX0 6 T.mul.f T.mul.fd ["self", "number"] (spMul T.S) := ok_mul T
  obtain ⟨fo, hi1⟩ := T.imul
  obtain ⟨ro, hi2⟩ := T.irmul
  refine T.neg.F.ok scNeg (fun vs H Q E h => ?_) (fun cdv A outer s H vs Q E hr h => ?_)
  · obtain ⟨p, q, N, ws, c, rfl, _⟩ := h
    rfl
  · obtain ⟨p, q, N, ws, c, rfl, hS, hN, hq, kk⟩ := h
    refine ⟨_, pss_one (ps_ret (pe_op (op_ownI (op := .Mult) GM hr T.sf T.mul.m.at_ T.mul.m.fn T.rmul (.inl rfl) hi1 hi2 T.isub T.mul.b pass0) (pv 0) (pe_un un_neg pe_int))), ?_⟩
    obtain ⟨dx, d, h1, h2, h3⟩ := id hS
    exact ⟨_, rfl, 1, rfl, p, dx, _, -1, rfl, rfl, h1, p, q, N, ws, c, -1, rfl, hS, hN, hq, kk⟩
end
end Q
set_option Elab.async false
set_option maxRecDepth 100000
set_option maxHeartbeats 4000000
namespace Q
open PySem L2 QR QM
section
variable {P : Program} {w : World} {K : PySem.W.Frag} {mg : Str → Option Value} {base : Heap}
/-! ### Sum.__add__ -/
def spAdd (S : Addr) : Sp := fun xs H Q _ => ∃ (p o : Addr) (q : Int) (N : List Str) (ws vs : Ws) (c c' : Int), xs = [.ref p, .ref o] ∧ SumAt S H p q N ws c ∧ SumAt S H o q N vs c' ∧ Nms N ∧ IsMod q ∧
  ∀ (x : Addr) (us : Ws) (H' : Hp), H x = none → Same H H' → SumAt S H' x q N us ((c + c') % q) → (∀ n, wt us n = (wt ws n + wt vs n) % q) → Q (.ref x) H'
theorem scAdd : FnScope ["self", "other", "weights", "name", "weight"] ["self", "other"] (defScope sAdd) := ⟨rfl, rfl, rfl, by decide +kernel, rfl, by decide +kernel, by decide +kernel⟩
theorem ok_add (T : T3 K mg) : FnOk P w K mg base CX0 6 T.add.f T.add.fd ["self", "other"] (spAdd T.S) := by
  have GA : FnOk P w K mg base CX0 3 T.wantAlike.f T.wantAlike.fd ["self", "other"] (spWantAlike T.S) := ok_wantAlike T
  have GW : FnOk P w K mg base CX0 1 T.weights.f T.weights.fd ["self"] (spWeights T.S) := ok_weights T
  have GC : FnOk P w K mg base CX0 1 T.constant.f T.constant.fd ["self"] (getSp T.S "own_constant") := ok_constant T
  have GS : FnOk P w K mg base CX0 4 T.fI T.fdI psInit (spInit T.S) := ok_init T.toT2
  refine T.add.F.ok scAdd (fun vs H Q E h => ?_) (fun cdv A outer s H vs Q E hr h => ?_)
  · obtain ⟨p, o, q, N, ws, vs, c, c', rfl, _⟩ := h
    rfl
  · obtain ⟨p, o, q, N, ws, vs, c, c', rfl, hS, hO, hN, hq, kk⟩ := h
    have hr1 : Room 1 _ := hr.mono (by decide)
    have hr2 : Room 2 _ := hr.mono (by decide)
    have hr3 : Room 3 _ := hr.mono (by decide)
    have hu := hu_of hr
    refine ⟨_, pss_cons (ps_expr (pe_meth (pv 0) T.cl T.wantAlike.m GA hr3 T.wantAlike.b .nil pass0 (pa_cons (pv 1) pa_nil)))
      (pss_cons (ps_set (i := 2) scAdd.nd rfl (Or.inl rfl) (pe_callTy call_dictD (by rfl) T.B.dict (by decide +kernel) (pa_cons (pe_fld (pv 0) rfl) pa_nil)))
      (pss_cons (ps_for PassesOwn.never rfl (pi_items (pe_frz (pe_meth0 (pv 1) T.cl T.weights.m GW hr1 T.weights.b .nil pass0)))
          (pg_tup rfl (pgs_cons (pg_name (i := 3) scAdd.nd rfl (Or.inl rfl)) (pgs_cons (pg_name (i := 4) scAdd.nd rfl (Or.inl rfl)) pgs_nil)))
          (pss_one (ps_dput hu (pv 2) (pv 3) (pe_op op_mod (pe_op op_add (pe_dget2 hu (pv 2) (pv 3) pe_int ⟨rfl, rfl, rfl, rfl⟩) (pv 4)) (pe_fld (pv 0) rfl)) rfl)))
      (pss_one (ps_ret (pe_make T.MI GS hr rfl T.gS T.bI .nil pass0 (pa_cons (pe_fld (pv 0) rfl) (pa_cons (pv 2) (pa_cons (pe_op op_mod (pe_op op_add (pe_fld (pv 0) rfl) (pe_prop (pv 1) T.cl T.constant.pr GC hr2 T.constant.b .nil pass0 rfl)) (pe_fld (pv 0) rfl)) pa_nil)))))))), ?_⟩
    obtain ⟨dx, d, h1, h2, hcan, hc0, hc1⟩ := id hS
    obtain ⟨dy, e, o1, o2, ocan, oc0, oc1⟩ := id hO
    have hq2 := hq.pos
    have hq0 : 0 < q := by omega
    have hl := hcan.d.len
    have hl2 := hN.len
    refine ⟨_, rfl, p, dx, _, rfl, h1, fl_no (by decide +kernel) (by decide +kernel) (by decide +kernel), _, rfl, p, o, q, dx, dy, d, e, c, c', rfl, h1, o1, ?_⟩
    refine ⟨_, rfl, p, T.S, dx, _, _, rfl, h1, T.cl, T.nW, fl_w _ _ _, d, dk ws, rfl, .inl h2, fun W hW => ?_⟩
    have s1 : Same H (upd H W (.dK (dk ws))) := Same.new hW
    have hW1 : upd H W (.dK (dk ws)) W = some (.dK (dk ws)) := upd_same
    generalize upd H W (.dK (dk ws)) = H1 at s1 hW1
    refine ⟨_, rfl, o, dy, _, rfl, s1 _ _ o1, fl_no (by decide +kernel) (by decide +kernel) (by decide +kernel), ?_⟩
    refine ⟨o, q, N, vs, c', rfl, hO.same s1, fun F hF => ?_⟩
    refine ⟨F, .dK (dk vs), rfl, upd_same, True.intro, fun od => ⟨F, od, dk vs, rfl, upd_same, ?_⟩⟩
    have nWF : W ≠ F := ne_of_none hW1 hF
    have hF0 : H F = none := s1.free hF
    rw [upd_upd]
    refine for_it walk_items (fun i σ H2 => ∃ v3 v4, σ = [some (.ref p), some (.ref o), some (.ref W), v3, v4] ∧ Same H H2 ∧ H2 F = some (.frz od (.dK (dk vs))) ∧ H2 W = some (.dK (dk (addW q ws (vs.take i))))) ⟨none, none, rfl, Same.mut s1 hF0, upd_same, by rw [upd_ne nWF]; exact hW1⟩ (fun i σ H2 _ ⟨_, _, _, _, z, _⟩ => z) ?_ ?_
    · rintro i y σ H2 H2' hi ⟨v3, v4, rfl, s2, hF2, hW2⟩ y2
      obtain ⟨x, T0, g1, g2, rfl, hT, rfl⟩ := ypair_dk hi y2
      have s3 : Same H2 (upd H2 T0 (.tup [.str x.1, .int x.2])) := Same.new hT
      have hx := ocan.d.mem x g2
      have hW3 := s3 _ _ hW2
      have hA : Dct 0 q N (addW q ws (vs.take i)) := addW_dct hq0 hcan.d.weak fun y hy => (ocan.d.mem y (List.mem_of_mem_take hy)).1
      have hAl := hA.len
      refine ⟨T0, _, rfl, SqT.of upd_same, rfl, _, _, rfl, _, _, rfl, rfl, ?_⟩
      refine ⟨_, rfl, W, rfl, .inl ⟨_, .inl hW3⟩, _, rfl, _, DGet.k (k := Sum.inr x.1) hW3, ?_⟩
      rw [getD_dk]
      refine ⟨_, rfl, _, _, rfl, rfl, ?_⟩
      refine ⟨_, rfl, p, T.S, dx, _, _, rfl, s3 _ _ (s2 _ _ h1), T.cl, T.nM, fl_m _ _ _, _, _, rfl, rfl, hq0, ?_⟩
      refine ⟨_, rfl, _, rfl, W, _, rfl, DPut.k (k := Sum.inr x.1) hW3 (by rw [dk_len]; exact sz_lt (by omega)), ?_⟩
      refine ⟨_, _, rfl, Same.mut (s2.trans s3) hW, ?_, ?_⟩
      · rw [upd_ne nWF.symm]; exact s3 _ _ hF2
      · rw [upd_same, putK_dk, take_snoc g1, addW_snoc]
    · rintro σ H2 ⟨v3, v4, rfl, s2, hF2, hW2⟩
      rw [dk_len, List.take_length] at hW2
      have h1' := s2 _ _ h1
      have o1' := s2 _ _ o1
      refine ⟨_, rfl, p, T.S, dx, _, _, rfl, h1', T.cl, T.nM, fl_m _ _ _, ?_⟩
      refine ⟨_, rfl, ?_⟩
      refine ⟨_, rfl, p, T.S, dx, _, _, rfl, h1', T.cl, T.nC, fl_c _ _ _, ?_⟩
      refine ⟨_, rfl, o, dy, _, rfl, o1', o, dy, _, _, rfl, o1', fl_c _ _ _, _, _, rfl, rfl, ?_⟩
      refine ⟨_, rfl, p, T.S, dx, _, _, rfl, h1', T.cl, T.nM, fl_m _ _ _, _, _, rfl, rfl, hq0, ?_⟩
      intro x e' nx ne nex
      have hv : ∀ y ∈ vs, y.1 ∈ N := fun y hy => (ocan.d.mem y hy).1
      refine ⟨x, e', W, q, _, N, addW q ws vs, rfl, upd_same, ?_, addW_dct hq0 hcan.d.weak hv, hN, hq, Int.emod_nonneg _ (by omega), Int.emod_lt_of_pos _ hq0, fun us ed H4 _ c4 w4 sx4 sd4 kp4 => ⟨rfl, ?_⟩⟩
      · rw [upd_ne (ne_of_none hW2 nx), upd_ne (ne_of_none hW2 ne)]; exact hW2
      · have s4 : Same H2 H4 := Same.made nx ne kp4
        exact kk x us H4 (s2.free nx) (s2.trans s4) ⟨_, ed, sx4, sd4, c4, Int.emod_nonneg _ (by omega), Int.emod_lt_of_pos _ hq0⟩ fun n => by rw [w4, addW_wt hq0 n hcan.d.weak ocan.d.nd hv]
/-! ### Sum.__sub__ -/
def spSub (S : Addr) : Sp := fun xs H Q _ => ∃ (p o : Addr) (q : Int) (N : List Str) (ws vs : Ws) (c c' : Int), xs = [.ref p, .ref o] ∧ SumAt S H p q N ws c ∧ SumAt S H o q N vs c' ∧ Nms N ∧ IsMod q ∧
  ∀ (x : Addr) (us : Ws) (H' : Hp), H x = none → Same H H' → SumAt S H' x q N us ((c + c' * -1 % q) % q) → (∀ n, wt us n = (wt ws n + wt vs n * -1 % q) % q) → Q (.ref x) H'
theorem scSub : FnScope ["self", "other"] ["self", "other"] (defScope sSub) := ⟨rfl, rfl, rfl, by decide +kernel, rfl, by decide +kernel, by decide +kernel⟩
theorem ok_sub (T : T3 K mg) : FnOk P w K mg base CX0 7 T.sub.f T.sub.fd ["self", "other"] (spSub T.S) := by
  have GA : FnOk P w K mg base CX0 3 T.wantAlike.f T.wantAlike.fd ["self", "other"] (spWantAlike T.S) := ok_wantAlike T
  have GP : FnOk P w K mg base CX0 6 T.add.f T.add.fd ["self", "other"] (spAdd T.S) := ok_add T
  have GM : FnOk P w K mg base CX0 6 T.mul.f T.mul.fd ["self", "number"] (spMul T.S) := ok_mul T
  obtain ⟨fo, hi1⟩ := T.imul
  obtain ⟨ro, hi2⟩ := T.irmul
  refine T.sub.F.ok scSub (fun vs H Q E h => ?_) (fun cdv A outer s H vs Q E hr h => ?_)
  · obtain ⟨p, o, q, N, ws, vs, c, c', rfl, _⟩ := h
    rfl
  · obtain ⟨p, o, q, N, ws, vs, c, c', rfl, hS, hO, hN, hq, kk⟩ := h
    have hr3 : Room 3 _ := hr.mono (by decide)
    refine ⟨_, pss_cons (ps_expr (pe_meth (pv 0) T.cl T.wantAlike.m GA hr3 T.wantAlike.b .nil pass0 (pa_cons (pv 1) pa_nil)))
      (pss_one (ps_ret (pe_op (op_own2 (op := .Add) GP hr T.sf T.add.m.at_ T.add.m.fn T.add.b pass0) (pv 0) (pe_op (op_ownI (op := .Mult) GM hr T.sf T.mul.m.at_ T.mul.m.fn T.rmul (.inl rfl) hi1 hi2 T.isub T.mul.b pass0) (pv 1) (pe_un un_neg pe_int))))), ?_⟩
    obtain ⟨dx, d, h1, h2, hcan, hc0, hc1⟩ := id hS
    obtain ⟨dy, e, o1, o2, ocan, oc0, oc1⟩ := id hO
    refine ⟨_, rfl, p, dx, _, rfl, h1, fl_no (by decide +kernel) (by decide +kernel) (by decide +kernel), _, rfl, p, o, q, dx, dy, d, e, c, c', rfl, h1, o1, ?_⟩
    refine ⟨_, rfl, _, rfl, 1, rfl, o, dy, _, -1, rfl, rfl, o1, o, q, N, vs, c', -1, rfl, hO, hN, hq, fun m ms H1 nm s1 hm hmw => ?_⟩
    obtain ⟨dz, f, m1, m2, m3⟩ := id hm
    refine ⟨p, m, dx, dz, _, _, rfl, rfl, s1 _ _ h1, m1, p, m, q, N, ws, ms, c, _, rfl, hS.same s1, hm, hN, hq, fun x us H2 nx s2 hx hxw => ?_⟩
    exact kk x us H2 (s1.free nx) (s1.trans s2) hx fun n => by rw [hxw, hmw]
end
end Q
set_option Elab.async false
set_option maxRecDepth 100000
set_option maxHeartbeats 1000000
namespace QM
open PySem L2 QR
/-! ### values, and sums put for names -/
/-- the sum of g over the pairs -/
def tot (g : Str → Int) (ws : Ws) : Int := (ws.map fun p => p.2 * g p.1).sum
theorem tot_nil (g : Str → Int) : tot g [] = 0 := rfl
theorem tot_snoc (g : Str → Int) (ws : Ws) (p : Str × Int) : tot g (ws ++ [p]) = tot g ws + p.2 * g p.1 := by
  unfold tot
  rw [List.map_append, List.sum_append]
  simp
theorem sum_perm : ∀ {l m : List Int}, l.Perm m → l.sum = m.sum := by
  intro l m h
  induction h with
  | nil => rfl
  | cons x _ ih => rw [List.sum_cons, List.sum_cons, ih]
  | swap x y l => rw [List.sum_cons, List.sum_cons, List.sum_cons, List.sum_cons]; omega
  | trans _ _ a b => rw [a, b]
theorem tot_perm {g : Str → Int} {ws vs : Ws} (h : ws.Perm vs) : tot g ws = tot g vs := sum_perm (h.map _)
theorem tot_congr {g g' : Str → Int} {ws : Ws} (h : ∀ p ∈ ws, g p.1 = g' p.1) : tot g ws = tot g' ws := by
  unfold tot
  congr 1
  exact List.map_congr_left fun p hp => by rw [h p hp]
theorem emod_add_mul {a b w q : Int} : (a % q + b * w % q) % q = (a + w * b) % q := by
  rw [← Int.add_emod, Int.mul_comm]
end QM
set_option Elab.async false
set_option maxRecDepth 100000
set_option maxHeartbeats 4000000
namespace Q
open PySem L2 QR QM
theorem rd_lock {H : Hp} {a d : Addr} {od : Obj} {u u' : HO} (h : H a = some u') (hd : H d = some u) : Rd (upd H d (.frz od u)) a u' := by
  by_cases e : a = d
  · subst e
    rw [h] at hd
    cases hd
    exact .inr ⟨od, upd_same⟩
  · exact .inl (by rw [upd_ne e]; exact h)
theorem rd_same {H H' : Hp} {a : Addr} {u : HO} (s : Same H H') (h : Rd H a u) : Rd H' a u := by
  rcases h with h | ⟨o, h⟩
  · exact .inl (s _ _ h)
  · exact .inr ⟨o, s _ _ h⟩
theorem dget_rd {H : Hp} {a : Addr} {R : Ws} (h : Rd H a (.dK (dk R))) (n : Str) : DGet H a (.str n) ((lk R n).map V.int) := .inl ⟨_, Sum.inr n, h, rfl, (valV_dk n R).symm⟩
section
variable {P : Program} {w : World} {K : PySem.W.Frag} {mg : Str → Option Value} {base : Heap}
/-! ### Sum.at -/
def spAt (S : Addr) : Sp := fun xs H Q _ => ∃ (p wd : Addr) (q : Int) (N : List Str) (ws W : Ws) (c : Int), xs = [.ref p, .ref wd] ∧ SumAt S H p q N ws c ∧ Nms N ∧ IsMod q ∧ H wd = some (.dK (dk W)) ∧ IsWd q W ∧ W.length ≤ 1000 ∧ (∀ x ∈ ws, x.1 ∈ W.map (·.1)) ∧
  ∀ H', Same H H' → Q (.int ((c + tot (wt W) ws) % q)) H'
theorem scAt : FnScope ["self", "world", "total", "name", "weight"] ["self", "world"] (defScope sAt) := ⟨rfl, rfl, rfl, by decide +kernel, rfl, by decide +kernel, by decide +kernel⟩
theorem ok_at (T : T3 K mg) : FnOk P w K mg base CX0 4 T.at_.f T.at_.fd ["self", "world"] (spAt T.S) := by
  have GW : FnOk P w K mg base CX0 3 T.isWorld.f T.isWorld.fd ["value", "modulus"] spIsWorld := ok_isWorld T.toT1
  refine T.at_.F.ok scAt (fun vs H Q E h => ?_) (fun cdv A outer s H vs Q E hr h => ?_)
  · obtain ⟨p, wd, q, N, ws, W, c, rfl, _⟩ := h
    rfl
  · obtain ⟨p, wd, q, N, ws, W, c, rfl, hS, hN, hq, hW, hWd, hWl, hsub, kk⟩ := h
    have hu := hu_of hr
    refine ⟨_, pss_cons (ps_if (pt_not (pt_val (pe_call GW hr (by rfl) T.gIsWorld T.isWorld.kp T.isWorld.b .nil pass0 (pa_cons (pv 1) (pa_cons (pe_fld (pv 0) rfl) pa_nil))))) pss_never pss_nil)
      (pss_cons (ps_set (i := 2) scAt.nd rfl (Or.inl rfl) (pe_fld (pv 0) rfl))
      (pss_cons (ps_lock (ps_for PassesOwn.never rfl (pi_items (pe_fld (pv 0) rfl))
          (pg_tup rfl (pgs_cons (pg_name (i := 3) scAt.nd rfl (Or.inl rfl)) (pgs_cons (pg_name (i := 4) scAt.nd rfl (Or.inl rfl)) pgs_nil)))
          (pss_cons (ps_if (pt_cmp (pc_dnotin hu (pv 3) (pv 1))) pss_never pss_nil)
          (pss_one (ps_aug (i := 2) scAt.nd rfl (Or.inl rfl) (pe_op op_mul (pv 4) (pe_dget hu (pv 1) (pv 3) (fun _ _ => rfl))) ip_add)))))
      (pss_one (ps_ret (pe_op op_mod (pv 2) (pe_fld (pv 0) rfl)))))), ?_⟩
    obtain ⟨dx, d, h1, h2, hcan, hc0, hc1⟩ := id hS
    have hq2 := hq.pos
    have hq0 : 0 < q := by omega
    refine ⟨_, rfl, _, rfl, p, T.S, dx, _, _, rfl, h1, T.cl, T.nM, fl_m _ _ _, wd, q, W, rfl, hW, hWd, hWl, fun H1 s1 => ⟨true, rfl, iteF ?_⟩⟩
    have h1' := s1 _ _ h1
    have h2' := s1 _ _ h2
    have hW' := s1 _ _ hW
    have npd : p ≠ d := ne_of h1 h2 (by intro z; cases z)
    refine ⟨_, rfl, p, T.S, dx, _, _, rfl, h1', T.cl, T.nC, fl_c _ _ _, ?_⟩
    refine ⟨d, _, h2', True.intro, fun od => ?_⟩
    have l1 : upd H1 d (.frz od (.dK (dk ws))) p = some (.ins T.S dx (fl q d c)) := by rw [upd_ne npd]; exact h1'
    have lW : Rd (upd H1 d (.frz od (.dK (dk ws)))) wd (.dK (dk W)) := rd_lock hW' h2'
    refine ⟨_, rfl, p, T.S, dx, _, _, rfl, l1, T.cl, T.nW, fl_w _ _ _, d, od, dk ws, rfl, upd_same, ?_⟩
    refine for_it walk_items (fun i σ H2 => ∃ v3 v4, σ = [some (.ref p), some (.ref wd), some (.int (c + tot (wt W) (ws.take i))), v3, v4] ∧ Same (upd H1 d (.frz od (.dK (dk ws)))) H2) ⟨none, none, ?_, Same.refl _⟩ (fun i σ H2 _ ⟨_, _, _, z⟩ => z _ _ upd_same) ?_ ?_
    · show _ = [some (V.ref p), some (V.ref wd), some (V.int (c + tot (wt W) [])), none, none]
      rw [tot_nil, Int.add_zero]
      rfl
    · rintro i y σ H2 H2' hi ⟨v3, v4, rfl, s2⟩ y2
      obtain ⟨x, T0, g1, g2, rfl, hT, rfl⟩ := ypair_dk hi y2
      have s3 : Same H2 (upd H2 T0 (.tup [.str x.1, .int x.2])) := Same.new hT
      have hx := hcan.d.mem x g2
      have hm := hsub x g2
      have hg : DGet (upd H2 T0 (.tup [.str x.1, .int x.2])) wd (.str x.1) (some (.int (wt W x.1))) := by
        have := dget_rd (rd_same (s2.trans s3) lW) x.1
        rw [lk_of_mem hm] at this
        exact this
      refine ⟨T0, _, rfl, SqT.of upd_same, rfl, _, _, rfl, _, _, rfl, rfl, ?_⟩
      refine ⟨_, rfl, _, rfl, wd, _, rfl, hg, _, rfl, ?_⟩
      refine iteF ?_
      refine ⟨_, rfl, _, rfl, _, rfl, _, rfl, wd, _, rfl, hg, _, _, rfl, rfl, .inl ⟨by omega, by omega⟩, _, _, rfl, rfl, ?_⟩
      refine ⟨some (.str x.1), some (.int x.2), ?_, s2.trans s3⟩
      rw [take_snoc g1, tot_snoc, ← Int.add_assoc]
      rfl
    · rintro σ H2 ⟨v3, v4, rfl, s2⟩
      rw [dk_len, List.take_length]
      refine ⟨s2 _ _ upd_same, ?_⟩
      have s3 : Same H1 (upd H2 d (.dK (dk ws))) := Same.unlock h2' s2
      refine ⟨_, rfl, _, rfl, p, T.S, dx, _, _, rfl, s3 _ _ h1', T.cl, T.nM, fl_m _ _ _, _, _, rfl, rfl, hq0, ?_⟩
      exact kk _ (s1.trans s3)
/-! ### is_sum -/
def spIsSum (S : Addr) : Sp := fun xs H Q _ => ∃ (p dx d : Addr) (q c : Int), xs = [.ref p, .int q] ∧ H p = some (.ins S dx (fl q d c)) ∧ Q (.bl true) H
theorem scIsSum : FnScope ["value", "modulus"] ["value", "modulus"] (defScope sIsSum) := ⟨rfl, rfl, rfl, by decide +kernel, rfl, by decide +kernel, by decide +kernel⟩
theorem ok_isSum (T : T2 K mg) : FnOk P w K mg base CX0 1 T.isSum.f T.isSum.fd ["value", "modulus"] (spIsSum T.S) := by
  refine T.isSum.F.ok scIsSum (fun vs H Q E h => ?_) (fun cdv A outer s H vs Q E hr h => ?_)
  · obtain ⟨p, dx, d, q, c, rfl, _⟩ := h
    rfl
  · obtain ⟨p, dx, d, q, c, rfl, h1, k⟩ := h
    refine ⟨_, pss_one (ps_ret (pe_and (pe_callB call_isi (by rfl) T.B.isinstance (by decide +kernel) (pa_cons (pv 0) (pa_cons (pe_glob (v := .ref T.S) rfl T.gS rfl) pa_nil)))
      (pe_one (pe_cmpR op_eq (pe_fld (pv 0) rfl) (pv 1) (nomark _))))), ?_⟩
    refine ⟨_, rfl, _, _, _, _, true, rfl, .own _, T.ty h1, kit_self, true, rfl, iteT ?_⟩
    refine ⟨_, rfl, p, T.S, dx, _, _, rfl, h1, T.cl, T.nM, fl_m _ _ _, _, rfl, rfl, ?_⟩
    show Q (.bl (decide (V.int q = V.int q))) H
    rw [decide_eq_true rfl]
    exact k
end
end Q
set_option Elab.async false
set_option maxRecDepth 100000
set_option maxHeartbeats 4000000
namespace Q
open PySem L2 QR QM
/-! ### dicts from names to sums -/
abbrev Ss := List (Str × Addr)
def sk (ss : Ss) : List (Key × V) := ss.map fun p => (Sum.inr p.1, V.ref p.2)
def lkA (ss : Ss) (n : Str) : Option Addr := (ss.find? fun p => decide (p.1 = n)).map (·.2)
theorem sk_len (ss : Ss) : (sk ss).length = ss.length := by unfold sk; rw [List.length_map]
theorem lkA_cons (p : Str × Addr) (r : Ss) (n : Str) : lkA (p :: r) n = if p.1 = n then some p.2 else lkA r n := by
  unfold lkA
  rw [List.find?_cons]
  by_cases e : p.1 = n <;> simp [e]
theorem valV_sk (n : Str) : ∀ ss : Ss, valV (sk ss) (Sum.inr n : Key) = (lkA ss n).map V.ref
  | [] => rfl
  | p :: r => by
    rw [lkA_cons]
    show valV ((Sum.inr p.1, V.ref p.2) :: sk r) (Sum.inr n : Key) = _
    by_cases e : p.1 = n
    · rw [if_pos e, valV_pos (show (Sum.inr p.1 : Key) = Sum.inr n by rw [e])]; rfl
    · rw [if_neg e, valV_neg (show ¬ (Sum.inr p.1 : Key) = Sum.inr n from fun z => e (Sum.inr.inj z)), valV_sk n r]
theorem lkA_mem : ∀ {ss : Ss} {n : Str} {a : Addr}, lkA ss n = some a → (n, a) ∈ ss
  | [], n, v, h => by cases h
  | p :: r, n, v, h => by
    rw [lkA_cons] at h
    by_cases e : p.1 = n
    · rw [if_pos e] at h
      have z := Option.some.inj h
      rw [← e, ← z]; exact List.mem_cons_self
    · rw [if_neg e] at h
      exact List.mem_cons_of_mem _ (lkA_mem h)
theorem lkA_none : ∀ {ss : Ss} {n : Str}, lkA ss n = none → ¬ n ∈ ss.map (·.1)
  | [], n, _ => by simp
  | p :: r, n, h => by
    rw [lkA_cons] at h
    by_cases e : p.1 = n
    · rw [if_pos e] at h; cases h
    · rw [if_neg e] at h
      intro z
      rcases List.mem_cons.mp z with z | z
      · exact e z.symm
      · exact lkA_none h z
theorem lkA_of {ss : Ss} {n : Str} (h : n ∈ ss.map (·.1)) : ∃ a, lkA ss n = some a ∧ (n, a) ∈ ss := by
  cases e : lkA ss n with
  | none => exact absurd h (lkA_none e)
  | some a => exact ⟨a, rfl, lkA_mem e⟩
theorem dget_sk {H : Hp} {a : Addr} {ss : Ss} (h : Rd H a (.dK (sk ss))) (n : Str) : DGet H a (.str n) ((lkA ss n).map V.ref) := .inl ⟨_, Sum.inr n, h, rfl, (valV_sk n ss).symm⟩
/-- a sum whose dict was not there in H0 -/
def SumIn (S : Addr) (H0 H : Hp) (p : Addr) (q : Int) (N : List Str) (ws : Ws) (c : Int) : Prop :=
  ∃ dx d, H0 d = none ∧ H p = some (.ins S dx (fl q d c)) ∧ H d = some (.dK (dk ws)) ∧ Canon q N ws ∧ 0 ≤ c ∧ c < q
theorem SumIn.same {S : Addr} {H0 H H' : Hp} {p : Addr} {q : Int} {N : List Str} {ws : Ws} {c : Int} (h : SumIn S H0 H p q N ws c) (s : Same H H') : SumIn S H0 H' p q N ws c := by
  obtain ⟨dx, d, h0, h1, h2, h3⟩ := h
  exact ⟨dx, d, h0, s _ _ h1, s _ _ h2, h3⟩
theorem SumIn.at {S : Addr} {H0 H : Hp} {p : Addr} {q : Int} {N : List Str} {ws : Ws} {c : Int} (h : SumIn S H0 H p q N ws c) : SumAt S H p q N ws c := by
  obtain ⟨dx, d, h0, h1, h2, h3⟩ := h
  exact ⟨dx, d, h1, h2, h3⟩
theorem SumIn.lock {S : Addr} {H0 H : Hp} {p e : Addr} {q : Int} {N : List Str} {ws : Ws} {c : Int} {o u : HO} {kvs : List (Key × V)} (h : SumIn S H0 H p q N ws c) (he : H0 e = some o) (hk : H e = some (.dK kvs)) : SumAt S (upd H e u) p q N ws c := by
  obtain ⟨dx, d, h0, h1, h2, h3⟩ := h
  exact ⟨dx, d, by rw [upd_ne (ne_of h1 hk (by intro z; cases z))]; exact h1, by rw [upd_ne (ne_of_none he h0).symm]; exact h2, h3⟩
theorem SumAt.unlock {S : Addr} {H : Hp} {p e : Addr} {q : Int} {N : List Str} {ws : Ws} {c : Int} {o : Obj} {u v : HO} (h : SumAt S H p q N ws c) (he : H e = some (.frz o v)) : SumAt S (upd H e u) p q N ws c := by
  obtain ⟨dx, d, h1, h2, h3⟩ := h
  exact ⟨dx, d, by rw [upd_ne (ne_of h1 he (by intro z; cases z))]; exact h1, by rw [upd_ne (ne_of h2 he (by intro z; cases z))]; exact h2, h3⟩
open Classical in
/-- what is put for a name -/
noncomputable def rW (ss : Ss) (G : Str → Ws) (n : Str) : Ws := if n ∈ ss.map (·.1) then G n else [(n, 1)]
open Classical in
noncomputable def rC (ss : Ss) (g : Str → Int) (n : Str) : Int := if n ∈ ss.map (·.1) then g n else 0
section
variable {P : Program} {w : World} {K : PySem.W.Frag} {mg : Str → Option Value} {base : Heap}
/-! ### Sum.put -/
def spPut (S : Addr) : Sp := fun xs H Q _ => ∃ (p sd : Addr) (q : Int) (N : List Str) (ws : Ws) (c : Int) (H0 : Hp) (ss : Ss) (G : Str → Ws) (g : Str → Int), xs = [.ref p, .ref sd] ∧ Same H0 H ∧ SumAt S H0 p q N ws c ∧ Nms N ∧ IsMod q ∧
  H sd = some (.dK (sk ss)) ∧ ss.length ≤ 1000 ∧ (∀ x ∈ ss, IsNm x.1 ∧ SumIn S H0 H x.2 q N (G x.1) (g x.1)) ∧
  ∀ (x : Addr) (us : Ws) (H' : Hp), Same H H' → SumAt S H' x q N us ((c + tot (rC ss g) ws) % q) → (∀ m, wt us m = tot (fun n => wt (rW ss G n) m) ws % q) → Q (.ref x) H'
theorem scPut : FnScope ["self", "sums", "is_right", "name", "found", "weight"] ["self", "sums"] (defScope sPut) := ⟨rfl, rfl, rfl, by decide +kernel, rfl, by decide +kernel, by decide +kernel⟩
theorem ok_put (T : T3 K mg) : FnOk P w K mg base CX0 7 T.put.f T.put.fd ["self", "sums"] (spPut T.S) := by
  have GN : FnOk P w K mg base CX0 1 T.isName.f T.isName.fd ["value"] spIsName := ok_isName T.isName T.B T.C
  have GI : FnOk P w K mg base CX0 1 T.isSum.f T.isSum.fd ["value", "modulus"] (spIsSum T.S) := ok_isSum T.toT2
  have GS : FnOk P w K mg base CX0 4 T.fI T.fdI psInit (spInit T.S) := ok_init T.toT2
  have GP : FnOk P w K mg base CX0 6 T.add.f T.add.fd ["self", "other"] (spAdd T.S) := ok_add T
  have GM : FnOk P w K mg base CX0 6 T.mul.f T.mul.fd ["self", "number"] (spMul T.S) := ok_mul T
  obtain ⟨fo, hi1⟩ := T.imul
  obtain ⟨ro, hi2⟩ := T.irmul
  obtain ⟨ds, hds, bI0⟩ := T.bI0
  refine T.put.F.ok scPut (fun vs H Q E h => ?_) (fun cdv A outer s H vs Q E hr h => ?_)
  · obtain ⟨p, sd, q, N, ws, c, H0, ss, G, g, rfl, _⟩ := h
    rfl
  · obtain ⟨p, sd, q, N, ws, c, H0, ss, G, g, rfl, s0, hS, hN, hq, hsd, hsl, hss, kk⟩ := h
    have hu := hu_of hr
    have hr1 : Room 1 _ := hr.mono (by decide)
    have hr5 : Room 5 _ := hr.mono (by decide)
    refine ⟨_, pss_cons (ps_set (i := 2) scPut.nd rfl (Or.inl rfl) (pe_callB call_isi (by rfl) T.B.isinstance (by decide +kernel) (pa_cons (pv 1) (pa_cons (pe_bltn (v := .ty "dict") (by rfl) T.B.dict (by decide +kernel) rfl) pa_nil))))
      (pss_cons (ps_if (PW.pt (pw_or (pt_not (pt_val (pv 2))) (pw_or1 (pt_not (pt_val (pe_callB (cr_all rfl) (by rfl) T.B.all (by decide +kernel) (pa_cons (pe_lock
          (pe_lc (own := [("name", 3)]) (g := gName 3) (tt := tYes) (te := tAndV (tCall spIsName [] E0 (tCons (tVar 3) tNil)) (tCall (spIsSum T.S) [] E0 (tCons (tDGet (tVar 1) (tVar 3)) (tCons (tFld K (tVar 0) "own_modulus") tNil)))) rfl scPut.nd (pi_keys (pv 1))
          (blkOk_by (own := [("name", 3)]) (N := ["self", "sums", "is_right", "name", "found", "weight"]) (sc := defScope sPut) (by decide +kernel))
          (fun _ _ _ _ _ => pg_name (i := 3) scPut.nd rfl (Or.inl rfl)) (fun _ _ _ _ _ => pts_nil)
          (fun _ _ _ _ _ => pe_and (pe_call GN hr1 (by rfl) T.gIsName T.isName.kp T.isName.b .nil pass0 (pa_cons (pv 3) pa_nil)) (pe_one (pe_call GI hr1 (by rfl) T.gIsSum T.isSum.kp T.isSum.b .nil pass0 (pa_cons (pe_dget hu (pv 1) (pv 3) (fun _ _ => rfl)) (pa_cons (pe_fld (pv 0) rfl) pa_nil))))))) pa_nil))))))) pss_never pss_nil)
      (pss_cons (ps_set (i := 4) scPut.nd rfl (Or.inl rfl) (pe_make T.MI GS hr5 rfl T.gS T.bI .nil pass0 (pa_cons (pe_fld (pv 0) rfl) (pa_cons pe_dnewK (pa_cons (pe_fld (pv 0) rfl) pa_nil)))))
      (pss_cons (ps_lock (ps_for PassesOwn.never rfl (pi_items (pe_fld (pv 0) rfl))
          (pg_tup rfl (pgs_cons (pg_name (i := 3) scPut.nd rfl (Or.inl rfl)) (pgs_cons (pg_name (i := 5) scPut.nd rfl (Or.inl rfl)) pgs_nil)))
          (pss_one (ps_set (i := 4) scPut.nd rfl (Or.inl rfl) (pe_op (op_own2 (op := .Add) GP hr T.sf T.add.m.at_ T.add.m.fn T.add.b pass0) (pv 4)
            (pe_op (op_ownI (op := .Mult) GM hr T.sf T.mul.m.at_ T.mul.m.fn T.rmul (.inl rfl) hi1 hi2 T.isub T.mul.b pass0)
              (pe_dget2 hu (pv 1) (pv 3) (pe_make T.MI GS hr5 rfl T.gS bI0 hds pass0 (pa_cons (pe_fld (pv 0) rfl) (pa_cons (pe_disp (pps_cons (pv 3) pe_int pps_nil) (by rfl) (by rfl) (fun z => by cases z) (by decide)) pa_nil))) ⟨rfl, rfl, rfl, rfl⟩) (pv 5)))))))
      (pss_one (ps_ret (pv 4)))))), ?_⟩
    obtain ⟨dx, d, z1, z2, hcan, hc0, hc1⟩ := id hS
    have h1 := s0 _ _ z1
    have h2 := s0 _ _ z2
    have hq2 := hq.pos
    have hq0 : 0 < q := by omega
    have hl2 := hN.len
    refine ⟨_, rfl, _, _, _, _, true, rfl, .ty _, .base (.dK hsd), kit_ty (by decide +kernel), ?_⟩
    refine ⟨_, rfl, true, rfl, iteF ?_⟩
    refine ⟨sd, _, hsd, True.intro, fun od => ?_⟩
    refine ⟨_, rfl, sd, od, rfl, .inl ⟨sk ss, upd_same, fun D hD => lc_map walk_keys (List.replicate ss.length (.bl true)) (by rw [List.length_replicate, sk_len]) (fun H1 s1 => s1 _ _ upd_same) hD (by rw [sk_len]; omega) (fun i x H1 H' hi s1 y P1 kp => ?_) fun H1 s1 hD1 => ?_⟩⟩
    · obtain ⟨rfl, k, v, hy, rfl⟩ := y
      rw [sk_len] at hi
      have hyi : ss[i]? = some ss[i] := List.getElem?_eq_getElem hi
      unfold sk at hy
      rw [List.getElem?_map, hyi] at hy
      cases hy
      have hm : ss[i] ∈ ss := List.getElem_mem hi
      obtain ⟨hnm, _⟩ := hss _ hm
      obtain ⟨a, ha, ham⟩ := lkA_of (ss := ss) (n := ss[i].1) (List.mem_map_of_mem hm)
      obtain ⟨_, dx', d', _, e1, _⟩ := hss _ ham
      have hp : upd H sd (.frz od (.dK (sk ss))) p = some (.ins T.S dx (fl q d c)) := by rw [upd_ne (ne_of h1 hsd (by intro z; cases z))]; exact h1
      have ha' : upd H sd (.frz od (.dK (sk ss))) a = some (.ins T.S dx' (fl q d' (g ss[i].1))) := by rw [upd_ne (ne_of e1 hsd (by intro z; cases z))]; exact e1
      refine ⟨rfl, ?_⟩
      refine ⟨_, rfl, ss[i].1, rfl, hnm, fun H2 s2 => ⟨true, rfl, iteT ?_⟩⟩
      have s3 := s1.trans s2
      have hg : DGet H2 sd (.str ss[i].1) (some (.ref a)) := by
        have := dget_sk (H := H2) (a := sd) (ss := ss) (.inr ⟨od, s3 _ _ upd_same⟩) ss[i].1
        rw [ha] at this
        exact this
      refine ⟨_, rfl, _, rfl, sd, _, rfl, hg, ?_⟩
      refine ⟨_, rfl, p, T.S, dx, _, _, rfl, s3 _ _ hp, T.cl, T.nM, fl_m _ _ _, a, dx', d', q, g ss[i].1, rfl, s3 _ _ ha', ?_⟩
      exact kp _ _ (by rw [List.getElem?_replicate, if_pos hi]) s2
    · refine ⟨s1 _ _ upd_same, ?_⟩
      have nDd : D ≠ sd := fun z => by rw [z, upd_same] at hD; cases hD
      refine ⟨D, List.replicate ss.length true, rfl, SqL.of (by rw [upd_ne nDd, hD1, List.map_replicate]), ?_⟩
      have e : (List.replicate ss.length true).all id = true := by simp
      rw [e]
      refine ⟨true, rfl, iteF ?_⟩
      have s2 : Same H (upd H1 sd (.dK (sk ss))) := Same.unlock hsd s1
      generalize upd H1 sd (.dK (sk ss)) = H2 at s2
      -- found = Sum(q, {}, c)
      refine ⟨_, rfl, p, T.S, dx, _, _, rfl, s2 _ _ h1, T.cl, T.nM, fl_m _ _ _, fun e0 he0 => ?_⟩
      have s3 : Same H2 (upd H2 e0 (.dK (dk []))) := Same.new he0
      have hE : upd H2 e0 (.dK (dk [])) e0 = some (.dK (dk [])) := upd_same
      change tCons _ _ _ (upd H2 e0 (.dK (dk []))) _
      generalize upd H2 e0 (.dK (dk [])) = H3 at s3 hE
      refine ⟨_, rfl, p, T.S, dx, _, _, rfl, s3 _ _ (s2 _ _ h1), T.cl, T.nC, fl_c _ _ _, ?_⟩
      intro f0 fx0 nf nfx nfe
      refine ⟨f0, fx0, e0, q, c, N, [], rfl, upd_same, by rw [upd_ne (ne_of_none hE nf), upd_ne (ne_of_none hE nfx)]; exact hE, Dct.nil, hN, hq, hc0, hc1, fun us ed H4 ned c4 w4 sx4 sd4 kp4 => ⟨rfl, ?_⟩⟩
      have s4 : Same H3 H4 := Same.made nf nfx kp4
      have sA : Same H H4 := (s2.trans s3).trans s4
      have ned3 : H ed = none := (s2.trans s3).free (by
        have z1 : ed ≠ f0 := fun z => by rw [z, upd_same] at ned; cases ned
        rw [upd_ne z1] at ned
        have z2 : ed ≠ fx0 := fun z => by rw [z, upd_same] at ned; cases ned
        rw [upd_ne z2] at ned
        exact ned)
      have hF0 : SumIn T.S H H4 f0 q N us c := ⟨_, ed, ned3, sx4, sd4, c4, hc0, hc1⟩
      -- the loop
      have npd : p ≠ d := ne_of h1 h2 (by intro z; cases z)
      have h1' := sA _ _ h1
      have h2' := sA _ _ h2
      refine ⟨d, _, h2', True.intro, fun ol => ?_⟩
      have l1 : upd H4 d (.frz ol (.dK (dk ws))) p = some (.ins T.S dx (fl q d c)) := by rw [upd_ne npd]; exact h1'
      have lsd : Rd (upd H4 d (.frz ol (.dK (dk ws)))) sd (.dK (sk ss)) := rd_lock (sA _ _ hsd) h2'
      have lss : ∀ x ∈ ss, SumAt T.S (upd H4 d (.frz ol (.dK (dk ws)))) x.2 q N (G x.1) (g x.1) := fun x hx => ((hss x hx).2.same sA).lock z2 h2'
      have lF : SumAt T.S (upd H4 d (.frz ol (.dK (dk ws)))) f0 q N us c := hF0.lock h2 h2'
      refine ⟨_, rfl, p, T.S, dx, _, _, rfl, l1, T.cl, T.nW, fl_w _ _ _, d, ol, dk ws, rfl, upd_same, ?_⟩
      have hLd : upd H4 d (.frz ol (.dK (dk ws))) d = some (.frz ol (.dK (dk ws))) := upd_same
      have hLk : ∀ H5, Same (upd H4 d (.frz ol (.dK (dk ws)))) H5 → Same H4 (upd H5 d (.dK (dk ws))) := fun H5 z => Same.unlock h2' z
      generalize upd H4 d (.frz ol (.dK (dk ws))) = HL at l1 lsd lss lF hLd hLk
      refine for_it walk_items (fun i σ H5 => ∃ f vs v3 v5, σ = [some (.ref p), some (.ref sd), some (.bl true), v3, some (.ref f), v5] ∧ Same HL H5 ∧ SumAt T.S H5 f q N vs ((c + tot (rC ss g) (ws.take i)) % q) ∧ ∀ m, wt vs m = tot (fun n => wt (rW ss G n) m) (ws.take i) % q)
        ⟨f0, us, none, none, rfl, Same.refl _, ?_, fun m => ?_⟩ (fun i σ H5 _ ⟨_, _, _, _, _, z, _⟩ => z _ _ hLd) ?_ ?_
      · rw [List.take_zero, tot_nil, Int.add_zero, Int.emod_eq_of_lt hc0 hc1]; exact lF
      · rw [List.take_zero, tot_nil, w4, wt_nil, Int.zero_emod]
      · rintro i y σ H5 H5' hi ⟨f, vs, v3, v5, rfl, s5, hF5, hw5⟩ y2
        obtain ⟨x, T0, g1, g2, rfl, hT, rfl⟩ := ypair_dk hi y2
        have s6 : Same HL (upd H5 T0 (.tup [.str x.1, .int x.2])) := s5.trans (Same.new hT)
        have hF6 := hF5.same (Same.new (o := .tup [.str x.1, .int x.2]) hT)
        have hx := hcan.d.mem x g2
        refine ⟨T0, _, rfl, SqT.of upd_same, rfl, _, _, rfl, _, _, rfl, rfl, ?_⟩
        generalize upd H5 T0 (.tup [.str x.1, .int x.2]) = H6 at s6 hF6
        refine ⟨_, rfl, _, rfl, sd, rfl, .inl ⟨_, rd_same s6 lsd⟩, _, rfl, ?_⟩
        -- the default: Sum(q, {name: 1})
        refine ⟨_, rfl, p, T.S, dx, _, _, rfl, s6 _ _ l1, T.cl, T.nM, fl_m _ _ _, fun e1 he1 => ?_⟩
        refine ⟨_, rfl, upd_same, [(Sum.inr x.1, V.int 1)], rfl, by show 1 ≤ 15; decide, ?_⟩
        have em : mergeK [] [((Sum.inr x.1 : Key), V.int 1)] = dk [(x.1, 1)] := rfl
        rw [em, upd_upd]
        have s7 : Same H6 (upd H6 e1 (.dK (dk [(x.1, 1)]))) := Same.new he1
        have hE1 : upd H6 e1 (.dK (dk [(x.1, 1)])) e1 = some (.dK (dk [(x.1, 1)])) := upd_same
        generalize upd H6 e1 (.dK (dk [(x.1, 1)])) = H7 at s7 hE1
        intro y0 yx ny nyx nye
        refine ⟨y0, yx, e1, q, 0, N, [(x.1, 1)], rfl, upd_same, by rw [upd_ne (ne_of_none hE1 ny), upd_ne (ne_of_none hE1 nyx)]; exact hE1, ⟨by simp, fun r hr => ?_⟩, hN, hq, Int.le_refl _, hq0, fun ys ey H8 _ c8 w8 sx8 sd8 kp8 => ⟨rfl, ?_⟩⟩
        · rw [List.mem_singleton.mp hr]; exact ⟨hx.1, by show (0 : Int) ≤ 1; decide, by show (1 : Int) < q; omega⟩
        have s8 : Same H7 H8 := Same.made ny nyx kp8
        have s9 : Same HL H8 := (s6.trans s7).trans s8
        have hF8 := (hF6.same s7).same s8
        have hY : SumAt T.S H8 y0 q N ys 0 := ⟨_, ey, sx8, sd8, c8, Int.le_refl _, hq0⟩
        -- what is put for the name
        have pick : ∃ a us', ((lkA ss x.1).map V.ref).getD (.ref y0) = .ref a ∧ SumAt T.S H8 a q N us' (rC ss g x.1) ∧ ∀ m, wt us' m = wt (rW ss G x.1) m := by
          cases e : lkA ss x.1 with
          | none =>
            have nm := lkA_none e
            refine ⟨y0, ys, rfl, ?_, fun m => ?_⟩
            · unfold rC; rw [if_neg nm]; exact hY
            · unfold rW; rw [if_neg nm, w8]
          | some a =>
            have am := lkA_mem e
            have km : x.1 ∈ ss.map (·.1) := List.mem_map_of_mem (f := (·.1)) am
            refine ⟨a, G x.1, rfl, ?_, fun m => ?_⟩
            · unfold rC; rw [if_pos km]; exact (lss _ am).same s9
            · unfold rW; rw [if_pos km]
        obtain ⟨a, us', ea, hA, hwA⟩ := pick
        refine ⟨_, dget_sk (rd_same s9 lsd) x.1, ?_⟩
        rw [ea]
        obtain ⟨dxa, da, a1, a2, a3⟩ := id hA
        refine ⟨_, rfl, a, dxa, _, x.2, rfl, rfl, a1, a, q, N, us', _, x.2, rfl, hA, hN, hq, fun m ms H9 nm s10 hM hMw => ?_⟩
        obtain ⟨dxm, dm, m1, m2, m3⟩ := id hM
        have hF9 := hF8.same s10
        obtain ⟨dxf, df, f1, f2, f3⟩ := id hF9
        refine ⟨f, m, dxf, dxm, _, _, rfl, rfl, f1, m1, f, m, q, N, vs, ms, _, _, rfl, hF9, hM, hN, hq, fun r rs H10 nr s11 hR hRw => ?_⟩
        refine ⟨r, rs, some (.str x.1), some (.int x.2), rfl, (s9.trans s10).trans s11, ?_, fun m' => ?_⟩
        · rw [take_snoc g1, tot_snoc, ← Int.add_assoc, ← emod_add_mul]
          exact hR
        · rw [hRw, hMw, hw5, hwA, take_snoc g1, tot_snoc, emod_add_mul]
      · rintro σ H5 ⟨f, vs, v3, v5, rfl, s5, hF5, hw5⟩
        rw [dk_len, List.take_length] at hF5
        rw [dk_len] at hw5
        refine ⟨s5 _ _ hLd, ?_⟩
        refine ⟨_, rfl, ?_⟩
        exact kk f vs _ (sA.trans (hLk _ s5)) (hF5.unlock (s5 _ _ hLd)) fun m => by rw [hw5, List.take_length]
end
end Q
set_option Elab.async false
set_option maxRecDepth 100000
set_option maxHeartbeats 4000000
namespace Q
open PySem L2 QR QM
/-- all but r is as it was -/
def SameX (r : Addr) (H H' : Hp) : Prop := ∀ b o, b ≠ r → H b = some o → H' b = some o
theorem SameX.refl (r : Addr) (H : Hp) : SameX r H H := fun _ _ _ h => h
theorem SameX.trans {r : Addr} {H H1 H2 : Hp} (a : SameX r H H1) (b : SameX r H1 H2) : SameX r H H2 := fun c o n h => b c o n (a c o n h)
theorem SameX.of {r : Addr} {H H' : Hp} (s : Same H H') : SameX r H H' := fun b o _ h => s b o h
theorem SameX.mut {r : Addr} {H H' : Hp} (s : SameX r H H') {p : Addr} {o : HO} (h : H p = none) : SameX r H (upd H' p o) := fun b u n e => by rw [upd_ne (ne_of_none e h)]; exact s b u n e
theorem SameX.new {r : Addr} {H : Hp} {p : Addr} {o : HO} (h : H p = none) : SameX r H (upd H p o) := SameX.of (Same.new h)
theorem SameX.own {r : Addr} {H H' : Hp} (s : SameX r H H') {o : HO} : SameX r H (upd H' r o) := fun b u n e => by rw [upd_ne n]; exact s b u n e
/-- nothing that r was is lost: an address free behind was free before -/
theorem SameX.free {r : Addr} {H H' : Hp} (s : SameX r H H') {o : HO} (hr : H' r = some o) {l : Addr} (h : H' l = none) : H l = none := by
  cases q : H l with
  | none => rfl
  | some u =>
    have n : l ≠ r := fun z => by rw [z, hr] at h; cases h
    rw [s l u n q] at h
    cases h
def RngAt (H : Hp) (r : Addr) : Prop := ∃ x y : Int, H r = some (.lst [.int x, .int y]) ∧ 0 ≤ x ∧ 0 ≤ y ∧ y < 2147483549
theorem RngAt.same {H H' : Hp} {r : Addr} (h : RngAt H r) (s : Same H H') : RngAt H' r := by
  obtain ⟨x, y, h1, h2⟩ := h
  exact ⟨x, y, s _ _ h1, h2⟩
/-- names of the law -/
structure T4 (K : PySem.W.Frag) (mg : Str → Option Value) extends T3 K mg where
  rng : FT K "_law_rng" "_law_rng" sLRng ["_law_script", "_law_k"]
  gRng : mg "_law_rng" = some (.ref rng.f)
  draw : FT K "_law_draw" "_law_draw" sLDraw ["_law_rng_here", "_law_many"]
  gDraw : mg "_law_draw" = some (.ref draw.f)
  someNames : FT K "_law_some_names" "_law_some_names" sLSomeNames ["_law_rng_here", "_law_many"]
  gSomeNames : mg "_law_some_names" = some (.ref someNames.f)
  drawn : FT K "_law_drawn" "_law_drawn" sLDrawn ["_law_rng_here", "_law_names", "_law_q"]
  gDrawn : mg "_law_drawn" = some (.ref drawn.f)
  added : FT K "_law_added" "_law_added" sLAdded ["_law_one", "_law_other", "_law_by", "_law_q"]
  gAdded : mg "_law_added" = some (.ref added.f)
  replaced : FT K "_law_replaced" "_law_replaced" sLReplaced ["_law_model", "_law_sums", "_law_q"]
  gReplaced : mg "_law_replaced" = some (.ref replaced.f)
  value : FT K "_law_value" "_law_value" sLValue ["_law_model", "_law_world", "_law_q"]
  gValue : mg "_law_value" = some (.ref value.f)
  tells : FT K "_law_tells" "_law_tells" sLTells ["_law_one", "_law_model", "_law_q"]
  gTells : mg "_law_tells" = some (.ref tells.f)
  right : FT K "_law_right" "_law_right" sLRight ["_law_rng_here"]
  gRight : mg "_law_right" = some (.ref right.f)
  valuesRight : FT K "_law_values_right" "_law_values_right" sLValuesRight ["_law_rng_here", "_law_names", "_law_pairs", "_law_q"]
  gValuesRight : mg "_law_values_right" = some (.ref valuesRight.f)
section
variable {P : Program} {w : World} {K : PySem.W.Frag} {mg : Str → Option Value} {base : Heap}
/-! ### _law_rng -/
def spRng (K : PySem.W.Frag) : Sp := fun xs H Q _ => ∃ (a : Addr) (ns : List Int) (k : Int), xs = [.ref a, .int k] ∧ SqL K H a (ns.map V.int) ∧ 0 ≤ k ∧ k < 10 ∧ ∀ r H', H r = none → Same H H' → RngAt H' r → Q (.ref r) H'
theorem scRng : FnScope ["_law_script", "_law_k", "_law_cell"] ["_law_script", "_law_k"] (defScope sLRng) := ⟨rfl, rfl, rfl, by decide +kernel, rfl, by decide +kernel, by decide +kernel⟩
theorem abs_nn (i : Int) : 0 ≤ (if i < 0 then -i else i) := by split <;> omega
theorem ok_rng (T : T4 K mg) : FnOk P w K mg base CX0 1 T.rng.f T.rng.fd ["_law_script", "_law_k"] (spRng K) := by
  refine T.rng.F.ok scRng (fun vs H Q E h => ?_) (fun cdv A outer s H vs Q E hr h => ?_)
  · obtain ⟨a, ns, k, rfl, _⟩ := h
    rfl
  · obtain ⟨a, ns, k, rfl, hS, hk0, hk1, kk⟩ := h
    refine ⟨_, pss_cons (ps_set (i := 2) scRng.nd rfl (Or.inl rfl) (pe_op op_add (pe_op op_mul pe_int (pv 1)) pe_int))
      (pss_cons (ps_if (pt_cmpR op_lt (pv 1) (pe_callB call_len_seq (by rfl) T.B.len PySem.boot_len (pa_cons (pv 0) pa_nil)) (nomark _))
        (pss_one (ps_set (i := 2) scRng.nd rfl (Or.inl rfl) (pe_ix ix_list (pv 0) (pv 1) (fun _ _ => rfl)))) pss_nil)
      (pss_one (ps_ret (pe_lst (pa_cons (pe_callB (call_max2 rfl) (by rfl) T.B.max (by decide +kernel) (pa_cons pe_int (pa_cons (pe_op op_sub (pe_callB call_abs (by rfl) T.B.abs (by decide +kernel) (pa_cons (pv 2) pa_nil)) (pe_op op_pow pe_int pe_int)) pa_nil)))
        (pa_cons (pe_op op_add (pe_op op_mod (pe_op op_mul (pe_callTy call_int1 (by rfl) T.B.int (by decide +kernel) (pa_cons (pe_op op_add (pe_op op_mod (pe_callTy call_int1 (by rfl) T.B.int (by decide +kernel) (pa_cons (pe_callB call_abs (by rfl) T.B.abs (by decide +kernel) (pa_cons (pv 2) pa_nil)) pa_nil)) pe_int) pe_int) pa_nil))
          (pe_op op_pow (pe_op op_add (pe_op op_mul pe_int (pv 1)) pe_int) pe_int)) pe_int) pe_int) pa_nil)))))), ?_⟩
    have rest : ∀ v : Int, (tRet (tLst (tCons (tCB (fun xs H Q => ∃ i j, xs = [.int i, .int j] ∧ Q (.int (if j > i then j else i)) H) (tCons (tC (.int 0)) (tCons (tOp (rI0 fun i j => .int (i - j)) (tCB (fun xs H Q => ∃ i, xs = [.int i] ∧ Q (.int (if i < 0 then -i else i)) H) (tCons (tVar 2) tNil)) (tOp (rI CPow fun i j => .int (i ^ j.toNat)) (tC (.int 10)) (tC (.int 18)))) tNil)))
        (tCons (tOp (rI0 fun i j => .int (i + j)) (tOp rMod (tOp rMul (tCB (fun xs H Q => (∃ i, xs = [.int i] ∧ Q (.int i) H) ∨ ∃ k, xs = [.bl k] ∧ Q (.int (if k then 1 else 0)) H) (tCons (tOp (rI0 fun i j => .int (i + j)) (tOp rMod (tCB (fun xs H Q => (∃ i, xs = [.int i] ∧ Q (.int i) H) ∨ ∃ k, xs = [.bl k] ∧ Q (.int (if k then 1 else 0)) H) (tCons (tCB (fun xs H Q => ∃ i, xs = [.int i] ∧ Q (.int (if i < 0 then -i else i)) H) (tCons (tVar 2) tNil)) tNil)) (tC (.int 2147483543))) (tC (.int 1))) tNil))
          (tOp (rI CPow fun i j => .int (i ^ j.toNat)) (tOp (rI0 fun i j => .int (i + j)) (tOp rMul (tC (.int 2)) (tVar 1)) (tC (.int 5))) (tC (.int 3)))) (tC (.int 2147483497))) (tC (.int 1))) tNil)))) { nx := fun _ H' => Q .non H', rt := Q } [some (.ref a), some (.int k), some (.int v)] H := by
      intro v
      refine ⟨_, rfl, _, rfl, _, _, rfl, rfl, ⟨by decide, by decide, by decide⟩, _, _, rfl, rfl, _, _, rfl, ?_⟩
      refine ⟨_, rfl, _, rfl, .inl ⟨_, rfl, _, _, rfl, rfl, (by show (0 : Int) < 2147483543; decide), _, _, rfl, rfl, .inl ⟨_, rfl, ?_⟩⟩⟩
      refine ⟨_, rfl, _, _, rfl, rfl, .inl ⟨by decide, by decide⟩, _, _, rfl, rfl, _, _, rfl, rfl, ⟨by decide, by decide, by omega⟩, _, _, rfl, rfl, .inl ⟨?_, ?_⟩, _, _, rfl, rfl, (by show (0 : Int) < 2147483497; decide), _, _, rfl, rfl, by show 2 ≤ sizeLine; decide, fun r hr0 => ?_⟩
      · have := Int.emod_nonneg (if v < 0 then -v else v) (show (2147483543 : Int) ≠ 0 by decide)
        omega
      · have := Int.emod_lt_of_pos (if v < 0 then -v else v) (show (0 : Int) < 2147483543 by decide)
        omega
      · refine kk r _ hr0 (Same.new hr0) ⟨_, _, upd_same, by split <;> omega, ?_, ?_⟩
        · have := Int.emod_nonneg (((if v < 0 then -v else v) % 2147483543 + 1) * (2 * k + 5) ^ (3 : Int).toNat) (show (2147483497 : Int) ≠ 0 by decide)
          omega
        · have := Int.emod_lt_of_pos (((if v < 0 then -v else v) % 2147483543 + 1) * (2 * k + 5) ^ (3 : Int).toNat) (show (0 : Int) < 2147483497 by decide)
          omega
    refine ⟨_, rfl, _, _, rfl, rfl, .inl ⟨by decide, by decide⟩, _, _, rfl, rfl, ?_⟩
    refine ⟨_, rfl, _, rfl, a, _, rfl, .inl hS, _, _, rfl, rfl, _, rfl, ?_⟩
    rw [List.length_map]
    refine ite2 (fun hlt => ?_) (fun _ => rest _)
    have hlt' : k < (ns.length : Int) := of_decide_eq_true hlt
    have hkn : k.toNat < ns.length := by omega
    refine ⟨_, rfl, _, rfl, a, _, k, .int ns[k.toNat], rfl, rfl, hS, ?_, rest _⟩
    exact at_of (j := k.toNat) (by omega) (by rw [List.getElem?_map, List.getElem?_eq_getElem hkn]; rfl)
end
end Q
set_option Elab.async false
set_option maxRecDepth 100000
set_option maxHeartbeats 4000000
namespace Q
open PySem L2 QR QM
section
variable {P : Program} {w : World} {K : PySem.W.Frag} {mg : Str → Option Value} {base : Heap}
/-! ### _law_draw -/
def spDraw : Sp := fun xs H Q _ => ∃ (r : Addr) (m : Int), xs = [.ref r, .int m] ∧ RngAt H r ∧ 1 ≤ m ∧ m ≤ 1000000 ∧ ∀ d H', SameX r H H' → RngAt H' r → 0 ≤ d → d < m → Q (.int d) H'
theorem scDraw : FnScope ["_law_rng_here", "_law_many", "_law_digit"] ["_law_rng_here", "_law_many"] (defScope sLDraw) := ⟨rfl, rfl, rfl, by decide +kernel, rfl, by decide +kernel, by decide +kernel⟩
theorem ok_draw (T : T4 K mg) : FnOk P w K mg base CX0 1 T.draw.f T.draw.fd ["_law_rng_here", "_law_many"] spDraw := by
  refine T.draw.F.ok scDraw (fun vs H Q E h => ?_) (fun cdv A outer s H vs Q E hr h => ?_)
  · obtain ⟨r, m, rfl, _⟩ := h
    rfl
  · obtain ⟨r, m, rfl, ⟨x, y, h1, hx, hy, hy2⟩, hm1, hm2, kk⟩ := h
    refine ⟨_, pss_cons (ps_if (pt_cmpR op_gt (pe_ix ix_list (pv 0) pe_int (fun _ _ => rfl)) pe_int (nomark _))
        (pss_cons (ps_asg (pe_callB call_divmod (by rfl) T.B.divmod (by decide +kernel) (pa_cons (pe_ix ix_list (pv 0) pe_int (fun _ _ => rfl)) (pa_cons (pv 1) pa_nil)))
            (pg_tup rfl (pgs_cons (pg_sub (pv 0) pe_int set_list) (pgs_cons (pg_name (i := 2) scDraw.nd rfl (Or.inl rfl)) pgs_nil))))
          (pss_one (ps_ret (pv 2)))) pss_nil)
      (pss_cons (ps_asg (pe_op op_mod (pe_callTy call_int1 (by rfl) T.B.int (by decide +kernel) (pa_cons (pe_op op_add (pe_op op_mul (pe_ix ix_list (pv 0) pe_int (fun _ _ => rfl)) pe_int) pe_int) pa_nil)) pe_int) (pg_sub (pv 0) pe_int set_list))
      (pss_one (ps_ret (pe_op op_mod (pe_op op_fdiv (pe_op op_mod (pe_callTy call_int1 (by rfl) T.B.int (by decide +kernel) (pa_cons (pe_op op_mul (pe_ix ix_list (pv 0) pe_int (fun _ _ => rfl)) (pe_ix ix_list (pv 0) pe_int (fun _ _ => rfl))) pa_nil)) pe_int) pe_int) (pv 1))))), ?_⟩
    refine ⟨_, rfl, r, _, 0, .int x, rfl, rfl, SqL.of h1, rfl, _, _, rfl, rfl, _, rfl, ?_⟩
    refine ite2 (fun hlt => ?_) (fun _ => ?_)
    · have hx0 : 0 < x := of_decide_eq_true hlt
      refine ⟨_, rfl, r, _, 0, .int x, rfl, rfl, SqL.of h1, rfl, _, rfl, x, m, rfl, ⟨by omega, by omega⟩, fun t ht => ?_⟩
      have nrt : r ≠ t := ne_of_none h1 ht
      refine ⟨t, _, rfl, SqT.of upd_same, rfl, _, _, rfl, ?_⟩
      refine ⟨_, rfl, r, _, 0, 0, rfl, rfl, (by rw [upd_ne nrt]; exact h1), rfl, _, _, rfl, rfl, ?_⟩
      refine ⟨_, rfl, ?_⟩
      exact kk _ _ (SameX.own (SameX.new ht)) ⟨_, _, upd_same, Int.ediv_nonneg hx (by omega), hy, hy2⟩ (Int.emod_nonneg _ (by omega)) (Int.emod_lt_of_pos _ (by omega))
    · refine ⟨_, rfl, r, _, 1, .int y, rfl, rfl, SqL.of h1, rfl, _, _, rfl, rfl, .inl ⟨by omega, by omega⟩, _, _, rfl, rfl, .inl ⟨_, rfl, _, _, rfl, rfl, (by show (0 : Int) < 2147483549; decide), ?_⟩⟩
      refine ⟨_, rfl, r, _, 1, 1, rfl, rfl, h1, rfl, ?_⟩
      have y0 := Int.emod_nonneg (y * 40692 + 27011) (show (2147483549 : Int) ≠ 0 by decide)
      have y1 := Int.emod_lt_of_pos (y * 40692 + 27011) (show (0 : Int) < 2147483549 by decide)
      refine ⟨_, rfl, r, _, 1, .int ((y * 40692 + 27011) % 2147483549), rfl, rfl, SqL.of upd_same, rfl, _, rfl, r, _, 1, .int ((y * 40692 + 27011) % 2147483549), rfl, rfl, SqL.of upd_same, rfl, _, _, rfl, rfl, .inl ⟨by omega, by omega⟩, .inl ⟨_, rfl, _, _, rfl, rfl, (by show (0 : Int) < 2147483477; decide), _, _, rfl, rfl, ⟨by decide, by decide⟩, ?_⟩⟩
      refine ⟨_, rfl, _, _, rfl, rfl, (show (0 : Int) < m by omega), ?_⟩
      exact kk _ _ (SameX.own (SameX.refl r H)) ⟨_, _, upd_same, hx, y0, y1⟩ (Int.emod_nonneg _ (by omega)) (Int.emod_lt_of_pos _ (by omega))
end
end Q
set_option Elab.async false
set_option maxRecDepth 100000
set_option maxHeartbeats 4000000
namespace Q
open PySem L2 QR QM
/-! ### texts made of signs -/
def one (c : Nat) : Str := ⟨#[c]⟩
theorem joinL_nil : ∀ ls : List (List Nat), TL.joinL [] ls = ls.flatten
  | [] => rfl
  | [p] => by simp [TL.joinL]
  | p :: q :: r => by
    show p ++ ([] ++ TL.joinL [] (q :: r)) = _
    rw [joinL_nil (q :: r)]
    simp
theorem flatten_ones : ∀ cs : List Nat, ((cs.map one).map fun x => x.cps.toList).flatten = cs
  | [] => rfl
  | c :: r => by
    rw [List.map_cons, List.map_cons, List.flatten_cons, flatten_ones r]
    rfl
theorem join_codes (cs : List Nat) : (Txt.join ("" : Str) (cs.map one)).cps.toList = cs := by
  rw [TL.join_eq]
  have e := TL.tl_join ("" : Str) (cs.map one)
  have e0 : TL.tl ("" : Str) = [] := by decide +kernel
  rw [e0, joinL_nil] at e
  show TL.tl (Str.join ("" : Str) (cs.map one)) = cs
  rw [e]
  exact flatten_ones cs
theorem sum_ones : ∀ cs : List Nat, (cs.map fun _ => 1).sum = cs.length
  | [] => rfl
  | a :: r => by rw [List.map_cons, List.sum_cons, sum_ones r, List.length_cons]; omega
theorem app_codes (x y : Str) : (x ++ y).cps.toList = x.cps.toList ++ y.cps.toList := by
  show (x.cps ++ y.cps).toList = _
  simp
theorem let_sig : ∀ c ∈ lettersS.cps.toList, c ∈ signsS.cps.toList := by decide +kernel
theorem nm_of {z : Str} {c : Nat} {cs : List Nat} (h : z.cps.toList = c :: cs) (hc : c ∈ lettersS.cps.toList) (hs : ∀ x ∈ cs, x ∈ signsS.cps.toList) (hl : cs.length ≤ 11) : IsNm z := by
  have hz : z.cps.size = cs.length + 1 := by rw [← Array.length_toList, h, List.length_cons]
  refine ⟨by omega, fun d hd => ?_, fun d hd => ?_⟩
  · have : z.cps.toList[0]? = some d := by rw [Array.getElem?_toList]; exact hd
    rw [h] at this
    cases this
    exact hc
  · rw [h] at hd
    rcases List.mem_cons.mp hd with e | e
    · rw [e]; exact let_sig c hc
    · exact hs d e
section
variable {P : Program} {w : World} {K : PySem.W.Frag} {mg : Str → Option Value} {base : Heap}
/-! ### _law_some_names -/
def spSomeNames : Sp := fun xs H Q _ => ∃ (r : Addr) (m : Int), xs = [.ref r, .int m] ∧ RngAt H r ∧ 0 ≤ m ∧ m ≤ 50 ∧
  ∀ (l : Addr) (ns : List Str) (H' : Hp), H l = none → SameX r H H' → RngAt H' r → H' l = some (.lst (ns.map V.str)) → ns.Nodup → (ns.length : Int) ≤ m → (∀ n ∈ ns, IsNm n) → Q (.ref l) H'
abbrev nSome : List Str := ["_law_rng_here", "_law_many", "_law_found", "_law_k", "_law_size", "_law_name", "_law_turn"]
theorem scSome : FnScope nSome ["_law_rng_here", "_law_many"] (defScope sLSomeNames) := ⟨rfl, rfl, rfl, by decide +kernel, rfl, by decide +kernel, by decide +kernel⟩
theorem inV_str (x : Str) : ∀ ns : List Str, inV (.str x) (ns.map V.str) = decide (x ∈ ns)
  | [] => rfl
  | n :: r => by
    have ih := inV_str x r
    unfold inV at ih ⊢
    rw [List.map_cons, List.any_cons, ih]
    show (eqV (.str n) (.str x) || _) = _
    by_cases e : n = x
    · subst e
      simp [eqV]
    · have e2 : ¬ x = n := fun z => e z.symm
      simp [eqV, e, e2]
theorem flat_strs (ns : List Str) : (ns.map V.str).all flatV = true := by
  rw [List.all_map]
  exact List.all_eq_true.mpr fun x _ => rfl
theorem item_of {z : Str} {i : Int} (h0 : 0 ≤ i) (h1 : i < (z.cps.size : Int)) : ∃ c, z.cps[i.toNat]? = some c ∧ c ∈ z.cps.toList := by
  have h : i.toNat < z.cps.size := by omega
  exact ⟨z.cps[i.toNat], by simp [h], by simp⟩
theorem let_size : lettersS.cps.size = 26 := by decide +kernel
theorem sig_size : signsS.cps.size = 36 := by decide +kernel
theorem ok_someNames (T : T4 K mg) : FnOk P w K mg base CX0 2 T.someNames.f T.someNames.fd ["_law_rng_here", "_law_many"] spSomeNames := by
  have GD : FnOk P w K mg base CX0 1 T.draw.f T.draw.fd ["_law_rng_here", "_law_many"] spDraw := ok_draw T
  refine T.someNames.F.ok scSome (fun vs H Q E h => ?_) (fun cdv A outer s H vs Q E hr h => ?_)
  · obtain ⟨r, m, rfl, _⟩ := h
    rfl
  · obtain ⟨r, m, rfl, hR, hm0, hm1, kk⟩ := h
    refine ⟨_, pss_cons (ps_set (i := 2) scSome.nd rfl (Or.inl rfl) (pe_lst pa_nil))
      (pss_cons (ps_for PassesOwn.never rfl (pi_range1 (by rfl) T.B.range (pa_cons (pv 1) pa_nil)) (pg_name (i := 3) scSome.nd rfl (Or.inl rfl))
        (pss_cons (ps_set (i := 4) scSome.nd rfl (Or.inl rfl) (pe_ix ix_list (pe_lst (pa_cons pe_int (pa_cons pe_int (pa_cons pe_int (pa_cons pe_int pa_nil))))) (pe_call GD hr (by rfl) T.gDraw T.draw.kp T.draw.b .nil pass0 (pa_cons (pv 0) (pa_cons pe_int pa_nil))) (fun _ _ => rfl)))
        (pss_cons (ps_set (i := 5) scSome.nd rfl (Or.inl rfl) (pe_item_str pe_str (pe_call GD hr (by rfl) T.gDraw T.draw.kp T.draw.b .nil pass0 (pa_cons (pv 0) (pa_cons pe_int pa_nil))) (fun _ _ => rfl)))
        (pss_cons (ps_set (i := 5) scSome.nd rfl (Or.inl rfl) (pe_op op_add_str (pv 5) (pe_join pe_str (pe_lc (own := [("_law_turn", 6)]) (g := gName 6) (tt := tYes) rfl scSome.nd (pi_range1 (by rfl) T.B.range (pa_cons (pv 4) pa_nil))
            (blkOk_by (own := [("_law_turn", 6)]) (N := nSome) (sc := defScope sLSomeNames) (by decide +kernel)) (fun _ _ _ _ _ => pg_name (i := 6) scSome.nd rfl (Or.inl rfl)) (fun _ _ _ _ _ => pts_nil)
            (fun _ _ _ _ _ => pe_item_str pe_str (pe_call GD hr (by rfl) T.gDraw T.draw.kp T.draw.b .nil pass0 (pa_cons (pv 0) (pa_cons pe_int pa_nil))) (fun _ _ => rfl))))))
        (pss_one (ps_if (pt_cmpR op_notIn_seq (pv 5) (pv 2) (by rfl)) (pss_one (ps_expr (pe_bm PySem.F.plainAttrs_list PySem.F.slot_list_append PySem.F.type_list_append mt_append (pv 2) (pa_cons (pv 5) pa_nil)))) pss_nil))))))
      (pss_one (ps_ret (pv 2)))), ?_⟩
    refine ⟨Nat.zero_le _, fun l hl => ?_⟩
    have nrl : r ≠ l := by
      obtain ⟨x, y, h1, _⟩ := hR
      exact ne_of_none h1 hl
    refine ⟨_, rfl, m, rfl, by omega, by omega, for_it walk_range (fun i σ H2 => ∃ (ns : List Str) (v3 v4 v5 v6 : Option V), σ = [some (.ref r), some (.int m), some (.ref l), v3, v4, v5, v6] ∧ SameX r H H2 ∧ RngAt H2 r ∧ H2 l = some (.lst (ns.map V.str)) ∧ ns.Nodup ∧ ns.length ≤ i ∧ ∀ n ∈ ns, IsNm n)
      ⟨[], none, none, none, none, rfl, SameX.new hl, hR.same (Same.new hl), upd_same, List.nodup_nil, Nat.le_refl _, fun n h => by cases h⟩ (fun _ _ _ _ _ => True.intro) ?_ ?_⟩
    · rintro i y σ H2 H2' hi ⟨ns, v3, v4, v5, v6, rfl, s2, R2, hl2, hnd, hln, hnm⟩ ⟨rfl, rfl⟩
      have hrr : ∃ o, H2' r = some o := let ⟨_, _, z, _⟩ := R2; ⟨_, z⟩
      obtain ⟨o2, hr2⟩ := hrr
      -- size = [0, 1, 2, 11][draw(4)]
      refine ⟨by show 4 ≤ sizeLine; decide, fun t ht => ?_⟩
      have htH : H t = none := s2.free hr2 ht
      refine ⟨_, rfl, r, 4, rfl, R2.same (Same.new ht), by omega, by omega, fun d H3 s3 R3 hd0 hd4 => ?_⟩
      have nrt : t ≠ r := fun z => by rw [z, hr2] at ht; cases ht
      have ht3 := s3 t _ nrt upd_same
      obtain ⟨sz, hsz, hsz0, hsz1⟩ : ∃ sz : Int, atI [V.int 0, V.int 1, V.int 2, V.int 11] d = some (.int sz) ∧ 0 ≤ sz ∧ sz ≤ 11 := by
        have : d = 0 ∨ d = 1 ∨ d = 2 ∨ d = 3 := by omega
        rcases this with rfl | rfl | rfl | rfl
        · exact ⟨0, rfl, by omega, by omega⟩
        · exact ⟨1, rfl, by omega, by omega⟩
        · exact ⟨2, rfl, by omega, by omega⟩
        · exact ⟨11, rfl, by omega, by omega⟩
      refine ⟨t, _, d, .int sz, rfl, rfl, SqL.of ht3, hsz, ?_⟩
      have s23 : SameX r H H3 := (SameX.mut s2 htH).trans s3
      have hl3 : H3 l = some (.lst (ns.map V.str)) := s3 l _ nrl.symm (Same.new ht _ _ hl2)
      -- the first sign
      refine ⟨_, rfl, r, 26, rfl, R3, by omega, by omega, fun e H4 s4 R4 he0 he1 => ?_⟩
      obtain ⟨c, hc, hcm⟩ := item_of (z := lettersS) he0 (by rw [let_size]; exact he1)
      refine ⟨lettersS, e, c, rfl, rfl, he0, by omega, by show e < (lettersS.cps.size : Int); rw [let_size]; exact he1, hc, ?_⟩
      -- the others
      have R4r : ∃ o, H4 r = some o := let ⟨_, _, z, _⟩ := R4; ⟨_, z⟩
      obtain ⟨o4, hr4⟩ := R4r
      have s24 := s23.trans s4
      have hl4 := s4 l _ nrl.symm hl3
      refine ⟨_, rfl, ⟨_, rfl⟩, _, rfl, sz, rfl, by omega, by omega, fun D hD => ?_⟩
      have hDH : H D = none := s24.free hr4 hD
      have nrD : D ≠ r := fun z => by rw [z, hr4] at hD; cases hD
      have nlD : l ≠ D := ne_of_none hl4 hD
      refine lc_it walk_range (fun j H5 => ∃ cs : List Nat, SameX r H H5 ∧ RngAt H5 r ∧ H5 l = some (.lst (ns.map V.str)) ∧ H5 D = some (.lst ((cs.map one).map V.str)) ∧ cs.length = j ∧ ∀ x ∈ cs, x ∈ signsS.cps.toList)
        ⟨[], SameX.mut s24 hDH, R4.same (Same.new hD), by rw [upd_ne nlD]; exact hl4, upd_same, rfl, fun x h => by cases h⟩ (fun _ _ _ _ => True.intro) ?_ ?_
      · rintro j z H5 H5' hj ⟨cs, s5, R5, hl5, hD5, hcl, hcs⟩ ⟨rfl, rfl⟩
        refine ⟨rfl, ?_⟩
        refine ⟨_, rfl, r, 36, rfl, R5, by omega, by omega, fun f H6 s6 R6 hf0 hf1 => ?_⟩
        obtain ⟨c', hc', hcm'⟩ := item_of (z := signsS) hf0 (by rw [sig_size]; exact hf1)
        refine ⟨signsS, f, c', rfl, rfl, hf0, by omega, by show f < (signsS.cps.size : Int); rw [sig_size]; exact hf1, hc', ?_⟩
        refine ⟨_, s6 D _ nrD hD5, ?_, cs ++ [c'], SameX.mut (s5.trans s6) hDH, ?_, ?_, ?_, ?_, ?_⟩
        · rw [List.length_map, List.length_map, hcl]; exact sz_lt (by omega)
        · obtain ⟨x, y, q1, q2⟩ := R6
          exact ⟨x, y, by rw [upd_ne nrD.symm]; exact q1, q2⟩
        · rw [upd_ne nlD]; exact s6 l _ nrl.symm hl5
        · rw [upd_same, List.map_append, List.map_append]; rfl
        · rw [List.length_append, hcl]; rfl
        · intro x hx
          rcases List.mem_append.mp hx with hx | hx
          · exact hcs x hx
          · rw [List.mem_singleton.mp hx]; exact hcm'
      · rintro H5 ⟨cs, s5, R5, hl5, hD5, hcl, hcs⟩
        have hcl' : cs.length ≤ 11 := by omega
        refine ⟨_, D, cs.map one, rfl, rfl, .inl (SqL.of hD5), ?_, ?_⟩
        · have e1 : (cs.map one).map (·.length) = cs.map fun _ => 1 := by rw [List.map_map]; rfl
          have e2 : (cs.map fun _ => 1).sum = cs.length := sum_ones cs
          have e3 : ("" : Str).length = 0 := by decide +kernel
          rw [e1, e2, e3]; omega
        · have hz : (one c ++ Txt.join ("" : Str) (cs.map one)).cps.toList = c :: cs := by rw [app_codes, join_codes]; rfl
          have hzN : IsNm (one c ++ Txt.join ("" : Str) (cs.map one)) := nm_of hz hcm hcs hcl'
          refine ⟨one c, Txt.join ("" : Str) (cs.map one), rfl, rfl, ?_, ?_⟩
          · have e5 : (Txt.join ("" : Str) (cs.map one)).length = cs.length := by
              show (Txt.join ("" : Str) (cs.map one)).cps.size = _
              rw [← Array.length_toList, join_codes]
            rw [e5]
            show 1 + cs.length ≤ sizeLine
            exact sz_le (by omega)
          · generalize one c ++ Txt.join ("" : Str) (cs.map one) = z at hz hzN
            refine ⟨_, rfl, _, rfl, l, _, rfl, .inl (SqL.of hl5), rfl, flat_strs ns, _, rfl, ?_⟩
            rw [if_pos rfl, inV_str]
            by_cases hin : z ∈ ns
            · rw [decide_eq_true hin]
              refine iteF ?_
              exact ⟨ns, _, _, _, _, rfl, s5, R5, hl5, hnd, by omega, hnm⟩
            · rw [decide_eq_false hin]
              refine iteT ?_
              refine ⟨_, rfl, .inl ⟨rfl, _, SqL.of hl5⟩, _, rfl, l, _, _, rfl, rfl, hl5, ?_, ?_⟩
              · rw [List.length_map]; exact sz_lt (by omega)
              · refine ⟨ns ++ [z], _, _, _, _, rfl, SameX.mut s5 hl, ?_, ?_, nd_snoc hnd hin, ?_, ?_⟩
                · obtain ⟨x, y, q1, q2⟩ := R5
                  exact ⟨x, y, by rw [upd_ne nrl]; exact q1, q2⟩
                · rw [upd_same, List.map_append]; rfl
                · rw [List.length_append]; show ns.length + 1 ≤ i + 1; omega
                · intro n hn
                  rcases List.mem_append.mp hn with hn | hn
                  · exact hnm n hn
                  · rw [List.mem_singleton.mp hn]; exact hzN
    · rintro σ H2 ⟨ns, v3, v4, v5, v6, rfl, s2, R2, hl2, hnd, hln, hnm⟩
      refine ⟨_, rfl, ?_⟩
      exact kk l ns H2 hl s2 R2 hl2 hnd (by omega) hnm
end
end Q
set_option Elab.async false
set_option maxRecDepth 100000
set_option maxHeartbeats 1000000
namespace QM
open PySem L2 QR
/-! ### what is left of weights without 0 -/
def fltW (R : Ws) : Ws := R.filter fun p => decide (p.2 ≠ 0)
theorem fltW_snoc (R : Ws) (p : Str × Int) : fltW (R ++ [p]) = if p.2 ≠ 0 then fltW R ++ [p] else fltW R := by
  unfold fltW
  rw [List.filter_append]
  by_cases e : p.2 = 0 <;> simp [e]
theorem fltW_len (R : Ws) : (fltW R).length ≤ R.length := List.length_filter_le _ _
theorem fltW_nd {R : Ws} (h : (R.map (·.1)).Nodup) : ((fltW R).map (·.1)).Nodup := by
  rw [List.nodup_iff_pairwise_ne, List.pairwise_map] at h ⊢
  exact List.Pairwise.filter _ h
theorem fltW_dct {q : Int} {N : List Str} {R : Ws} (h : Dct 0 q N R) : Dct 1 q N (fltW R) := by
  refine ⟨fltW_nd h.nd, fun p hp => ?_⟩
  obtain ⟨h1, h2⟩ := List.mem_filter.mp hp
  have := h.mem p h1
  have h3 : p.2 ≠ 0 := of_decide_eq_true h2
  exact ⟨this.1, by omega, this.2.2⟩
theorem fltW_wt {R : Ws} (h : (R.map (·.1)).Nodup) (n : Str) : wt (fltW R) n = wt R n := by
  by_cases e : wt R n = 0
  · rw [e]
    by_cases m : n ∈ (fltW R).map (·.1)
    · obtain ⟨p, hp, rfl⟩ := List.mem_map.mp m
      rw [mem_wt (fltW_nd h) hp]
      rw [mem_wt h (List.mem_filter.mp hp).1] at e
      exact absurd e (of_decide_eq_true (List.mem_filter.mp hp).2)
    · exact wt_not m
  · have hm : (n, wt R n) ∈ fltW R := List.mem_filter.mpr ⟨wt_mem e, decide_eq_true e⟩
    exact mem_wt (fltW_nd h) hm
/-! ### the law's own sum of two models -/
def lawAdd (k1 k2 : Ws) (by_ q : Int) (acc : Ws) (ns : List Str) : Ws := ns.foldl (fun a n => if (wt k1 n + by_ * wt k2 n) % q ≠ 0 then putS a n ((wt k1 n + by_ * wt k2 n) % q) else a) acc
theorem lawAdd_snoc (k1 k2 : Ws) (by_ q : Int) (acc : Ws) (ns : List Str) (n : Str) : lawAdd k1 k2 by_ q acc (ns ++ [n]) = if (wt k1 n + by_ * wt k2 n) % q ≠ 0 then putS (lawAdd k1 k2 by_ q acc ns) n ((wt k1 n + by_ * wt k2 n) % q) else lawAdd k1 k2 by_ q acc ns := by
  unfold lawAdd
  rw [List.foldl_append]
  rfl
theorem lawAdd_dct {k1 k2 : Ws} {by_ q : Int} {N : List Str} (hq : 0 < q) : ∀ {ns : List Str} {acc : Ws}, Dct 1 q N acc → (∀ n ∈ ns, n ∈ N) → Dct 1 q N (lawAdd k1 k2 by_ q acc ns)
  | [], acc, h, _ => h
  | n :: r, acc, h, hv => by
    show Dct 1 q N (lawAdd k1 k2 by_ q (if (wt k1 n + by_ * wt k2 n) % q ≠ 0 then putS acc n ((wt k1 n + by_ * wt k2 n) % q) else acc) r)
    refine lawAdd_dct hq ?_ fun x hx => hv x (List.mem_cons_of_mem _ hx)
    have h0 := Int.emod_nonneg (wt k1 n + by_ * wt k2 n) (show q ≠ 0 by omega)
    have h1 := Int.emod_lt_of_pos (wt k1 n + by_ * wt k2 n) hq
    by_cases e : (wt k1 n + by_ * wt k2 n) % q = 0
    · rw [if_neg (fun z => z e)]; exact h
    · rw [if_pos e]; exact h.put (hv n List.mem_cons_self) (by omega) h1
theorem lawAdd_wt {k1 k2 : Ws} {by_ q : Int} (m : Str) : ∀ {ns : List Str} {acc : Ws}, wt (lawAdd k1 k2 by_ q acc ns) m = if m ∈ ns ∧ (wt k1 m + by_ * wt k2 m) % q ≠ 0 then (wt k1 m + by_ * wt k2 m) % q else wt acc m
  | [], acc => by simp [lawAdd]
  | n :: r, acc => by
    show wt (lawAdd k1 k2 by_ q (if (wt k1 n + by_ * wt k2 n) % q ≠ 0 then putS acc n ((wt k1 n + by_ * wt k2 n) % q) else acc) r) m = _
    rw [lawAdd_wt m]
    by_cases h : m ∈ r ∧ (wt k1 m + by_ * wt k2 m) % q ≠ 0
    · rw [if_pos h, if_pos ⟨List.mem_cons_of_mem _ h.1, h.2⟩]
    · rw [if_neg h]
      by_cases e : (wt k1 n + by_ * wt k2 n) % q ≠ 0
      · rw [if_pos e, wt_put]
        by_cases z : m = n
        · rw [if_pos z, if_pos ⟨by rw [z]; exact List.mem_cons_self, by rw [z]; exact e⟩, z]
        · have h' : ¬ (m ∈ n :: r ∧ (wt k1 m + by_ * wt k2 m) % q ≠ 0) := by
            rintro ⟨h1, h2⟩
            rcases List.mem_cons.mp h1 with y | y
            · exact z y
            · exact h ⟨y, h2⟩
          rw [if_neg z, if_neg h']
      · have h' : ¬ (m ∈ n :: r ∧ (wt k1 m + by_ * wt k2 m) % q ≠ 0) := by
          rintro ⟨h1, h2⟩
          rcases List.mem_cons.mp h1 with y | y
          · rw [y] at h2; exact e h2
          · exact h ⟨y, h2⟩
        rw [if_neg e, if_neg h']
/-- all names of both: the sum of both -/
theorem lawAdd_all {k1 k2 : Ws} {by_ q : Int} (m : Str) : wt (lawAdd k1 k2 by_ q [] (k1.map (·.1) ++ k2.map (·.1))) m = (wt k1 m + by_ * wt k2 m) % q := by
  rw [lawAdd_wt, wt_nil]
  by_cases h : m ∈ k1.map (·.1) ++ k2.map (·.1) ∧ (wt k1 m + by_ * wt k2 m) % q ≠ 0
  · rw [if_pos h]
  · rw [if_neg h]
    by_cases e : (wt k1 m + by_ * wt k2 m) % q = 0
    · exact e.symm
    · have hn : ¬ m ∈ k1.map (·.1) ++ k2.map (·.1) := fun z => h ⟨z, e⟩
      rw [wt_not (fun z => hn (List.mem_append_left _ z)), wt_not (fun z => hn (List.mem_append_right _ z))]
      simp
end QM
set_option Elab.async false
set_option maxRecDepth 100000
set_option maxHeartbeats 4000000
namespace Q
open PySem L2 QR QM
theorem paired_snoc {α β : Type} {F : α → β → Prop} : ∀ {xs : List α} {ys : List β} {x : α} {y : β}, Paired F xs ys → F x y → Paired F (xs ++ [x]) (ys ++ [y])
  | _, _, _, _, .nil, h => .cons h .nil
  | _, _, _, _, .cons r t, h => .cons r (paired_snoc t h)
theorem paired_dk {F : Addr → Key × V → Prop} : ∀ {ts : List Addr} {R : Ws}, Paired (fun t (p : Str × Int) => F t (Sum.inr p.1, .int p.2)) ts R → Paired F ts (dk R)
  | _, _, .nil => .nil
  | _, _, .cons r t => .cons r (paired_dk t)
/-- the law's model of a sum: a tuple of a dict and a constant -/
def MdlAt (H : Hp) (t : Addr) (q : Int) (N : List Str) (kvs : Ws) (c : Int) : Prop := ∃ d, H t = some (.tup [.ref d, .int c]) ∧ H d = some (.dK (dk kvs)) ∧ Dct 1 q N kvs ∧ 0 ≤ c ∧ c < q
theorem MdlAt.same {H H' : Hp} {t : Addr} {q : Int} {N : List Str} {kvs : Ws} {c : Int} (h : MdlAt H t q N kvs c) (s : Same H H') : MdlAt H' t q N kvs c := by
  obtain ⟨d, h1, h2, h3⟩ := h
  exact ⟨d, s _ _ h1, s _ _ h2, h3⟩
theorem MdlAt.sameX {r : Addr} {H H' : Hp} {t : Addr} {q : Int} {N : List Str} {kvs : Ws} {c : Int} (h : MdlAt H t q N kvs c) (s : SameX r H H') (hr : RngAt H r) : MdlAt H' t q N kvs c := by
  obtain ⟨d, h1, h2, h3⟩ := h
  obtain ⟨x, y, h4, _⟩ := hr
  exact ⟨d, s _ _ (ne_of h1 h4 (by intro z; cases z)) h1, s _ _ (ne_of h2 h4 (by intro z; cases z)) h2, h3⟩
theorem RngAt.ne {H : Hp} {r b : Addr} {o : HO} (h : RngAt H r) (hb : H b = some o) (ho : ∀ xs, o ≠ .lst xs) : b ≠ r := by
  obtain ⟨x, y, h4, _⟩ := h
  exact ne_of hb h4 (ho _)
theorem RngAt.some {H : Hp} {r : Addr} (h : RngAt H r) : ∃ o, H r = Option.some o := by
  obtain ⟨x, y, h4, _⟩ := h
  exact ⟨_, h4⟩
theorem RngAt.upd {H : Hp} {r p : Addr} {o : HO} (h : RngAt H r) (hp : p ≠ r) : RngAt (upd H p o) r := by
  obtain ⟨x, y, h4, h5⟩ := h
  exact ⟨x, y, by rw [upd_ne hp.symm]; exact h4, h5⟩
section
variable {P : Program} {w : World} {K : PySem.W.Frag} {mg : Str → Option Value} {base : Heap}
/-! ### _law_drawn -/
def spDrawn (K : PySem.W.Frag) : Sp := fun xs H Q _ => ∃ (r l : Addr) (q : Int) (ns N : List Str), xs = [.ref r, .ref l, .int q] ∧ RngAt H r ∧ l ≠ r ∧ H l = some (.lst (ns.map V.str)) ∧ (∀ n ∈ ns, n ∈ N) ∧ Nms N ∧ ns.length ≤ 60 ∧ IsMod q ∧
  ∀ (t m hd : Addr) (R kvs : Ws) (c : Int) (H' : Hp), H hd = none → SameX r H H' → RngAt H' r → H' t = some (.tup [.ref m, .ref hd]) → H' hd = some (.dK (dk R)) → Dct 0 q N R → MdlAt H' m q N kvs c → (∃ d, H' m = some (.tup [.ref d, .int c]) ∧ H d = none ∧ d ≠ hd) → (∀ n, wt kvs n = wt R n) → Q (.ref t) H'
abbrev nDrawn : List Str := ["_law_rng_here", "_law_names", "_law_q", "_law_handed", "_law_name", "_law_kept", "_law_weight"]
theorem scDrawn : FnScope nDrawn ["_law_rng_here", "_law_names", "_law_q"] (defScope sLDrawn) := ⟨rfl, rfl, rfl, by decide +kernel, rfl, by decide +kernel, by decide +kernel⟩
theorem ok_drawn (T : T4 K mg) : FnOk P w K mg base CX0 2 T.drawn.f T.drawn.fd ["_law_rng_here", "_law_names", "_law_q"] (spDrawn K) := by
  have GD : FnOk P w K mg base CX0 1 T.draw.f T.draw.fd ["_law_rng_here", "_law_many"] spDraw := ok_draw T
  refine T.drawn.F.ok scDrawn (fun vs H Q E h => ?_) (fun cdv A outer s H vs Q E hr h => ?_)
  · obtain ⟨r, l, q, ns, N, rfl, _⟩ := h
    rfl
  · obtain ⟨r, l, q, ns, N, rfl, hR, nlr, hl, hsub, hN, hnl, hq, kk⟩ := h
    have hu := hu_of hr
    refine ⟨_, pss_cons (ps_set (i := 3) scDrawn.nd rfl (Or.inl rfl) pe_dnewK)
      (pss_cons (ps_for PassesOwn.never rfl (pi_list (pv 1)) (pg_name (i := 4) scDrawn.nd rfl (Or.inl rfl))
        (pss_one (ps_if (pt_cmpR op_gt (pe_call GD hr (by rfl) T.gDraw T.draw.kp T.draw.b .nil pass0 (pa_cons (pv 0) (pa_cons pe_int pa_nil))) pe_int (nomark _))
          (pss_one (ps_dput hu (pv 3) (pv 4) (pe_call GD hr (by rfl) T.gDraw T.draw.kp T.draw.b .nil pass0 (pa_cons (pv 0) (pa_cons (pv 2) pa_nil))) rfl)) pss_nil)))
      (pss_cons (ps_set (i := 5) scDrawn.nd rfl (Or.inl rfl) (pe_callTy (call_dictP rfl) (by rfl) T.B.dict (by decide +kernel) (pa_cons (pe_lock (pe_lc (own := [("_law_name", 4), ("_law_weight", 6)]) (g := gPair K 4 6) rfl scDrawn.nd (pi_items (pv 3))
          (blkOk_by (own := [("_law_name", 4), ("_law_weight", 6)]) (N := nDrawn) (sc := defScope sLDrawn) (by decide +kernel))
          (fun _ _ _ _ _ => pg_tup rfl (pgs_cons (pg_name (i := 4) scDrawn.nd rfl (Or.inl rfl)) (pgs_cons (pg_name (i := 6) scDrawn.nd rfl (Or.inl rfl)) pgs_nil)))
          (fun _ _ _ _ _ => pts_one (pt_cmpR op_ne (pv 6) pe_int (nomark _)))
          (fun _ _ _ _ _ => pe_tup (pa_cons (pv 4) (pa_cons (pv 6) pa_nil))))) pa_nil)))
      (pss_one (ps_ret (pe_tup (pa_cons (pe_tup (pa_cons (pv 5) (pa_cons (pe_call GD hr (by rfl) T.gDraw T.draw.kp T.draw.b .nil pass0 (pa_cons (pv 0) (pa_cons (pv 2) pa_nil))) pa_nil))) (pa_cons (pv 3) pa_nil))))))), ?_⟩
    have hq2 := hq.pos
    have hl2 := hN.len
    intro hd hhd
    have nlh : l ≠ hd := ne_of_none hl hhd
    have nrh : hd ≠ r := fun z => by
      obtain ⟨o, ho⟩ := hR.some
      rw [z, ho] at hhd
      cases hhd
    refine ⟨_, rfl, l, rfl, ⟨_, SqL.of (by rw [upd_ne nlh]; exact hl)⟩, for_it (walk_list (xs := ns.map V.str)) (fun i σ H2 => ∃ (R : Ws) (v4 : Option V), σ = [some (.ref r), some (.ref l), some (.int q), some (.ref hd), v4, none, none] ∧ SameX r H H2 ∧ RngAt H2 r ∧ H2 hd = some (.dK (dk R)) ∧ Dct 0 q N R)
      ⟨[], none, rfl, SameX.new hhd, hR.same (Same.new hhd), upd_same, Dct.nil⟩ (fun i σ H2 _ ⟨_, _, _, z, _⟩ => SqL.of (z l _ nlr hl)) ?_ ?_⟩
    · rintro i y σ H2 H2' hi ⟨R, v4, rfl, s2, R2, hd2, hRd⟩ ⟨rfl, hy⟩
      rw [List.length_map] at hi
      have hyi : ns[i]? = some ns[i] := List.getElem?_eq_getElem hi
      rw [List.getElem?_map, hyi] at hy
      cases hy
      have hnN := hsub _ (List.getElem_mem hi)
      refine ⟨_, rfl, r, 4, rfl, R2, by omega, by omega, fun d H3 s3 R3 hd0 hd4 => ?_⟩
      have hd3 := s3 hd _ nrh hd2
      refine ⟨_, _, rfl, rfl, _, rfl, ?_⟩
      refine ite2 (fun _ => ?_) (fun _ => ⟨R, _, rfl, s2.trans s3, R3, hd3, hRd⟩)
      refine ⟨_, rfl, _, rfl, r, q, rfl, R3, by omega, by omega, fun e H4 s4 R4 he0 he1 => ?_⟩
      have hd4 := s4 hd _ nrh hd3
      have hRl := hRd.len
      refine ⟨_, rfl, _, rfl, hd, _, rfl, DPut.k (k := Sum.inr ns[i]) hd4 (by rw [dk_len]; exact sz_lt (by omega)), ?_⟩
      refine ⟨putS R ns[i] e, _, rfl, SameX.mut ((s2.trans s3).trans s4) hhd, R4.upd nrh, by rw [upd_same, putK_dk], hRd.put hnN he0 he1⟩
    · rintro σ H2 ⟨R, v4, rfl, s2, R2, hd2, hRd⟩
      have hRl := hRd.len
      refine ⟨hd, _, hd2, True.intro, fun od => ?_⟩
      refine ⟨_, rfl, hd, od, dk R, rfl, upd_same, fun D hD => ?_⟩
      have nDh : D ≠ hd := fun z => by rw [z, upd_same] at hD; cases hD
      refine lc_it walk_items (fun j H5 => Same (upd H2 hd (.frz od (.dK (dk R)))) H5 ∧ ∃ ts : List Addr, H5 D = some (.lst (ts.map V.ref)) ∧ Paired (fun t (p : Str × Int) => H5 t = some (.tup [.str p.1, .int p.2])) ts (fltW (R.take j)))
        ⟨Same.new hD, [], upd_same, .nil⟩ (fun j H5 _ z => z.1 _ _ upd_same) ?_ ?_
      · rintro j z H5 H5' hj ⟨s5, ts, hD5, hts⟩ y2
        obtain ⟨x, T0, g1, g2, rfl, hT, rfl⟩ := ypair_dk hj y2
        refine ⟨T0, _, rfl, SqT.of upd_same, rfl, _, _, rfl, _, _, rfl, rfl, rfl, ?_⟩
        have s6 : Same H5 (upd H5 T0 (.tup [.str x.1, .int x.2])) := Same.new hT
        refine ⟨_, rfl, rfl, _, rfl, ?_⟩
        by_cases e0 : x.2 = 0
        · rw [e0]
          refine iteF ⟨s5.trans (by rw [e0] at s6; exact s6), ts, by rw [e0] at s6; exact s6 _ _ hD5, ?_⟩
          rw [take_snoc g1, fltW_snoc, if_neg (fun z => z e0)]
          exact Paired.mapP hts fun t p hp => by rw [e0] at s6; exact s6 _ _ hp
        · have e1 : (!decide (V.int x.2 = V.int 0)) = true := by rw [decide_eq_false (fun z => e0 (V.int.inj z))]; rfl
          rw [e1]
          refine iteT ?_
          refine ⟨_, rfl, _, rfl, by show 2 ≤ sizeLine; decide, fun t ht => ?_⟩
          have s7 := s6.trans (Same.new (o := .tup [.str x.1, .int x.2]) ht)
          have hD7 := s7 _ _ hD5
          have htl : ts.length ≤ j := by
            have z1 := Paired.length hts
            have z2 := fltW_len (R.take j)
            rw [List.length_take] at z2
            omega
          rw [dk_len] at hj
          refine ⟨_, hD7, by rw [List.length_map]; exact sz_lt (by omega), Same.mut (s5.trans s7) hD, ts ++ [t], by rw [upd_same, List.map_append]; rfl, ?_⟩
          rw [take_snoc g1, fltW_snoc, if_pos e0]
          have ntD : t ≠ D := fun z => by
            have q1 : upd H5 T0 (.tup [.str x.1, .int x.2]) D = some (.lst (ts.map V.ref)) := s6 _ _ hD5
            rw [← z, ht] at q1
            cases q1
          refine paired_snoc (Paired.mapP hts fun t' p hp => ?_) ?_
          · have q1 := s7 _ _ hp
            rw [upd_ne (ne_of q1 hD7 (by intro z; cases z))]
            exact q1
          · rw [upd_ne ntD]; exact upd_same
      · rintro H5 ⟨s5, ts, hD5, hts⟩
        rw [dk_len, List.take_length] at hts
        refine ⟨s5 _ _ upd_same, ?_⟩
        have s6 : Same H2 (upd H5 hd (.dK (dk R))) := Same.unlock hd2 s5
        have hD6 : upd H5 hd (.dK (dk R)) D = some (.lst (ts.map V.ref)) := by rw [upd_ne nDh]; exact hD5
        have ht6 : Paired (fun t (p : Str × Int) => upd H5 hd (.dK (dk R)) t = some (.tup [.str p.1, .int p.2])) ts (fltW R) := Paired.mapP hts fun t p hp => by
          rw [upd_ne (ne_of hp (s5 _ _ upd_same) (by intro z; cases z))]; exact hp
        generalize upd H5 hd (.dK (dk R)) = H6 at s6 hD6 ht6
        refine ⟨D, ts, dk (fltW R), rfl, SqL.of hD6, ?_, fun kd hkd => ?_⟩
        · exact paired_dk (Paired.mapP ht6 fun t p hp => SqT.of hp)
        rw [merge_all _ (fltW_nd hRd.nd)]
        have s7 := s6.trans (Same.new (o := .dK (dk (fltW R))) hkd)
        have hk7 : upd H6 kd (.dK (dk (fltW R))) kd = some (.dK (dk (fltW R))) := upd_same
        have nkh : kd ≠ hd := fun z => by rw [z, s6 _ _ hd2] at hkd; cases hkd
        have nkr : kd ≠ r := fun z => by
          obtain ⟨o, ho⟩ := (R2.same s6).some
          rw [z, ho] at hkd; cases hkd
        have hkH : H kd = none := (s2.trans (SameX.of s6)).free (Classical.choose_spec (R2.same s6).some) hkd
        generalize upd H6 kd (.dK (dk (fltW R))) = H7 at s7 hk7
        have R7 := R2.same s7
        refine ⟨_, rfl, _, rfl, _, rfl, r, q, rfl, R7, by omega, by omega, fun c H8 s8 R8 hc0 hc1 => ?_⟩
        have hk8 := s8 kd _ nkr hk7
        have hd8 := s8 hd _ nrh (s7 _ _ hd2)
        refine ⟨by show 2 ≤ sizeLine; decide, fun m hm => ?_⟩
        have s9 : Same H8 (upd H8 m (.tup [.ref kd, .int c])) := Same.new hm
        have hm9 : upd H8 m (.tup [.ref kd, .int c]) m = some (.tup [.ref kd, .int c]) := upd_same
        generalize upd H8 m (.tup [.ref kd, .int c]) = H9 at s9 hm9
        refine ⟨_, rfl, by show 2 ≤ sizeLine; decide, fun t ht => ?_⟩
        have s10 : Same H9 (upd H9 t (.tup [.ref m, .ref hd])) := Same.new ht
        refine kk t m hd R (fltW R) c _ hhd (((s2.trans (SameX.of s7)).trans s8).trans (SameX.of (s9.trans s10))) ((R8.same s9).same s10) upd_same (s10 _ _ (s9 _ _ hd8)) hRd ⟨kd, s10 _ _ hm9, s10 _ _ (s9 _ _ hk8), fltW_dct hRd, hc0, hc1⟩ ⟨kd, s10 _ _ hm9, hkH, nkh⟩ (fltW_wt hRd.nd)
end
end Q
set_option Elab.async false
set_option maxRecDepth 100000
set_option maxHeartbeats 4000000
namespace Q
open PySem L2 QR QM
theorem Same.ntup {H : Hp} {a d : Addr} {xs : List V} {kvs : List (Key × V)} {u : HO} (h : H a = some (.tup xs)) (hd : H d = some (.dK kvs)) : upd H d u a = some (.tup xs) := by
  rw [upd_ne (ne_of h hd (by intro z; cases z))]; exact h
section
variable {P : Program} {w : World} {K : PySem.W.Frag} {mg : Str → Option Value} {base : Heap}
/-! ### _law_added -/
def spAdded : Sp := fun xs H Q _ => ∃ (a b : Addr) (k q : Int) (N : List Str) (k1 k2 : Ws) (c1 c2 : Int), xs = [.ref a, .ref b, .int k, .int q] ∧ MdlAt H a q N k1 c1 ∧ MdlAt H b q N k2 c2 ∧ Nms N ∧ IsMod q ∧
  ∀ (t : Addr) (kvs : Ws) (H' : Hp), H t = none → Same H H' → MdlAt H' t q N kvs ((c1 + k * c2) % q) → (∀ n, wt kvs n = (wt k1 n + k * wt k2 n) % q) → Q (.ref t) H'
theorem scAdded : FnScope ["_law_one", "_law_other", "_law_by", "_law_q", "_law_weights", "_law_name", "_law_weight"] ["_law_one", "_law_other", "_law_by", "_law_q"] (defScope sLAdded) := ⟨rfl, rfl, rfl, by decide +kernel, rfl, by decide +kernel, by decide +kernel⟩
theorem ok_added (T : T4 K mg) : FnOk P w K mg base CX0 1 T.added.f T.added.fd ["_law_one", "_law_other", "_law_by", "_law_q"] spAdded := by
  refine T.added.F.ok scAdded (fun vs H Q E h => ?_) (fun cdv A outer s H vs Q E hr h => ?_)
  · obtain ⟨a, b, k, q, N, k1, k2, c1, c2, rfl, _⟩ := h
    rfl
  · obtain ⟨a, b, k, q, N, k1, k2, c1, c2, rfl, ⟨d1, a1, a2, a3, a4, a5⟩, ⟨d2, b1, b2, b3, b4, b5⟩, hN, hq, kk⟩ := h
    have hu := hu_of hr
    refine ⟨_, pss_cons (ps_set (i := 4) scAdded.nd rfl (Or.inl rfl) pe_dnewK)
      (pss_cons (ps_for PassesOwn.never rfl (pi_list (pe_op op_cat (pe_callTy (call_listD rfl) (by rfl) T.B.list (by decide +kernel) (pa_cons (pe_ix ix_tup (pv 0) pe_int (fun _ _ => rfl)) pa_nil)) (pe_callTy (call_listD rfl) (by rfl) T.B.list (by decide +kernel) (pa_cons (pe_ix ix_tup (pv 1) pe_int (fun _ _ => rfl)) pa_nil))))
          (pg_name (i := 5) scAdded.nd rfl (Or.inl rfl))
        (pss_cons (ps_set (i := 6) scAdded.nd rfl (Or.inl rfl) (pe_op op_mod (pe_callTy call_int1 (by rfl) T.B.int (by decide +kernel) (pa_cons (pe_op op_add (pe_dget2 hu (pe_ix ix_tup (pv 0) pe_int (fun _ _ => rfl)) (pv 5) pe_int ⟨rfl, rfl, rfl, rfl⟩)
            (pe_op op_mul (pv 2) (pe_dget2 hu (pe_ix ix_tup (pv 1) pe_int (fun _ _ => rfl)) (pv 5) pe_int ⟨rfl, rfl, rfl, rfl⟩))) pa_nil)) (pv 3)))
        (pss_one (ps_if (pt_cmpR op_ne (pv 6) pe_int (nomark _)) (pss_one (ps_dput hu (pv 4) (pv 5) (pv 6) rfl)) pss_nil))))
      (pss_one (ps_ret (pe_tup (pa_cons (pv 4) (pa_cons (pe_op op_mod (pe_callTy call_int1 (by rfl) T.B.int (by decide +kernel) (pa_cons (pe_op op_add (pe_ix ix_tup (pv 0) pe_int (fun _ _ => rfl)) (pe_op op_mul (pv 2) (pe_ix ix_tup (pv 1) pe_int (fun _ _ => rfl)))) pa_nil)) (pv 3)) pa_nil)))))), ?_⟩
    have hq2 := hq.pos
    have hq0 : 0 < q := by omega
    have l1 := a3.len
    have l2 := b3.len
    have l3 := hN.len
    intro W hW
    have s1 : Same H (upd H W (.dK (dk []))) := Same.new hW
    have hW1 : upd H W (.dK (dk [])) W = some (.dK (dk [])) := upd_same
    change tSeq _ _ _ _ (upd H W (.dK (dk [])))
    generalize upd H W (.dK (dk [])) = H1 at s1 hW1
    refine ⟨_, rfl, a, _, 0, .ref d1, rfl, rfl, SqT.of (s1 _ _ a1), rfl, d1, dk k1, rfl, .inl (s1 _ _ a2), fun p1 hp1 => ?_⟩
    have s2 : Same H1 (upd H1 p1 (.lst (k1.map fun x => V.str x.1))) := Same.new hp1
    have hp1' : upd H1 p1 (.lst (k1.map fun x => V.str x.1)) p1 = some (.lst (k1.map fun x => V.str x.1)) := upd_same
    rw [dk_names]
    generalize upd H1 p1 (.lst (k1.map fun x => V.str x.1)) = H2 at s2 hp1'
    have s12 := s1.trans s2
    refine ⟨_, rfl, b, _, 0, .ref d2, rfl, rfl, SqT.of (s12 _ _ b1), rfl, d2, dk k2, rfl, .inl (s12 _ _ b2), fun p2 hp2 => ?_⟩
    have s3 : Same H2 (upd H2 p2 (.lst (k2.map fun x => V.str x.1))) := Same.new hp2
    have hp2' : upd H2 p2 (.lst (k2.map fun x => V.str x.1)) p2 = some (.lst (k2.map fun x => V.str x.1)) := upd_same
    rw [dk_names]
    generalize upd H2 p2 (.lst (k2.map fun x => V.str x.1)) = H3 at s3 hp2'
    refine ⟨p1, p2, _, _, rfl, rfl, s3 _ _ hp1', hp2', by rw [List.length_map, List.length_map]; exact sz_le (by omega), fun p3 hp3 => ?_⟩
    have ecat : (k1.map fun x => V.str x.1) ++ (k2.map fun x => V.str x.1) = (k1.map (·.1) ++ k2.map (·.1)).map V.str := by rw [List.map_append, List.map_map, List.map_map]; rfl
    rw [ecat]
    generalize hns : k1.map (·.1) ++ k2.map (·.1) = ns
    have s4 : Same H3 (upd H3 p3 (.lst (ns.map V.str))) := Same.new hp3
    have hp3' : upd H3 p3 (.lst (ns.map V.str)) p3 = some (.lst (ns.map V.str)) := upd_same
    generalize upd H3 p3 (.lst (ns.map V.str)) = H4 at s4 hp3'
    have s14 := (s12.trans s3).trans s4
    have hW4 := ((s2.trans s3).trans s4) _ _ hW1
    have npW : p3 ≠ W := ne_of hp3' hW4 (by intro z; cases z)
    have hns2 : ∀ n ∈ ns, n ∈ N := by
      intro n hn
      rw [← hns] at hn
      rcases List.mem_append.mp hn with z | z
      · obtain ⟨x, hx, rfl⟩ := List.mem_map.mp z; exact (a3.mem x hx).1
      · obtain ⟨x, hx, rfl⟩ := List.mem_map.mp z; exact (b3.mem x hx).1
    refine ⟨p3, rfl, ⟨_, SqL.of hp3'⟩, for_it (walk_list (xs := ns.map V.str)) (fun i σ H5 => ∃ (v5 v6 : Option V), σ = [some (.ref a), some (.ref b), some (.int k), some (.int q), some (.ref W), v5, v6] ∧ Same H H5 ∧ H5 p3 = some (.lst (ns.map V.str)) ∧ H5 W = some (.dK (dk (lawAdd k1 k2 k q [] (ns.take i)))))
      ⟨none, none, rfl, s14, hp3', hW4⟩ (fun i σ H5 _ ⟨_, _, _, _, z, _⟩ => SqL.of z) ?_ ?_⟩
    · rintro i y σ H5 H5' hi ⟨v5, v6, rfl, s5, hp5, hW5⟩ ⟨rfl, hy⟩
      rw [List.length_map] at hi
      have hyi : ns[i]? = some ns[i] := List.getElem?_eq_getElem hi
      rw [List.getElem?_map, hyi] at hy
      cases hy
      have hb0 := b3.wt0 (by decide) hq0 ns[i]
      refine ⟨_, rfl, a, _, 0, .ref d1, rfl, rfl, SqT.of (s5 _ _ a1), rfl, d1, rfl, .inl ⟨_, .inl (s5 _ _ a2)⟩, _, rfl, _, DGet.k (k := Sum.inr ns[i]) (s5 _ _ a2), ?_⟩
      rw [getD_dk]
      refine ⟨_, rfl, _, rfl, b, _, 0, .ref d2, rfl, rfl, SqT.of (s5 _ _ b1), rfl, d2, rfl, .inl ⟨_, .inl (s5 _ _ b2)⟩, _, rfl, _, DGet.k (k := Sum.inr ns[i]) (s5 _ _ b2), ?_⟩
      rw [getD_dk]
      refine ⟨_, _, rfl, rfl, .inr ⟨by omega, by omega⟩, _, _, rfl, rfl, .inl ⟨_, rfl, _, rfl, _, _, rfl, rfl, hq0, ?_⟩⟩
      refine ⟨_, rfl, rfl, (!decide (V.int ((wt k1 ns[i] + k * wt k2 ns[i]) % q) = V.int 0)), rfl, ?_⟩
      by_cases e0 : (wt k1 ns[i] + k * wt k2 ns[i]) % q = 0
      · have e1 : (!decide (V.int ((wt k1 ns[i] + k * wt k2 ns[i]) % q) = V.int 0)) = false := by rw [e0]; rfl
        rw [e1]
        refine iteF ⟨_, _, rfl, s5, hp5, ?_⟩
        rw [hW5, take_snoc hyi, lawAdd_snoc, if_neg (fun z => z e0)]
      · have e1 : (!decide (V.int ((wt k1 ns[i] + k * wt k2 ns[i]) % q) = V.int 0)) = true := by rw [decide_eq_false (fun z => e0 (V.int.inj z))]; rfl
        rw [e1]
        refine iteT ?_
        have hA : Dct 1 q N (lawAdd k1 k2 k q [] (ns.take i)) := lawAdd_dct hq0 Dct.nil fun n hn => hns2 n (List.mem_of_mem_take hn)
        have hAl := hA.len
        refine ⟨_, rfl, _, rfl, _, rfl, W, _, rfl, DPut.k (k := Sum.inr ns[i]) hW5 (by rw [dk_len]; exact sz_lt (by omega)), ?_⟩
        refine ⟨_, _, rfl, Same.mut s5 hW, by rw [upd_ne npW]; exact hp5, ?_⟩
        rw [upd_same, putK_dk, take_snoc hyi, lawAdd_snoc, if_pos e0]
    · rintro σ H5 ⟨v5, v6, rfl, s5, hp5, hW5⟩
      rw [List.length_map, List.take_length] at hW5
      refine ⟨_, rfl, _, rfl, a, _, 1, .int c1, rfl, rfl, SqT.of (s5 _ _ a1), rfl, _, rfl, _, rfl, b, _, 1, .int c2, rfl, rfl, SqT.of (s5 _ _ b1), rfl, _, _, rfl, rfl, .inr ⟨by omega, by omega⟩, _, _, rfl, rfl, .inl ⟨_, rfl, _, rfl, _, _, rfl, rfl, hq0, by show 2 ≤ sizeLine; decide, fun t ht => ?_⟩⟩
      have s6 := s5.trans (Same.new (o := .tup [.ref W, .int ((c1 + k * c2) % q)]) ht)
      refine kk t (lawAdd k1 k2 k q [] ns) _ (s5.free ht) s6 ⟨W, upd_same, ?_, lawAdd_dct hq0 Dct.nil hns2, Int.emod_nonneg _ (by omega), Int.emod_lt_of_pos _ hq0⟩ fun n => ?_
      · rw [upd_ne (ne_of_none hW5 ht)]; exact hW5
      · rw [← hns]; exact lawAdd_all n
/-! ### _law_value -/
def spValue : Sp := fun xs H Q _ => ∃ (a wd : Addr) (q : Int) (N : List Str) (kvs W : Ws) (c : Int), xs = [.ref a, .ref wd, .int q] ∧ MdlAt H a q N kvs c ∧ Nms N ∧ IsMod q ∧ H wd = some (.dK (dk W)) ∧ (∀ x ∈ kvs, x.1 ∈ W.map (·.1)) ∧
  ∀ H', Same H H' → Q (.int ((tot (wt W) kvs + c) % q)) H'
theorem scValue : FnScope ["_law_model", "_law_world", "_law_q", "_law_name", "_law_weight"] ["_law_model", "_law_world", "_law_q"] (defScope sLValue) := ⟨rfl, rfl, rfl, by decide +kernel, rfl, by decide +kernel, by decide +kernel⟩
theorem ok_value (T : T4 K mg) : FnOk P w K mg base CX0 1 T.value.f T.value.fd ["_law_model", "_law_world", "_law_q"] spValue := by
  refine T.value.F.ok scValue (fun vs H Q E h => ?_) (fun cdv A outer s H vs Q E hr h => ?_)
  · obtain ⟨a, wd, q, N, kvs, W, c, rfl, _⟩ := h
    rfl
  · obtain ⟨a, wd, q, N, kvs, W, c, rfl, ⟨d, a1, a2, a3, a4, a5⟩, hN, hq, hW, hsub, kk⟩ := h
    have hu := hu_of hr
    refine ⟨_, pss_one (ps_ret (pe_op op_mod (pe_callTy call_int1 (by rfl) T.B.int (by decide +kernel) (pa_cons (pe_op op_add (pe_callB (cr_sum rfl) (by rfl) T.B.sum (by decide +kernel) (pa_cons (pe_lock (pe_lc (own := [("_law_name", 3), ("_law_weight", 4)]) (g := gPair K 3 4) (tt := tYes) rfl scValue.nd (pi_items (pe_ix ix_tup (pv 0) pe_int (fun _ _ => rfl)))
        (blkOk_by (own := [("_law_name", 3), ("_law_weight", 4)]) (N := ["_law_model", "_law_world", "_law_q", "_law_name", "_law_weight"]) (sc := defScope sLValue) (by decide +kernel))
        (fun _ _ _ _ _ => pg_tup rfl (pgs_cons (pg_name (i := 3) scValue.nd rfl (Or.inl rfl)) (pgs_cons (pg_name (i := 4) scValue.nd rfl (Or.inl rfl)) pgs_nil))) (fun _ _ _ _ _ => pts_nil)
        (fun _ _ _ _ _ => pe_op op_mul (pv 4) (pe_dget hu (pv 1) (pv 3) (fun _ _ => rfl))))) pa_nil)) (pe_ix ix_tup (pv 0) pe_int (fun _ _ => rfl))) pa_nil)) (pv 2))), ?_⟩
    have hq2 := hq.pos
    have hq0 : 0 < q := by omega
    have l1 := a3.len
    have l3 := hN.len
    refine ⟨d, _, a2, True.intro, fun od => ?_⟩
    have la : upd H d (.frz od (.dK (dk kvs))) a = some (.tup [.ref d, .int c]) := Same.ntup a1 a2
    have lW : Rd (upd H d (.frz od (.dK (dk kvs)))) wd (.dK (dk W)) := rd_lock hW a2
    refine ⟨_, rfl, a, _, 0, .ref d, rfl, rfl, SqT.of la, rfl, d, od, dk kvs, rfl, upd_same, fun D hD => lc_map walk_items (kvs.map fun p => V.int (p.2 * wt W p.1)) (by rw [List.length_map, dk_len]) (fun H1 s1 => s1 _ _ upd_same) hD (by rw [dk_len]; omega) (fun i x H1 H' hi s1 y P1 kp => ?_) fun H1 s1 hD1 => ?_⟩
    · obtain ⟨p, T0, g1, g2, rfl, hT, rfl⟩ := ypair_dk hi y
      have s2 : Same H1 (upd H1 T0 (.tup [.str p.1, .int p.2])) := Same.new hT
      have hp := a3.mem p g2
      have hg : DGet (upd H1 T0 (.tup [.str p.1, .int p.2])) wd (.str p.1) (some (.int (wt W p.1))) := by
        have := dget_rd (rd_same (s1.trans s2) lW) p.1
        rw [lk_of_mem (hsub p g2)] at this
        exact this
      refine ⟨T0, _, rfl, SqT.of upd_same, rfl, _, _, rfl, _, _, rfl, rfl, rfl, ?_⟩
      refine ⟨_, rfl, _, rfl, _, rfl, wd, _, rfl, hg, _, _, rfl, rfl, .inl ⟨by omega, by omega⟩, ?_⟩
      exact kp _ _ (by rw [List.getElem?_map, g1]; rfl) s2
    · refine ⟨s1 _ _ upd_same, ?_⟩
      have nDd : D ≠ d := fun z => by rw [z, upd_same] at hD; cases hD
      have s3 : Same H (upd H1 d (.dK (dk kvs))) := Same.unlock a2 s1
      refine ⟨D, kvs.map fun p => p.2 * wt W p.1, rfl, SqL.of (by rw [upd_ne nDd, hD1, List.map_map]; rfl), ?_⟩
      refine ⟨_, rfl, a, _, 1, .int c, rfl, rfl, SqT.of (s3 _ _ a1), rfl, _, _, rfl, rfl, .inl ⟨_, rfl, _, rfl, _, _, rfl, rfl, hq0, ?_⟩⟩
      exact kk _ s3
end
end Q
set_option Elab.async false
set_option maxRecDepth 100000
set_option maxHeartbeats 4000000
namespace Q
open PySem L2 QR QM
/-! ### data compared -/
abbrev encP (p : Str × Int) : PyData := .tuple [.str p.1, .int p.2]
theorem sig_ok : ∀ c ∈ signsS.cps.toList, c < 128 := by decide +kernel
theorem nm_ok {n : Str} (h : IsNm n) : PyData.strOk n = true := by
  unfold PyData.strOk
  rw [Array.all_eq_true']
  intro c hc
  have := sig_ok c (h.all c (by simpa using hc))
  simp
  omega
theorem lay_ints : ∀ ns : List Int, PyData.canLayAll0 (ns.map .int) = true
  | [] => rfl
  | n :: r => by rw [List.map_cons]; simp [PyData.canLayAll0, PyData.canLay0, lay_ints r]
theorem lay_strs : ∀ ns : List Str, (∀ n ∈ ns, IsNm n) → PyData.canLayAll0 (ns.map .str) = true
  | [], _ => rfl
  | n :: r, h => by
    rw [List.map_cons]
    have e := nm_ok (h n List.mem_cons_self)
    have ih := lay_strs r fun x hx => h x (List.mem_cons_of_mem _ hx)
    simp [PyData.canLayAll0, PyData.canLay0, e, ih]
theorem lay_pairs : ∀ ws : Ws, (∀ p ∈ ws, IsNm p.1) → PyData.canLayAll0 (ws.map encP) = true
  | [], _ => rfl
  | n :: r, h => by
    rw [List.map_cons]
    have e := nm_ok (h n List.mem_cons_self)
    have ih := lay_pairs r fun x hx => h x (List.mem_cons_of_mem _ hx)
    simp [PyData.canLayAll0, PyData.canLay0, e, ih]
theorem dep_ints : ∀ ns : List Int, PyData.depthAll (ns.map .int) = 0
  | [] => rfl
  | n :: r => by rw [List.map_cons]; simp [PyData.depthAll, PyData.depth, dep_ints r]
theorem dep_strs : ∀ ns : List Str, PyData.depthAll (ns.map .str) = 0
  | [] => rfl
  | n :: r => by rw [List.map_cons]; simp [PyData.depthAll, PyData.depth, dep_strs r]
theorem dep_pairs : ∀ ws : Ws, PyData.depthAll (ws.map encP) ≤ 1
  | [] => by simp [PyData.depthAll]
  | n :: r => by rw [List.map_cons]; have := dep_pairs r; simp [PyData.depthAll, PyData.depth]; omega
theorem shp_ints (ns : List Int) : SeqAt.shaped (.list (ns.map .int)) = true := by
  unfold SeqAt.shaped
  have h : PyData.canLay0 (.list (ns.map .int)) = true := lay_ints ns
  have h2 : PyData.depth (.list (ns.map .int)) ≤ 64 := by show PyData.depthAll (ns.map .int) + 1 ≤ 64; rw [dep_ints]; decide
  rw [h, decide_eq_true h2]; rfl
theorem shp_strs {ns : List Str} (hn : ∀ n ∈ ns, IsNm n) : SeqAt.shaped (.list (ns.map .str)) = true := by
  unfold SeqAt.shaped
  have h : PyData.canLay0 (.list (ns.map .str)) = true := lay_strs ns hn
  have h2 : PyData.depth (.list (ns.map .str)) ≤ 64 := by show PyData.depthAll (ns.map .str) + 1 ≤ 64; rw [dep_strs]; decide
  rw [h, decide_eq_true h2]; rfl
theorem shp_pairs {ws : Ws} (hn : ∀ p ∈ ws, IsNm p.1) : SeqAt.shaped (.list (ws.map encP)) = true := by
  unfold SeqAt.shaped
  have h : PyData.canLay0 (.list (ws.map encP)) = true := lay_pairs ws hn
  have h2 : PyData.depth (.list (ws.map encP)) ≤ 64 := by show PyData.depthAll (ws.map encP) + 1 ≤ 64; have := dep_pairs ws; omega
  rw [h, decide_eq_true h2]; rfl
theorem eqv_self {d : PyData} (h : SeqAt.shaped d = true) : PyData.eqv d d = true := SeqAt.eqv_refl d (SeqAt.canLay_of_shaped h)
section
variable {K : PySem.W.Frag} {H : Hp}
theorem dpa_ints : ∀ ns : List Int, DpAll K H (ns.map V.int) (ns.map .int)
  | [] => .nil
  | n :: r => .cons (.int n) (dpa_ints r)
theorem dpa_strs : ∀ ns : List Str, DpAll K H (ns.map V.str) (ns.map .str)
  | [] => .nil
  | n :: r => .cons (.str n) (dpa_strs r)
theorem dpa_pairs : ∀ {ts : List Addr} {ws : Ws}, Paired (fun t (p : Str × Int) => H t = some (.tup [.str p.1, .int p.2])) ts ws → DpAll K H (ts.map V.ref) (ws.map encP)
  | _, _, .nil => .nil
  | _, _, .cons r t => .cons (.tup (SqT.of r) (.cons (.str _) (.cons (.int _) .nil))) (dpa_pairs t)
/-- two lists of the same data: != is False -/
theorem neD_list {a b : Addr} {xs ys : List V} {ds : List PyData} {Q : VK} (ha : SqL K H a xs) (hb : SqL K H b ys) (da : DpAll K H xs ds) (db : DpAll K H ys ds) (hs : SeqAt.shaped (.list ds) = true) (q : Q (.bl false) H) : rNeD K (.ref a) (.ref b) H Q := by
  refine ⟨_, _, .lst ha da, .lst hb db, hs, hs, ?_⟩
  rw [eqv_self hs]
  exact q
theorem eqD_list {a b : Addr} {xs ys : List V} {ds : List PyData} {Q : VK} (ha : SqL K H a xs) (hb : SqL K H b ys) (da : DpAll K H xs ds) (db : DpAll K H ys ds) (hs : SeqAt.shaped (.list ds) = true) (q : Q (.bl true) H) : rEqD K (.ref a) (.ref b) H Q := by
  refine ⟨_, _, .lst ha da, .lst hb db, hs, hs, ?_⟩
  rw [eqv_self hs]
  exact q
end
end Q
set_option Elab.async false
set_option maxRecDepth 100000
set_option maxHeartbeats 4000000
namespace Q
open PySem L2 QR QM
/-- a model whose dict was not there in H0 -/
def MdlIn (H0 H : Hp) (t : Addr) (q : Int) (N : List Str) (kvs : Ws) (c : Int) : Prop := ∃ d, H0 d = none ∧ H t = some (.tup [.ref d, .int c]) ∧ H d = some (.dK (dk kvs)) ∧ Dct 1 q N kvs ∧ 0 ≤ c ∧ c < q
theorem MdlIn.same {H0 H H' : Hp} {t : Addr} {q : Int} {N : List Str} {kvs : Ws} {c : Int} (h : MdlIn H0 H t q N kvs c) (s : Same H H') : MdlIn H0 H' t q N kvs c := by
  obtain ⟨d, h0, h1, h2, h3⟩ := h
  exact ⟨d, h0, s _ _ h1, s _ _ h2, h3⟩
theorem MdlIn.lock {H0 H : Hp} {t e : Addr} {q : Int} {N : List Str} {kvs : Ws} {c : Int} {o u : HO} {ks : List (Key × V)} (h : MdlIn H0 H t q N kvs c) (he : H0 e = some o) (hk : H e = some (.dK ks)) : MdlAt (upd H e u) t q N kvs c := by
  obtain ⟨d, h0, h1, h2, h3⟩ := h
  exact ⟨d, Same.ntup h1 hk, by rw [upd_ne (ne_of_none he h0).symm]; exact h2, h3⟩
theorem MdlAt.unlock {H : Hp} {t e : Addr} {q : Int} {N : List Str} {kvs : Ws} {c : Int} {o : Obj} {u v : HO} (h : MdlAt H t q N kvs c) (he : H e = some (.frz o v)) : MdlAt (upd H e u) t q N kvs c := by
  obtain ⟨d, h1, h2, h3⟩ := h
  exact ⟨d, by rw [upd_ne (ne_of h1 he (by intro z; cases z))]; exact h1, by rw [upd_ne (ne_of h2 he (by intro z; cases z))]; exact h2, h3⟩
theorem emod_add_l {a b q : Int} : (a % q + b) % q = (a + b) % q := Int.emod_add_emod a q b
section
variable {P : Program} {w : World} {K : PySem.W.Frag} {mg : Str → Option Value} {base : Heap}
/-! ### _law_replaced -/
def spReplaced : Sp := fun xs H Q _ => ∃ (a sd : Addr) (q : Int) (N : List Str) (kvs : Ws) (c : Int) (H0 : Hp) (ms : Ss) (G : Str → Ws) (g : Str → Int), xs = [.ref a, .ref sd, .int q] ∧ Same H0 H ∧ MdlAt H0 a q N kvs c ∧ Nms N ∧ IsMod q ∧
  H sd = some (.dK (sk ms)) ∧ (∀ x ∈ ms, MdlIn H0 H x.2 q N (G x.1) (g x.1)) ∧
  ∀ (t : Addr) (us : Ws) (H' : Hp), Same H H' → MdlAt H' t q N us ((c + tot (rC ms g) kvs) % q) → (∀ m, wt us m = tot (fun n => wt (rW ms G n) m) kvs % q) → Q (.ref t) H'
theorem scReplaced : FnScope ["_law_model", "_law_sums", "_law_q", "_law_found", "_law_name", "_law_weight"] ["_law_model", "_law_sums", "_law_q"] (defScope sLReplaced) := ⟨rfl, rfl, rfl, by decide +kernel, rfl, by decide +kernel, by decide +kernel⟩
theorem ok_replaced (T : T4 K mg) : FnOk P w K mg base CX0 2 T.replaced.f T.replaced.fd ["_law_model", "_law_sums", "_law_q"] spReplaced := by
  have GA : FnOk P w K mg base CX0 1 T.added.f T.added.fd ["_law_one", "_law_other", "_law_by", "_law_q"] spAdded := ok_added T
  refine T.replaced.F.ok scReplaced (fun vs H Q E h => ?_) (fun cdv A outer s H vs Q E hr h => ?_)
  · obtain ⟨a, sd, q, N, kvs, c, H0, ms, G, g, rfl, _⟩ := h
    rfl
  · obtain ⟨a, sd, q, N, kvs, c, H0, ms, G, g, rfl, s0, ⟨d, z1, z2, a3, a4, a5⟩, hN, hq, hsd, hms, kk⟩ := h
    have hu := hu_of hr
    refine ⟨_, pss_cons (ps_set (i := 3) scReplaced.nd rfl (Or.inl rfl) (pe_tup (pa_cons pe_dnewK (pa_cons (pe_ix ix_tup (pv 0) pe_int (fun _ _ => rfl)) pa_nil))))
      (pss_cons (ps_lock (ps_for PassesOwn.never rfl (pi_items (pe_ix ix_tup (pv 0) pe_int (fun _ _ => rfl)))
          (pg_tup rfl (pgs_cons (pg_name (i := 4) scReplaced.nd rfl (Or.inl rfl)) (pgs_cons (pg_name (i := 5) scReplaced.nd rfl (Or.inl rfl)) pgs_nil)))
          (pss_one (ps_set (i := 3) scReplaced.nd rfl (Or.inl rfl) (pe_call GA hr (by rfl) T.gAdded T.added.kp T.added.b .nil pass0 (pa_cons (pv 3) (pa_cons
            (pe_dget2 hu (pv 1) (pv 4) (pe_tup (pa_cons (pe_disp (pps_cons (pv 4) pe_int pps_nil) (by rfl) (by rfl) (fun z => by cases z) (by decide)) (pa_cons pe_int pa_nil))) ⟨rfl, rfl, rfl, rfl⟩) (pa_cons (pv 5) (pa_cons (pv 2) pa_nil)))))))))
      (pss_one (ps_ret (pv 3)))), ?_⟩
    have a1 := s0 _ _ z1
    have a2 := s0 _ _ z2
    have hq2 := hq.pos
    have hq0 : 0 < q := by omega
    -- found = ({}, model[1])
    intro e0 he0
    have s1 : Same H (upd H e0 (.dK (dk []))) := Same.new he0
    have hE : upd H e0 (.dK (dk [])) e0 = some (.dK (dk [])) := upd_same
    change tCons _ _ _ (upd H e0 (.dK (dk []))) _
    generalize upd H e0 (.dK (dk [])) = H1 at s1 hE
    refine ⟨_, rfl, a, _, 1, .int c, rfl, rfl, SqT.of (s1 _ _ a1), rfl, by show 2 ≤ sizeLine; decide, fun t0 ht0 => ?_⟩
    have s2 : Same H1 (upd H1 t0 (.tup [.ref e0, .int c])) := Same.new ht0
    have hF0 : MdlIn H (upd H1 t0 (.tup [.ref e0, .int c])) t0 q N [] c := ⟨e0, he0, upd_same, s2 _ _ hE, Dct.nil, a4, a5⟩
    generalize upd H1 t0 (.tup [.ref e0, .int c]) = H2 at s2 hF0
    have sA := s1.trans s2
    have a2' := sA _ _ a2
    -- the loop
    refine ⟨d, _, a2', True.intro, fun ol => ?_⟩
    have la : upd H2 d (.frz ol (.dK (dk kvs))) a = some (.tup [.ref d, .int c]) := Same.ntup (sA _ _ a1) a2'
    have lsd : Rd (upd H2 d (.frz ol (.dK (dk kvs)))) sd (.dK (sk ms)) := rd_lock (sA _ _ hsd) a2'
    have lms : ∀ x ∈ ms, MdlAt (upd H2 d (.frz ol (.dK (dk kvs)))) x.2 q N (G x.1) (g x.1) := fun x hx => ((hms x hx).same sA).lock z2 a2'
    have lF : MdlAt (upd H2 d (.frz ol (.dK (dk kvs)))) t0 q N [] c := hF0.lock a2 a2'
    refine ⟨_, rfl, a, _, 0, .ref d, rfl, rfl, SqT.of la, rfl, d, ol, dk kvs, rfl, upd_same, ?_⟩
    have hLd : upd H2 d (.frz ol (.dK (dk kvs))) d = some (.frz ol (.dK (dk kvs))) := upd_same
    have hLk : ∀ H5, Same (upd H2 d (.frz ol (.dK (dk kvs)))) H5 → Same H2 (upd H5 d (.dK (dk kvs))) := fun H5 z => Same.unlock a2' z
    generalize upd H2 d (.frz ol (.dK (dk kvs))) = HL at la lsd lms lF hLd hLk
    refine for_it walk_items (fun i σ H5 => ∃ f vs v4 v5, σ = [some (.ref a), some (.ref sd), some (.int q), some (.ref f), v4, v5] ∧ Same HL H5 ∧ MdlAt H5 f q N vs ((c + tot (rC ms g) (kvs.take i)) % q) ∧ ∀ m, wt vs m = tot (fun n => wt (rW ms G n) m) (kvs.take i) % q)
      ⟨t0, [], none, none, rfl, Same.refl _, ?_, fun m => ?_⟩ (fun i σ H5 _ ⟨_, _, _, _, _, z, _⟩ => z _ _ hLd) ?_ ?_
    · rw [List.take_zero, tot_nil, Int.add_zero, Int.emod_eq_of_lt a4 a5]; exact lF
    · rw [List.take_zero, tot_nil, wt_nil, Int.zero_emod]
    · rintro i y σ H5 H5' hi ⟨f, vs, v4, v5, rfl, s5, hF5, hw5⟩ y2
      obtain ⟨x, T0, g1, g2, rfl, hT, rfl⟩ := ypair_dk hi y2
      have s6 : Same HL (upd H5 T0 (.tup [.str x.1, .int x.2])) := s5.trans (Same.new hT)
      have hF6 := hF5.same (Same.new (o := .tup [.str x.1, .int x.2]) hT)
      have hx := a3.mem x g2
      refine ⟨T0, _, rfl, SqT.of upd_same, rfl, _, _, rfl, _, _, rfl, rfl, ?_⟩
      generalize upd H5 T0 (.tup [.str x.1, .int x.2]) = H6 at s6 hF6
      refine ⟨_, rfl, _, rfl, sd, rfl, .inl ⟨_, rd_same s6 lsd⟩, _, rfl, fun e1 he1 => ?_⟩
      refine ⟨_, rfl, upd_same, [(Sum.inr x.1, V.int 1)], rfl, by show 1 ≤ 15; decide, ?_⟩
      have em : mergeK [] [((Sum.inr x.1 : Key), V.int 1)] = dk [(x.1, 1)] := rfl
      rw [em, upd_upd]
      have s7 : Same H6 (upd H6 e1 (.dK (dk [(x.1, 1)]))) := Same.new he1
      have hE1 : upd H6 e1 (.dK (dk [(x.1, 1)])) e1 = some (.dK (dk [(x.1, 1)])) := upd_same
      generalize upd H6 e1 (.dK (dk [(x.1, 1)])) = H7 at s7 hE1
      refine ⟨by show 2 ≤ sizeLine; decide, fun t1 ht1 => ?_⟩
      have s8 : Same H7 (upd H7 t1 (.tup [.ref e1, .int 0])) := Same.new ht1
      have hY : MdlAt (upd H7 t1 (.tup [.ref e1, .int 0])) t1 q N [(x.1, 1)] 0 := by
        refine ⟨e1, upd_same, s8 _ _ hE1, ⟨by simp, fun r hr => ?_⟩, Int.le_refl _, hq0⟩
        rw [List.mem_singleton.mp hr]; exact ⟨hx.1, by show (1 : Int) ≤ 1; decide, by show (1 : Int) < q; omega⟩
      generalize upd H7 t1 (.tup [.ref e1, .int 0]) = H8 at s8 hY
      have s9 : Same HL H8 := (s6.trans s7).trans s8
      have hF8 := (hF6.same s7).same s8
      have pick : ∃ b us', ((lkA ms x.1).map V.ref).getD (.ref t1) = .ref b ∧ MdlAt H8 b q N us' (rC ms g x.1) ∧ ∀ m, wt us' m = wt (rW ms G x.1) m := by
        cases e : lkA ms x.1 with
        | none =>
          have nm := lkA_none e
          refine ⟨t1, [(x.1, 1)], rfl, ?_, fun m => ?_⟩
          · unfold rC; rw [if_neg nm]; exact hY
          · unfold rW; rw [if_neg nm]
        | some b =>
          have am := lkA_mem e
          have km : x.1 ∈ ms.map (·.1) := List.mem_map_of_mem (f := (·.1)) am
          refine ⟨b, G x.1, rfl, ?_, fun m => ?_⟩
          · unfold rC; rw [if_pos km]; exact (lms _ am).same s9
          · unfold rW; rw [if_pos km]
      obtain ⟨b, us', eb, hB, hwB⟩ := pick
      refine ⟨_, dget_sk (rd_same s9 lsd) x.1, ?_⟩
      rw [eb]
      refine ⟨_, rfl, _, rfl, f, b, x.2, q, N, vs, us', _, _, rfl, hF8, hB, hN, hq, fun t2 ks H9 _ s10 hR hRw => ?_⟩
      refine ⟨t2, ks, some (.str x.1), some (.int x.2), rfl, s9.trans s10, ?_, fun m' => ?_⟩
      · rw [take_snoc g1, tot_snoc, ← Int.add_assoc, ← emod_add_l]
        exact hR
      · rw [hRw, hw5, hwB, take_snoc g1, tot_snoc, emod_add_l]
    · rintro σ H5 ⟨f, vs, v4, v5, rfl, s5, hF5, hw5⟩
      rw [dk_len, List.take_length] at hF5
      rw [dk_len] at hw5
      refine ⟨s5 _ _ hLd, ?_⟩
      refine ⟨_, rfl, ?_⟩
      exact kk f vs _ (sA.trans (hLk _ s5)) (hF5.unlock (s5 _ _ hLd)) fun m => by rw [hw5, List.take_length]
end
end Q
set_option Elab.async false
set_option maxRecDepth 100000
set_option maxHeartbeats 4000000
namespace Q
open PySem L2 QR QM
abbrev nTells : List Str := ["_law_one", "_law_model", "_law_q", "_law_turn", "_law_told", "_law_names", "_law_odd", "_law_name", "_law_weight", "_law_value_here"]
theorem paired_of_zs {H : Hp} : ∀ {zs : List (Addr × Str × Int)}, (∀ z ∈ zs, H z.1 = some (.tup [.str z.2.1, .int z.2.2])) → Paired (fun t (p : Str × Int) => H t = some (.tup [.str p.1, .int p.2])) (zs.map (·.1)) (zs.map (·.2))
  | [], _ => .nil
  | z :: r, h => .cons (h z List.mem_cons_self) (paired_of_zs fun x hx => h x (List.mem_cons_of_mem _ hx))
theorem paired_kV {H : Hp} : ∀ {ts : List Addr} {R : Ws}, Paired (fun (t : Addr) (q : Key × V) => H t = some (.tup [kV q.1, q.2])) ts (dk R) → Paired (fun t (p : Str × Int) => H t = some (.tup [.str p.1, .int p.2])) ts R
  | _, [], .nil => .nil
  | _, _ :: _, .cons r t => .cons r (paired_kV t)
theorem not_nm {ws : Ws} {q : Int} {N : List Str} {n : Str} (h : Dct 1 q N ws) (hN : Nms N) (hn : ¬ IsNm n) : wt ws n = 0 := by
  by_cases e : wt ws n = 0
  · exact e
  · exact absurd (hN.nm _ (h.mem _ (wt_mem e)).1) hn
theorem odd1 : ¬ IsNm ("A" : Str) := fun h => absurd (h.hd 65 (by decide +kernel)) (by decide +kernel)
theorem odd2 : ¬ IsNm ("" : Str) := fun h => absurd h.len.1 (by decide +kernel)
theorem odd3 : ¬ IsNm ("a-" : Str) := fun h => absurd (h.all 45 (by decide +kernel)) (by decide +kernel)
section
variable {P : Program} {w : World} {K : PySem.W.Frag} {mg : Str → Option Value} {base : Heap}
/-! ### _law_tells -/
def spTells (S : Addr) : Sp := fun xs H Q _ => ∃ (p t : Addr) (q : Int) (N : List Str) (ws kvs : Ws) (c : Int), xs = [.ref p, .ref t, .int q] ∧ SumAt S H p q N ws c ∧ MdlAt H t q N kvs c ∧ Nms N ∧ IsMod q ∧ (∀ n, wt ws n = wt kvs n) ∧ ∀ H', Same H H' → Q (.bl true) H'
theorem scTells : FnScope nTells ["_law_one", "_law_model", "_law_q"] (defScope sLTells) := ⟨rfl, rfl, rfl, by decide +kernel, rfl, by decide +kernel, by decide +kernel⟩
theorem ok_tells (T : T4 K mg) : FnOk P w K mg base CX0 3 T.tells.f T.tells.fd ["_law_one", "_law_model", "_law_q"] (spTells T.S) := by
  have GM : FnOk P w K mg base CX0 1 T.modulus.f T.modulus.fd ["self"] (getSp T.S "own_modulus") := ok_modulus T.toT3
  have GC : FnOk P w K mg base CX0 1 T.constant.f T.constant.fd ["self"] (getSp T.S "own_constant") := ok_constant T.toT3
  have GI : FnOk P w K mg base CX0 1 T.isConstant.f T.isConstant.fd ["self"] (spIsConstant T.S) := ok_isConstant T.toT3
  have GW : FnOk P w K mg base CX0 1 T.weights.f T.weights.fd ["self"] (spWeights T.S) := ok_weights T.toT3
  have GN : FnOk P w K mg base CX0 1 T.names.f T.names.fd ["self"] (spNames T.S) := ok_names T.toT3
  have GU : FnOk P w K mg base CX0 1 T.weight.f T.weight.fd ["self", "name"] (spWeight K T.S) := ok_weight T.toT3
  refine T.tells.F.ok scTells (fun vs H Q E h => ?_) (fun cdv A outer s H vs Q E hr h => ?_)
  · obtain ⟨p, t, q, N, ws, kvs, c, rfl, _⟩ := h
    rfl
  · obtain ⟨p, t, q, N, ws, kvs, c, rfl, hS, hM, hN, hq, hwk, kk⟩ := h
    have hr1 : Room 1 _ := hr.mono (by decide)
    have hu := hu_of hr
    refine ⟨_, (pss_cons (ps_if (pt_cmpR (op_neD hr.units) (pe_lst (pa_cons (pe_prop (pv 0) T.cl T.modulus.pr GM hr T.modulus.b .nil pass0 rfl) (pa_cons (pe_prop (pv 0) T.cl T.constant.pr GC hr T.constant.b .nil pass0 rfl) (pa_cons (pe_prop (pv 0) T.cl T.isConstant.pr GI hr T.isConstant.b .nil pass0 rfl) pa_nil)))) (pe_lst (pa_cons (pv 2) (pa_cons (pe_ix ix_tup (pv 1) pe_int (fun _ _ => rfl)) (pa_cons (pe_cmpR (op_eqDL hr.units0) (pe_ix ix_tup (pv 1) pe_int (fun _ _ => rfl)) pe_dnewK (nomark _)) pa_nil)))) (nomark _)) (pss_one (ps_ret pe_bl)) pss_nil) (pss_cons (ps_for PassesOwn.never rfl (pi_range1 (by rfl) T.B.range (pa_cons pe_int pa_nil)) (pg_name (i := 3) scTells.nd rfl (Or.inl rfl)) (pss_cons (ps_set (i := 4) scTells.nd rfl (Or.inl rfl) (pe_meth0 (pv 0) T.cl T.weights.m GW hr1 T.weights.b .nil pass0)) (pss_cons (ps_if (PW.pt (pw_or (pt_not (pt_val (pe_callB call_isi (by rfl) T.B.isinstance (by decide +kernel) (pa_cons (pv 4) (pa_cons (pe_bltn (v := .ty "dict") (by rfl) T.B.dict (by decide +kernel) rfl) pa_nil))))) (pw_or1 (pt_cmpR (op_neD hr.units) (LiI.pe_listItems rfl (pv 4) (by rfl) T.B.list (by decide +kernel)) (pe_callB (cr_sortItK rfl hr.units) (by rfl) T.B.sorted (by decide +kernel) (pa_cons (pe_bm0 PySem.F.plainAttrs_dict PySem.F.slot_dict_items PySem.F.type_dict_items mt_itemsK (pe_ix ix_tup (pv 1) pe_int (fun _ _ => rfl))) pa_nil)) (nomark _))))) (pss_one (ps_ret pe_bl)) pss_nil) (pss_cons (ps_set (i := 5) scTells.nd rfl (Or.inl rfl) (pe_meth0 (pv 0) T.cl T.names.m GN hr1 T.names.b .nil pass0)) (pss_cons (ps_if (PW.pt (pw_or (pt_not (pt_val (pe_callB call_isi (by rfl) T.B.isinstance (by decide +kernel) (pa_cons (pv 5) (pa_cons (pe_bltn (v := .ty "list") (by rfl) T.B.list (by decide +kernel) rfl) pa_nil))))) (pw_or1 (pt_cmpR (op_neD hr.units) (pv 5) (pe_callB (call_sortedD rfl) (by rfl) T.B.sorted (by decide +kernel) (pa_cons (pe_ix ix_tup (pv 1) pe_int (fun _ _ => rfl)) pa_nil)) (nomark _))))) (pss_one (ps_ret pe_bl)) pss_nil) (pss_cons (ps_expr (pe_dclear (pv 4))) (pss_one (ps_expr (pe_bm PySem.F.plainAttrs_list PySem.F.slot_list_append PySem.F.type_list_append mt_append (pv 5) (pa_cons pe_str pa_nil)))))))))) (pss_cons (ps_if (pt_cmpR (op_neD hr.units) (pe_lc (own := [("_law_name", 7)]) (g := (gName 7)) (tt := tYes) rfl scTells.nd (pi_list (pe_callB (call_sortedD rfl) (by rfl) T.B.sorted (by decide +kernel) (pa_cons (pe_ix ix_tup (pv 1) pe_int (fun _ _ => rfl)) pa_nil))) (blkOk_by (own := [("_law_name", 7)]) (N := nTells) (sc := defScope sLTells) (by decide +kernel)) (fun _ _ _ _ _ => (pg_name (i := 7) scTells.nd rfl (Or.inl rfl))) (fun _ _ _ _ _ => pts_nil) (fun _ _ _ _ _ => (pe_meth (pv 0) T.cl T.weight.m GU hr1 T.weight.b .nil pass0 (pa_cons (pv 7) pa_nil)))) (pe_lc (own := [("_law_name", 7), ("_law_weight", 8)]) (g := (gTup K 2 (gCons (gName 7) (gCons (gName 8) gNil)))) (tt := tYes) rfl scTells.nd (pi_list (pe_callB (cr_sortItK rfl hr.units) (by rfl) T.B.sorted (by decide +kernel) (pa_cons (pe_bm0 PySem.F.plainAttrs_dict PySem.F.slot_dict_items PySem.F.type_dict_items mt_itemsK (pe_ix ix_tup (pv 1) pe_int (fun _ _ => rfl))) pa_nil))) (blkOk_by (own := [("_law_name", 7), ("_law_weight", 8)]) (N := nTells) (sc := defScope sLTells) (by decide +kernel)) (fun _ _ _ _ _ => (pg_tup rfl (pgs_cons (pg_name (i := 7) scTells.nd rfl (Or.inl rfl)) (pgs_cons (pg_name (i := 8) scTells.nd rfl (Or.inl rfl)) pgs_nil)))) (fun _ _ _ _ _ => pts_nil) (fun _ _ _ _ _ => (pv 8))) (nomark _)) (pss_one (ps_ret pe_bl)) pss_nil) (pss_cons (ps_set (i := 6) scTells.nd rfl (Or.inl rfl) (pe_lst (pa_cons pe_str (pa_cons pe_str (pa_cons pe_str (pa_cons pe_non (pa_cons pe_int (pa_cons pe_bl (pa_cons (pe_lst (pa_cons pe_str pa_nil)) (pa_cons (pe_tup (pa_cons pe_str pa_nil)) (pa_cons (pe_disp (pps_cons pe_str pe_int pps_nil) (by rfl) (by rfl) (fun z => by cases z) (by decide)) pa_nil))))))))))) (pss_one (ps_ret (pe_and (pe_cmpR (op_eqD hr.units) (pe_lc (own := [("_law_value_here", 9)]) (g := (gName 9)) (tt := tYes) rfl scTells.nd (pi_list (pv 6)) (blkOk_by (own := [("_law_value_here", 9)]) (N := nTells) (sc := defScope sLTells) (by decide +kernel)) (fun _ _ _ _ _ => (pg_name (i := 9) scTells.nd rfl (Or.inl rfl))) (fun _ _ _ _ _ => pts_nil) (fun _ _ _ _ _ => (pe_meth (pv 0) T.cl T.weight.m GU hr1 T.weight.b .nil pass0 (pa_cons (pv 9) pa_nil)))) (pe_op op_rep (pe_lst (pa_cons pe_int pa_nil)) (pe_callB call_len_seq (by rfl) T.B.len PySem.boot_len (pa_cons (pv 6) pa_nil))) (nomark _)) (pe_one (pe_cmpR op_eq (pe_meth (pv 0) T.cl T.weight.m GU hr1 T.weight.b .nil pass0 (pa_cons pe_str pa_nil)) (pe_dget2 hu (pe_ix ix_tup (pv 1) pe_int (fun _ _ => rfl)) pe_str pe_int ⟨rfl, rfl, rfl, rfl⟩) (nomark _)))))))))), ?_⟩
    obtain ⟨dx, d, h1, h2, hcan, hc0, hc1⟩ := id hS
    obtain ⟨e, m1, m2, m3, _, _⟩ := id hM
    have hq2 := hq.pos
    have hl := hcan.d.len
    have hkl := m3.len
    have hNl := hN.len
    have hperm : ws.Perm kvs := hcan.d.same m3 hwk
    have hlen : ws.length = kvs.length := hperm.length_eq
    have hnm : ∀ x ∈ ws, IsNm x.1 := fun x hx => hN.nm _ (hcan.d.mem x hx).1
    -- [modulus, constant, is_constant] != [q, model[1], model[0] == {}]
    refine ⟨_, rfl, p, dx, _, rfl, h1, p, dx, _, _, rfl, h1, fl_m _ _ _, ?_⟩
    refine ⟨_, rfl, p, dx, _, rfl, h1, p, dx, _, _, rfl, h1, fl_c _ _ _, ?_⟩
    refine ⟨_, rfl, p, dx, _, rfl, h1, p, q, N, ws, c, rfl, hS, fun H1 s1 => ⟨by show 3 ≤ sizeLine; decide, fun l1 hl1 => ?_⟩⟩
    have s2 : Same H1 (upd H1 l1 (.lst [.int q, .int c, .bl (decide (ws.length = 0))])) := Same.new hl1
    have hl1' : upd H1 l1 (.lst [.int q, .int c, .bl (decide (ws.length = 0))]) l1 = some (.lst [.int q, .int c, .bl (decide (ws.length = 0))]) := upd_same
    generalize upd H1 l1 (.lst [.int q, .int c, .bl (decide (ws.length = 0))]) = H2 at s2 hl1'
    have s12 := s1.trans s2
    refine ⟨_, rfl, _, rfl, t, _, 1, .int c, rfl, rfl, SqT.of (s12 _ _ m1), rfl, ?_⟩
    refine ⟨_, rfl, t, _, 0, .ref e, rfl, rfl, SqT.of (s12 _ _ m1), rfl, fun e0 he0 => ?_⟩
    have s3 : Same H2 (upd H2 e0 (.dK [])) := Same.new he0
    refine ⟨e, e0, dk kvs, [], rfl, rfl, s3 _ _ (s12 _ _ m2), upd_same, fun hz => ?_, by show 3 ≤ sizeLine; decide, fun l2 hl2 => ?_⟩
    · intro x hx
      have : dk kvs = [] := List.eq_nil_of_length_eq_zero hz
      rw [this] at hx
      cases hx
    have s4 := s3.trans (Same.new (o := .lst [.int q, .int c, .bl (decide ((dk kvs).length = ([] : List (Key × V)).length))]) hl2)
    refine neD_list (SqL.of (s4 _ _ hl1')) (SqL.of upd_same) (ds := [.int q, .int c, .bool (decide (ws.length = 0))]) (.cons (.int _) (.cons (.int _) (.cons (.bl _) .nil))) ?_ rfl ⟨_, rfl, iteF ?_⟩
    · rw [dk_len, ← hlen]; exact .cons (.int _) (.cons (.int _) (.cons (.bl _) .nil))
    have s14 := s12.trans s4
    generalize upd (upd H2 e0 (.dK [])) l2 _ = H4 at s4 s14
    -- for turn in range(2)
    refine ⟨2, rfl, by decide, by decide, for_it walk_range (fun i σ H5 => ∃ v3 v4 v5, σ = [some (.ref p), some (.ref t), some (.int q), v3, v4, v5, none, none, none, none] ∧ Same H H5) ⟨none, none, none, rfl, s14⟩ (fun _ _ _ _ _ => True.intro) ?_ ?_⟩
    · rintro i y σ H5 H5' hi ⟨v3, v4, v5, rfl, s5⟩ ⟨rfl, rfl⟩
      refine ⟨_, rfl, p, dx, _, rfl, s5 _ _ h1, fl_no (by decide +kernel) (by decide +kernel) (by decide +kernel), p, q, N, ws, c, rfl, hS.same s5, fun W hW => ?_⟩
      have hWH : H W = none := s5.free hW
      have s6 : Same H5' (upd H5' W (.dK (dk ws))) := Same.new hW
      have hW6 : upd H5' W (.dK (dk ws)) W = some (.dK (dk ws)) := upd_same
      generalize upd H5' W (.dK (dk ws)) = H6 at s6 hW6
      refine ⟨_, rfl, _, _, _, _, true, rfl, .ty _, .base (.dK hW6), kit_ty (by decide +kernel), true, rfl, iteF ?_⟩
      refine ⟨_, rfl, W, dk ws, rfl, hW6, fun H7 l3 ts s7 _ _ _ hl3 hts => ?_⟩
      have s7 : Same H6 H7 := s7
      have s57 := (s5.trans s6).trans s7
      refine ⟨_, rfl, t, _, 0, .ref e, rfl, rfl, SqT.of (s57 _ _ m1), rfl, .inr (.inr (.inl ⟨rfl, .inl ⟨_, s57 _ _ m2⟩⟩)), e, dk kvs, rfl, rfl, s57 _ _ m2, fun v hv => ?_⟩
      have s8 : Same H7 (upd H7 v (DX.itemsO v e)) := Same.new hv
      have hv8 : upd H7 v (DX.itemsO v e) v = some (DX.itemsO v e) := upd_same
      generalize upd H7 v (DX.itemsO v e) = H8 at s8 hv8
      refine ⟨v, e, kvs, rfl, hv8, s8 _ _ (s57 _ _ m2), fun H9 l4 zs s9 zp zs' _ hl4 hzs => ?_⟩
      have s9 : Same H8 H9 := s9
      have hz : zs.map (·.2) = ws := (canon_sorted (m3.perm zp) zs').uniq hcan fun n => (wt_perm m3.nd zp n).trans (hwk n).symm
      have s79 := s8.trans s9
      refine neD_list (SqL.of (s79 _ _ hl3)) (SqL.of hl4) (ds := ws.map encP) (dpa_pairs (Paired.mapP (paired_kV hts) fun t p hp => s79 _ _ hp)) ?_ (shp_pairs hnm) ⟨_, rfl, iteF ?_⟩
      · have := dpa_pairs (K := K) (paired_of_zs hzs)
        rw [hz, List.map_map] at this
        exact this
      have s59 := s57.trans s79
      -- names = one.names()
      refine ⟨_, rfl, p, dx, _, rfl, s59 _ _ h1, fl_no (by decide +kernel) (by decide +kernel) (by decide +kernel), p, q, N, ws, c, rfl, hS.same s59, fun L hL => ?_⟩
      have hLH : H L = none := s59.free hL
      have s10 : Same H9 (upd H9 L (.lst (ws.map fun x => .str x.1))) := Same.new hL
      have hL10 : upd H9 L (.lst (ws.map fun x => .str x.1)) L = some (.lst (ws.map fun x => .str x.1)) := upd_same
      generalize upd H9 L (.lst (ws.map fun x => .str x.1)) = H10 at s10 hL10
      refine ⟨_, rfl, _, _, _, _, true, rfl, .ty _, .base (.lst hL10), kit_ty (by decide +kernel), true, rfl, iteF ?_⟩
      have s510 := s59.trans s10
      refine ⟨_, rfl, _, rfl, t, _, 0, .ref e, rfl, rfl, SqT.of (s510 _ _ m1), rfl, e, dk kvs, kvs.map (·.1), rfl, .inl (s510 _ _ m2), dk_keys _, by rw [List.length_map]; omega, fun ys l5 yp ysr hl5 => ?_⟩
      have hy : ys = ws.map (·.1) := sorted_names hcan m3 hwk yp (sorted_le ysr)
      have s11 : Same H10 (upd H10 l5 (.lst (ys.map V.str))) := Same.new hl5
      have hl5' : upd H10 l5 (.lst (ys.map V.str)) l5 = some (.lst (ys.map V.str)) := upd_same
      generalize upd H10 l5 (.lst (ys.map V.str)) = H11 at s11 hl5'
      have hstr : (ws.map fun x => V.str x.1) = (ws.map (·.1)).map V.str := by rw [List.map_map]; rfl
      refine neD_list (SqL.of (s11 _ _ hL10)) (SqL.of hl5') (ds := (ws.map (·.1)).map .str) (by rw [hstr]; exact dpa_strs _) (by rw [hy]; exact dpa_strs _) (shp_strs fun n hn => by obtain ⟨x, hx, rfl⟩ := List.mem_map.mp hn; exact hnm x hx) ⟨_, rfl, iteF ?_⟩
      have s511 := s510.trans s11
      have hW11 := s11 _ _ (s10 _ _ (s79 _ _ (s7 _ _ hW6)))
      have hL11 := s11 _ _ hL10
      have nLW : L ≠ W := ne_of hL11 hW11 (by intro z; cases z)
      refine ⟨_, rfl, .inr (.inr (.inl ⟨rfl, .inl ⟨_, hW11⟩⟩)), W, _, rfl, rfl, hW11, ?_⟩
      have hL12 : upd H11 W (.dK []) L = some (.lst (ws.map fun x => .str x.1)) := by rw [upd_ne nLW]; exact hL11
      refine ⟨_, rfl, .inl ⟨rfl, _, SqL.of hL12⟩, L, _, _, rfl, rfl, hL12, by rw [List.length_map]; exact sz_lt (by omega), ?_⟩
      exact ⟨_, _, _, rfl, Same.mut (Same.mut s511 hWH) hLH⟩
    · rintro σ H5 ⟨v3, v4, v5, rfl, s5⟩
      -- [weight(n) for n in sorted(model[0])] != [w for n, w in sorted(model[0].items())]
      refine ⟨_, rfl, t, _, 0, .ref e, rfl, rfl, SqT.of (s5 _ _ m1), rfl, e, dk kvs, kvs.map (·.1), rfl, .inl (s5 _ _ m2), dk_keys _, by rw [List.length_map]; omega, fun ys l5 yp ysr hl5 => ?_⟩
      have hy : ys = ws.map (·.1) := sorted_names hcan m3 hwk yp (sorted_le ysr)
      have s6 : Same H5 (upd H5 l5 (.lst (ys.map V.str))) := Same.new hl5
      have hl6 : upd H5 l5 (.lst (ys.map V.str)) l5 = some (.lst (ys.map V.str)) := upd_same
      generalize upd H5 l5 (.lst (ys.map V.str)) = H6 at s6 hl6
      have s56 := s5.trans s6
      have eys : ys.map V.str = ws.map fun x => V.str x.1 := by rw [hy, List.map_map]; rfl
      rw [eys] at hl6
      refine ⟨l5, rfl, ⟨_, SqL.of hl6⟩, fun D1 hD1 => lc_map (walk_list (xs := ws.map fun x => V.str x.1)) (ws.map fun x => V.int x.2) (by rw [List.length_map, List.length_map]) (fun H7 s7 => SqL.of (s7 _ _ hl6)) hD1 (by rw [List.length_map]; omega) (fun i x H7 H7' hi s7 y P1 kp => ?_) fun H7 s7 hD7 => ?_⟩
      · obtain ⟨rfl, hx⟩ := y
        rw [List.length_map] at hi
        have hwi : ws[i]? = some ws[i] := List.getElem?_eq_getElem hi
        rw [List.getElem?_map, hwi] at hx
        cases hx
        have hwm : ws[i] ∈ ws := List.getElem_mem hi
        have s57 := s56.trans s7
        refine ⟨rfl, ?_⟩
        refine ⟨_, rfl, p, dx, _, rfl, s57 _ _ h1, fl_no (by decide +kernel) (by decide +kernel) (by decide +kernel), _, rfl, p, q, N, ws, c, _, rfl, hS.same s57, .inl ⟨ws[i].1, rfl, ?_⟩⟩
        refine kp _ _ ?_ (Same.refl _)
        rw [List.getElem?_map, hwi, mem_wt hcan.d.nd hwm]; rfl
      have s57 := s56.trans s7
      refine ⟨_, rfl, t, _, 0, .ref e, rfl, rfl, SqT.of (s57 _ _ m1), rfl, .inr (.inr (.inl ⟨rfl, .inl ⟨_, s57 _ _ m2⟩⟩)), e, dk kvs, rfl, rfl, s57 _ _ m2, fun v hv => ?_⟩
      have s8 : Same H7 (upd H7 v (DX.itemsO v e)) := Same.new hv
      have hv8 : upd H7 v (DX.itemsO v e) v = some (DX.itemsO v e) := upd_same
      generalize upd H7 v (DX.itemsO v e) = H8 at s8 hv8
      refine ⟨v, e, kvs, rfl, hv8, s8 _ _ (s57 _ _ m2), fun H9 l4 zs s9 zp zs' _ hl4 hzs => ?_⟩
      have s9 : Same H8 H9 := s9
      have hz : zs.map (·.2) = ws := (canon_sorted (m3.perm zp) zs').uniq hcan fun n => (wt_perm m3.nd zp n).trans (hwk n).symm
      have hzl : zs.length = ws.length := by rw [← hz, List.length_map]
      refine ⟨l4, rfl, ⟨_, SqL.of hl4⟩, fun D2 hD2 => lc_map (walk_list (xs := zs.map fun z => V.ref z.1)) (zs.map fun z => V.int z.2.2) (by rw [List.length_map, List.length_map]) (fun H10 s10 => SqL.of (s10 _ _ hl4)) hD2 (by rw [List.length_map]; omega) (fun i x H10 H10' hi s10 y P1 kp => ?_) fun H10 s10 hD10 => ?_⟩
      · obtain ⟨rfl, hx⟩ := y
        rw [List.length_map] at hi
        have hzi : zs[i]? = some zs[i] := List.getElem?_eq_getElem hi
        rw [List.getElem?_map, hzi] at hx
        cases hx
        have hzm : zs[i] ∈ zs := List.getElem_mem hi
        refine ⟨zs[i].1, _, rfl, SqT.of (s10 _ _ (hzs _ hzm)), rfl, _, _, rfl, _, _, rfl, rfl, rfl, ?_⟩
        refine ⟨_, rfl, ?_⟩
        refine kp _ _ ?_ (Same.refl _)
        rw [List.getElem?_map, hzi]; rfl
      have s710 := (s8.trans s9).trans s10
      have ez : (zs.map fun z => V.int z.2.2) = (ws.map (·.2)).map V.int := by rw [← hz, List.map_map, List.map_map]; rfl
      have ew : (ws.map fun x => V.int x.2) = (ws.map (·.2)).map V.int := by rw [List.map_map]; rfl
      refine neD_list (SqL.of (s710 _ _ hD7)) (SqL.of hD10) (ds := (ws.map (·.2)).map .int) (by rw [ew]; exact dpa_ints _) (by rw [ez]; exact dpa_ints _) (shp_ints _) ⟨_, rfl, iteF ?_⟩
      have s510 := s57.trans s710
      -- odd values
      refine ⟨by show 1 ≤ sizeLine; decide, fun a1 ha1 => ?_⟩
      have s11 : Same H10 (upd H10 a1 (.lst [.str "a"])) := Same.new ha1
      have h11 : upd H10 a1 (.lst [.str "a"]) a1 = some (.lst [.str "a"]) := upd_same
      generalize upd H10 a1 (.lst [.str "a"]) = H11 at s11 h11
      refine ⟨by show 1 ≤ sizeLine; decide, fun a2 ha2 => ?_⟩
      have s12 : Same H11 (upd H11 a2 (.tup [.str "a"])) := Same.new ha2
      have h12 : upd H11 a2 (.tup [.str "a"]) a2 = some (.tup [.str "a"]) := upd_same
      generalize upd H11 a2 (.tup [.str "a"]) = H12 at s12 h12
      intro a3 ha3
      refine ⟨upd_same, [(Sum.inr "a", V.int 1)], rfl, by show 1 ≤ 15; decide, ?_⟩
      rw [upd_upd]
      have s13 : Same H12 (upd H12 a3 (.dK (mergeK [] [(Sum.inr "a", V.int 1)]))) := Same.new ha3
      have h13 : upd H12 a3 (.dK (mergeK [] [(Sum.inr "a", V.int 1)])) a3 = some (.dK (mergeK [] [(Sum.inr "a", V.int 1)])) := upd_same
      generalize upd H12 a3 (.dK (mergeK [] [(Sum.inr "a", V.int 1)])) = H13 at s13 h13
      refine ⟨by show 9 ≤ sizeLine; decide, fun l6 hl6' => ?_⟩
      have s14 : Same H13 (upd H13 l6 (.lst [.str "A", .str "", .str "a-", .non, .int 1, .bl true, .ref a1, .ref a2, .ref a3])) := Same.new hl6'
      have h14 : upd H13 l6 (.lst [.str "A", .str "", .str "a-", .non, .int 1, .bl true, .ref a1, .ref a2, .ref a3]) l6 = some (.lst [.str "A", .str "", .str "a-", .non, .int 1, .bl true, .ref a1, .ref a2, .ref a3]) := upd_same
      generalize upd H13 l6 (.lst [.str "A", .str "", .str "a-", .non, .int 1, .bl true, .ref a1, .ref a2, .ref a3]) = H14 at s14 h14
      have s514 := (((s510.trans s11).trans s12).trans s13).trans s14
      have o1 : wt ws ("A" : Str) = 0 := not_nm hcan.d hN odd1
      have o2 : wt ws ("" : Str) = 0 := not_nm hcan.d hN odd2
      have o3 : wt ws ("a-" : Str) = 0 := not_nm hcan.d hN odd3
      have t1 := s14 _ _ (s13 _ _ (s12 _ _ h11))
      have t2 := s14 _ _ (s13 _ _ h12)
      have t3 := s14 _ _ h13
      have key : ∀ (i : Nat) (x : V) (H15 : Hp), Same H14 H15 → ([.str "A", .str "", .str "a-", .non, .int 1, .bl true, .ref a1, .ref a2, .ref a3] : List V)[i]? = some x → (∃ n, x = .str n ∧ wt ws n = 0) ∨ (∃ ty, TyX K H15 x (.type ty) ∧ kitB ty "str" = some false) := by
        intro i x H15 s15 hx
        have hi : i < 9 := (List.getElem?_eq_some_iff.mp hx).1
        have : i = 0 ∨ i = 1 ∨ i = 2 ∨ i = 3 ∨ i = 4 ∨ i = 5 ∨ i = 6 ∨ i = 7 ∨ i = 8 := by omega
        rcases this with rfl | rfl | rfl | rfl | rfl | rfl | rfl | rfl | rfl <;> cases hx
        · exact .inl ⟨_, rfl, o1⟩
        · exact .inl ⟨_, rfl, o2⟩
        · exact .inl ⟨_, rfl, o3⟩
        · exact .inr ⟨"NoneType", .base .non, by decide +kernel⟩
        · exact .inr ⟨"int", .base (.int 1), by decide +kernel⟩
        · exact .inr ⟨"bool", .base (.bl true), by decide +kernel⟩
        · exact .inr ⟨"list", .base (.lst (s15 _ _ t1)), by decide +kernel⟩
        · exact .inr ⟨"tuple", .base (.tup (s15 _ _ t2)), by decide +kernel⟩
        · exact .inr ⟨"dict", .base (.dK (s15 _ _ t3)), by decide +kernel⟩
      refine ⟨_, rfl, l6, rfl, ⟨_, SqL.of h14⟩, fun D3 hD3 => lc_map (walk_list (xs := [.str "A", .str "", .str "a-", .non, .int 1, .bl true, .ref a1, .ref a2, .ref a3])) (List.replicate 9 (.int 0)) rfl (fun H15 s15 => SqL.of (s15 _ _ h14)) hD3 (by show 9 ≤ 100000; decide) (fun i x H15 H15' hi s15 y P1 kp => ?_) fun H15 s15 hD15 => ?_⟩
      · obtain ⟨rfl, hx⟩ := y
        have s515 := s514.trans s15
        have hi9 : i < 9 := hi
        have hrep : (List.replicate 9 (V.int 0))[i]? = some (.int 0) := by rw [List.getElem?_replicate, if_pos hi9]
        refine ⟨rfl, ?_⟩
        refine ⟨_, rfl, p, dx, _, rfl, s515 _ _ h1, fl_no (by decide +kernel) (by decide +kernel) (by decide +kernel), _, rfl, p, q, N, ws, c, x, rfl, hS.same s515, ?_⟩
        rcases key i x _ s15 hx with ⟨n, e1, e2⟩ | ⟨ty, e1, e2⟩
        · refine .inl ⟨n, e1, ?_⟩
          rw [e2]
          exact kp _ _ hrep (Same.refl _)
        · exact .inr ⟨ty, e1, e2, kp _ _ hrep (Same.refl _)⟩
      have s515 := s514.trans s15
      refine ⟨by show 1 ≤ sizeLine; decide, fun l8 hl8 => ?_⟩
      have s16 : Same H15 (upd H15 l8 (.lst [.int 0])) := Same.new hl8
      refine ⟨_, rfl, l6, _, rfl, .inl (SqL.of (s16 _ _ (s15 _ _ h14))), l8, 9, [.int 0], rfl, rfl, upd_same, by decide, by decide, by show 9 ≤ sizeLine; decide, fun l9 hl9 => ?_⟩
      have s17 := s16.trans (Same.new (o := .lst (List.replicate (9 : Int).toNat [V.int 0]).flatten) hl9)
      refine eqD_list (SqL.of (s17 _ _ hD15)) (SqL.of upd_same) (ds := List.replicate 9 (.int 0)) ?_ ?_ (by decide +kernel) ⟨true, rfl, iteT ?_⟩
      · exact dpa_ints (List.replicate 9 0)
      · exact dpa_ints (List.replicate 9 0)
      have s517 := s515.trans s17
      generalize upd (upd H15 l8 (.lst [.int 0])) l9 _ = H17 at s17 s517
      refine ⟨_, rfl, p, dx, _, rfl, s517 _ _ h1, fl_no (by decide +kernel) (by decide +kernel) (by decide +kernel), p, q, N, ws, c, _, rfl, hS.same s517, .inl ⟨"zz", rfl, ?_⟩⟩
      refine ⟨_, rfl, t, _, 0, .ref e, rfl, rfl, SqT.of (s517 _ _ m1), rfl, e, rfl, .inl ⟨_, .inl (s517 _ _ m2)⟩, _, DGet.k (k := Sum.inr "zz") (s517 _ _ m2), ?_⟩
      rw [getD_dk]
      refine ⟨rfl, ?_⟩
      show Q (.bl (decide (V.int (wt ws "zz") = V.int (wt kvs "zz")))) H17
      rw [hwk, decide_eq_true rfl]
      exact kk _ s517
end
end Q
set_option Elab.async false
set_option maxRecDepth 100000
set_option maxHeartbeats 1000000
namespace Q
open PySem L2 QR QM
/-! ### dict(pairs), keys perhaps repeated -/
def mergeS (acc more : Ws) : Ws := more.foldl (fun a p => putS a p.1 p.2) acc
theorem mergeK_dk : ∀ (more acc : Ws), mergeK (dk acc) (dk more) = dk (mergeS acc more)
  | [], acc => rfl
  | p :: r, acc => by
    show mergeK (putK (dk acc) (Sum.inr p.1) (V.int p.2)) (dk r) = _
    rw [putK_dk]
    exact mergeK_dk r _
theorem mergeS_keys : ∀ {more acc : Ws} {n : Str}, n ∈ acc.map (·.1) ∨ n ∈ more.map (·.1) → n ∈ (mergeS acc more).map (·.1)
  | [], acc, n, h => h.elim id fun z => by cases z
  | p :: r, acc, n, h => by
    show n ∈ (mergeS (putS acc p.1 p.2) r).map (·.1)
    refine mergeS_keys ?_
    have keys : ∀ x, x ∈ acc.map (·.1) ∨ x = p.1 → x ∈ (putS acc p.1 p.2).map (·.1) := fun x hx => by
      by_cases hm : p.1 ∈ acc.map (·.1)
      · rw [putS_keys_old hm]
        rcases hx with z | z
        · exact z
        · rw [z]; exact hm
      · rw [putS_keys_new hm]
        rcases hx with z | z
        · exact List.mem_append_left _ z
        · rw [z]; exact List.mem_append_right _ List.mem_cons_self
    rcases h with z | z
    · exact .inl (keys n (.inl z))
    · rcases List.mem_cons.mp z with y | y
      · exact .inl (keys n (.inr y))
      · exact .inr y
theorem mergeS_dct {lo q : Int} {N : List Str} : ∀ {more acc : Ws}, Dct lo q N acc → (∀ p ∈ more, p.1 ∈ N ∧ lo ≤ p.2 ∧ p.2 < q) → Dct lo q N (mergeS acc more)
  | [], acc, h, _ => h
  | p :: r, acc, h, hm => by
    have := hm p List.mem_cons_self
    exact mergeS_dct (more := r) (h.put this.1 this.2.1 this.2.2) fun x hx => hm x (List.mem_cons_of_mem _ hx)
/-! ### dicts of addresses -/
def putA (ss : Ss) (n : Str) (a : Addr) : Ss := if (ss.any fun p => decide (p.1 = n)) = true then ss.map (fun p => if p.1 = n then (p.1, a) else p) else ss ++ [(n, a)]
theorem any_sk (n : Str) (ss : Ss) : ((sk ss).any fun kv => decide (kv.1 = (Sum.inr n : Key))) = (ss.any fun p => decide (p.1 = n)) := by
  unfold sk
  rw [List.any_map]
  congr 1
  funext p
  show decide ((Sum.inr p.1 : Key) = Sum.inr n) = decide (p.1 = n)
  by_cases e : p.1 = n
  · rw [decide_eq_true e, decide_eq_true (by rw [e])]
  · rw [decide_eq_false e, decide_eq_false (fun z => e (Sum.inr.inj z))]
theorem putK_sk (ss : Ss) (n : Str) (a : Addr) : putK (sk ss) (Sum.inr n : Key) (V.ref a) = sk (putA ss n a) := by
  unfold putK putA
  rw [any_sk]
  by_cases h : (ss.any fun p => decide (p.1 = n)) = true
  · rw [if_pos h, if_pos h]
    unfold sk
    rw [List.map_map, List.map_map]
    refine List.map_congr_left fun p _ => ?_
    show (if (Sum.inr p.1 : Key) = Sum.inr n then ((Sum.inr p.1 : Key), V.ref a) else (Sum.inr p.1, V.ref p.2)) = _
    by_cases e : p.1 = n
    · rw [if_pos (by rw [e])]; simp [e]
    · rw [if_neg (fun z => e (Sum.inr.inj z))]; simp [e]
  · rw [if_neg h, if_neg h]
    unfold sk
    rw [List.map_append]; rfl
theorem anyA_iff {ss : Ss} {n : Str} : (ss.any fun p => decide (p.1 = n)) = true ↔ n ∈ ss.map (·.1) := by
  rw [List.any_eq_true]
  constructor
  · rintro ⟨p, hp, e⟩; exact List.mem_map.mpr ⟨p, hp, of_decide_eq_true e⟩
  · intro h
    obtain ⟨p, hp, e⟩ := List.mem_map.mp h
    exact ⟨p, hp, decide_eq_true e⟩
theorem putA_keys (ss ms : Ss) (n : Str) (a b : Addr) (h : ss.map (·.1) = ms.map (·.1)) : (putA ss n a).map (·.1) = (putA ms n b).map (·.1) := by
  have hk : ∀ (l : Ss) (x : Addr), (l.map (fun p => if p.1 = n then (p.1, x) else p)).map (·.1) = l.map (·.1) := fun l x => by
    rw [List.map_map]
    refine List.map_congr_left fun p _ => ?_
    show (if p.1 = n then (p.1, x) else p).1 = p.1
    by_cases e : p.1 = n <;> simp [e]
  unfold putA
  by_cases hm : n ∈ ss.map (·.1)
  · rw [if_pos (anyA_iff.mpr hm), if_pos (anyA_iff.mpr (by rw [← h]; exact hm)), hk, hk, h]
  · rw [if_neg (fun z => hm (anyA_iff.mp z)), if_neg (fun z => hm (by rw [h]; exact anyA_iff.mp z)), List.map_append, List.map_append, h]; rfl
theorem putA_mem {ss : Ss} {n : Str} {a : Addr} {p : Str × Addr} (h : p ∈ putA ss n a) : p = (n, a) ∨ (p ∈ ss ∧ p.1 ≠ n) := by
  unfold putA at h
  by_cases hm : n ∈ ss.map (·.1)
  · rw [if_pos (anyA_iff.mpr hm)] at h
    obtain ⟨x, hx, e⟩ := List.mem_map.mp h
    by_cases q : x.1 = n
    · rw [if_pos q] at e; left; rw [← e, q]
    · rw [if_neg q] at e; right; rw [← e]; exact ⟨hx, q⟩
  · rw [if_neg (fun z => hm (anyA_iff.mp z))] at h
    rcases List.mem_append.mp h with h | h
    · exact .inr ⟨h, fun z => hm (by rw [← z]; exact List.mem_map_of_mem h)⟩
    · exact .inl (List.mem_singleton.mp h)
theorem putA_len (ss : Ss) (n : Str) (a : Addr) : (putA ss n a).length ≤ ss.length + 1 := by
  unfold putA
  split
  · rw [List.length_map]; omega
  · rw [List.length_append]; simp
theorem putA_nd {ss : Ss} {n : Str} {a : Addr} (h : (ss.map (·.1)).Nodup) : ((putA ss n a).map (·.1)).Nodup := by
  unfold putA
  by_cases hm : n ∈ ss.map (·.1)
  · rw [if_pos (anyA_iff.mpr hm), List.map_map]
    have e : (ss.map ((·.1) ∘ fun p => if p.1 = n then (p.1, a) else p)) = ss.map (·.1) := by
      refine List.map_congr_left fun p _ => ?_
      show (if p.1 = n then (p.1, a) else p).1 = p.1
      by_cases e : p.1 = n <;> simp [e]
    rw [e]; exact h
  · rw [if_neg (fun z => hm (anyA_iff.mp z)), List.map_append]; exact nd_snoc h hm
theorem sk_keys (ss : Ss) : (sk ss).map (·.1) = (ss.map (·.1)).map Sum.inr := by unfold sk; rw [List.map_map, List.map_map]; rfl
/-! ### each name by itself -/
theorem tot_delta (m : Str) : ∀ {ws : Ws}, (ws.map (·.1)).Nodup → tot (fun n => wt [(n, 1)] m) ws = wt ws m
  | [], _ => rfl
  | p :: r, h => by
    have h' := List.nodup_cons.mp h
    have ih := tot_delta m h'.2
    have e : tot (fun n => wt [(n, 1)] m) (p :: r) = p.2 * wt [(p.1, 1)] m + tot (fun n => wt [(n, 1)] m) r := by unfold tot; rw [List.map_cons, List.sum_cons]
    rw [e, ih, wt_cons, wt_nil, wt_cons]
    by_cases z : p.1 = m
    · have h0 : wt r m = 0 := wt_not (by rw [← z]; exact h'.1)
      rw [if_pos z, if_pos z, h0]; omega
    · rw [if_neg z, if_neg z]; omega
theorem tot_zero {ws : Ws} : tot (fun _ => 0) ws = 0 := by
  unfold tot
  induction ws with
  | nil => rfl
  | cons p r ih => rw [List.map_cons, List.sum_cons, ih]; show p.2 * 0 + 0 = 0; simp
/-! ### the heap without r -/
def delR (H : Hp) (r : Addr) : Hp := fun b => if b = r then none else H b
theorem delR_ne {H : Hp} {r b : Addr} (h : b ≠ r) : delR H r b = H b := if_neg h
theorem delR_same {H H' : Hp} {r : Addr} (s : SameX r H H') : Same (delR H r) H' := fun b o e => by
  by_cases z : b = r
  · rw [z] at e; unfold delR at e; rw [if_pos rfl] at e; cases e
  · rw [delR_ne z] at e; exact s b o z e
theorem delR_none {H : Hp} {r b : Addr} (h : H b = none) : delR H r b = none := by
  unfold delR
  split
  · rfl
  · exact h
theorem SumAt.delR {S : Addr} {H : Hp} {p r : Addr} {q : Int} {N : List Str} {ws : Ws} {c : Int} (h : SumAt S H p q N ws c) (hr : RngAt H r) : SumAt S (delR H r) p q N ws c := by
  obtain ⟨dx, d, h1, h2, h3⟩ := h
  exact ⟨dx, d, by rw [delR_ne (hr.ne h1 (by intro xs z; cases z))]; exact h1, by rw [delR_ne (hr.ne h2 (by intro xs z; cases z))]; exact h2, h3⟩
theorem MdlAt.delR {H : Hp} {p r : Addr} {q : Int} {N : List Str} {ws : Ws} {c : Int} (h : MdlAt H p q N ws c) (hr : RngAt H r) : MdlAt (delR H r) p q N ws c := by
  obtain ⟨d, h1, h2, h3⟩ := h
  exact ⟨d, by rw [delR_ne (hr.ne h1 (by intro xs z; cases z))]; exact h1, by rw [delR_ne (hr.ne h2 (by intro xs z; cases z))]; exact h2, h3⟩
/-! ### written names -/
theorem nm_further : IsNm ("further" : Str) := nm_of (c := 102) (cs := [117, 114, 116, 104, 101, 114]) (by decide +kernel) (by decide +kernel) (by decide +kernel) (by decide)
theorem nm_a1a : IsNm ("a1a" : Str) := nm_of (c := 97) (cs := [49, 97]) (by decide +kernel) (by decide +kernel) (by decide +kernel) (by decide)
theorem nm_q9 : IsNm ("q9" : Str) := nm_of (c := 113) (cs := [57]) (by decide +kernel) (by decide +kernel) (by decide +kernel) (by decide)
end Q
set_option Elab.async false
set_option maxRecDepth 100000
set_option maxHeartbeats 4000000
namespace Q
open PySem L2 QR QM
abbrev nVR : List Str := ["_law_rng_here", "_law_names", "_law_pairs", "_law_q", "_law_name", "_law_world", "_law_kept", "_law_sums", "_law_models", "_law_one", "_law_model"]
/-- a sum and its model agree -/
def Agree (S : Addr) (H : Hp) (o m : Addr) (q : Int) (N : List Str) : Prop := ∃ (ws ks : Ws) (c : Int), SumAt S H o q N ws c ∧ MdlAt H m q N ks c ∧ ∀ n, wt ws n = wt ks n
theorem Agree.same {S : Addr} {H H' : Hp} {o m : Addr} {q : Int} {N : List Str} (h : Agree S H o m q N) (s : Same H H') : Agree S H' o m q N := by
  obtain ⟨ws, ks, c, h1, h2, h3⟩ := h
  exact ⟨ws, ks, c, h1.same s, h2.same s, h3⟩
theorem Agree.delR {S : Addr} {H : Hp} {o m r : Addr} {q : Int} {N : List Str} (h : Agree S H o m q N) (hr : RngAt H r) : Agree S (delR H r) o m q N := by
  obtain ⟨ws, ks, c, h1, h2, h3⟩ := h
  exact ⟨ws, ks, c, h1.delR hr, h2.delR hr, h3⟩
/-- all but r, s and m is as it was -/
def SameZ (r s m : Addr) (H H' : Hp) : Prop := ∀ b o, b ≠ r → b ≠ s → b ≠ m → H b = some o → H' b = some o
theorem SameZ.trans {r s m : Addr} {H H1 H2 : Hp} (a : SameZ r s m H H1) (b : SameZ r s m H1 H2) : SameZ r s m H H2 := fun c o h1 h2 h3 h => b c o h1 h2 h3 (a c o h1 h2 h3 h)
theorem SameZ.of {r s m : Addr} {H H' : Hp} (x : SameX r H H') : SameZ r s m H H' := fun b o h _ _ e => x b o h e
theorem SameZ.putS {r s m : Addr} {H : Hp} {o : HO} : SameZ r s m H (upd H s o) := fun b u _ h _ e => by rw [upd_ne h]; exact e
theorem SameZ.putM {r s m : Addr} {H : Hp} {o : HO} : SameZ r s m H (upd H m o) := fun b u _ _ h e => by rw [upd_ne h]; exact e
/-- where the law stands between two turns of its second loop -/
structure VR (S r s m : Addr) (H7 H8 : Hp) (q : Int) (ns : List Str) (n : Nat) (ss ms : Ss) (G F : Str → Ws) (g : Str → Int) : Prop where
  z : SameZ r s m H7 H8
  R : RngAt H8 r
  hs : H8 s = some (.dK (sk ss))
  hm : H8 m = some (.dK (sk ms))
  ks : ss.map (·.1) = ms.map (·.1)
  nd : (ss.map (·.1)).Nodup
  nm : ∀ x ∈ ss, IsNm x.1
  len : ss.length ≤ n
  si : ∀ x ∈ ss, SumIn S H7 H8 x.2 q ns (G x.1) (g x.1)
  mi : ∀ x ∈ ms, MdlIn H7 H8 x.2 q ns (F x.1) (g x.1)
  ag : ∀ a b, wt (G a) b = wt (F a) b
theorem SumIn.z {S r s m : Addr} {H7 H8 H9 : Hp} {p : Addr} {q : Int} {N : List Str} {ws : Ws} {c : Int} {ks kt : List (Key × V)} {o1 o2 : HO} (h : SumIn S H7 H8 p q N ws c) (z : SameZ r s m H8 H9) (hR : RngAt H8 r) (hs : H8 s = some (.dK ks)) (hm : H8 m = some (.dK kt)) (h7 : H7 s = some o1) (h7m : H7 m = some o2) : SumIn S H7 H9 p q N ws c := by
  obtain ⟨dx, d, h0, h1, h2, h3⟩ := h
  exact ⟨dx, d, h0, z p _ (hR.ne h1 (by intro xs y; cases y)) (ne_of h1 hs (by intro y; cases y)) (ne_of h1 hm (by intro y; cases y)) h1, z d _ (hR.ne h2 (by intro xs y; cases y)) (ne_of_none h7 h0).symm (ne_of_none h7m h0).symm h2, h3⟩
theorem MdlIn.z {r s m : Addr} {H7 H8 H9 : Hp} {p : Addr} {q : Int} {N : List Str} {ws : Ws} {c : Int} {ks kt : List (Key × V)} {o1 o2 : HO} (h : MdlIn H7 H8 p q N ws c) (z : SameZ r s m H8 H9) (hR : RngAt H8 r) (hs : H8 s = some (.dK ks)) (hm : H8 m = some (.dK kt)) (h7 : H7 s = some o1) (h7m : H7 m = some o2) : MdlIn H7 H9 p q N ws c := by
  obtain ⟨d, h0, h1, h2, h3⟩ := h
  exact ⟨d, h0, z p _ (hR.ne h1 (by intro xs y; cases y)) (ne_of h1 hs (by intro y; cases y)) (ne_of h1 hm (by intro y; cases y)) h1, z d _ (hR.ne h2 (by intro xs y; cases y)) (ne_of_none h7 h0).symm (ne_of_none h7m h0).symm h2, h3⟩
/-- an address free behind was free before -/
theorem SameZ.free {r s m : Addr} {H H' : Hp} (x : SameZ r s m H H') {o1 o2 o3 : HO} (hr : H' r = some o1) (hs : H' s = some o2) (hm : H' m = some o3) {l : Addr} (h : H' l = none) : H l = none := by
  cases q : H l with
  | none => rfl
  | some u =>
    rw [x l u (fun z => by rw [z, hr] at h; cases h) (fun z => by rw [z, hs] at h; cases h) (fun z => by rw [z, hm] at h; cases h) q] at h
    cases h
theorem paired_rev {α β : Type} {F : α → β → Prop} : ∀ {xs : List α} {ys : List β}, Paired F xs ys → Paired F xs.reverse ys.reverse
  | _, _, .nil => .nil
  | _, _, .cons r t => by
    rw [List.reverse_cons, List.reverse_cons]
    exact paired_snoc (paired_rev t) r
theorem rW_nil (G : Str → Ws) (n : Str) : rW [] G n = [(n, 1)] := by unfold rW; rw [if_neg (by simp)]
theorem rC_nil (g : Str → Int) (n : Str) : rC [] g n = 0 := by unfold rC; rw [if_neg (by simp)]
section
variable {P : Program} {w : World} {K : PySem.W.Frag} {mg : Str → Option Value} {base : Heap}
/-! ### _law_values_right -/
def spVR (S : Addr) : Sp := fun xs H Q _ => ∃ (r l pl t1 t2 o1 m1 o2 m2 : Addr) (q : Int) (ns : List Str), xs = [.ref r, .ref l, .ref pl, .int q] ∧ RngAt H r ∧ l ≠ r ∧ H l = some (.lst (ns.map V.str)) ∧ Nms ns ∧ ns.length ≤ 50 ∧ IsMod q ∧
  pl ≠ r ∧ H pl = some (.lst [.ref t1, .ref t2]) ∧ H t1 = some (.tup [.ref o1, .ref m1]) ∧ H t2 = some (.tup [.ref o2, .ref m2]) ∧ Agree S H o1 m1 q ns ∧ Agree S H o2 m2 q ns ∧
  ∀ H', SameX r H H' → RngAt H' r → Q (.bl true) H'
theorem scVR : FnScope nVR ["_law_rng_here", "_law_names", "_law_pairs", "_law_q"] (defScope sLValuesRight) := ⟨rfl, rfl, rfl, by decide +kernel, rfl, by decide +kernel, by decide +kernel⟩
theorem ok_valuesRight (T : T4 K mg) : FnOk P w K mg base CX0 8 T.valuesRight.f T.valuesRight.fd ["_law_rng_here", "_law_names", "_law_pairs", "_law_q"] (spVR T.S) := by
  have GD : FnOk P w K mg base CX0 1 T.draw.f T.draw.fd ["_law_rng_here", "_law_many"] spDraw := ok_draw T
  have GDr : FnOk P w K mg base CX0 2 T.drawn.f T.drawn.fd ["_law_rng_here", "_law_names", "_law_q"] (spDrawn K) := ok_drawn T
  have GS : FnOk P w K mg base CX0 4 T.fI T.fdI psInit (spInit T.S) := ok_init T.toT2
  have GAt : FnOk P w K mg base CX0 4 T.at_.f T.at_.fd ["self", "world"] (spAt T.S) := ok_at T.toT3
  have GV : FnOk P w K mg base CX0 1 T.value.f T.value.fd ["_law_model", "_law_world", "_law_q"] spValue := ok_value T
  have GT : FnOk P w K mg base CX0 3 T.tells.f T.tells.fd ["_law_one", "_law_model", "_law_q"] (spTells T.S) := ok_tells T
  have GPut : FnOk P w K mg base CX0 7 T.put.f T.put.fd ["self", "sums"] (spPut T.S) := ok_put T.toT3
  have GRe : FnOk P w K mg base CX0 2 T.replaced.f T.replaced.fd ["_law_model", "_law_sums", "_law_q"] spReplaced := ok_replaced T
  refine T.valuesRight.F.ok scVR (fun vs H Q E h => ?_) (fun cdv A outer s H vs Q E hr h => ?_)
  · obtain ⟨r, l, pl, t1, t2, o1, m1, o2, m2, q, ns, rfl, _⟩ := h
    rfl
  · obtain ⟨r, l, pl, t1, t2, o1, m1, o2, m2, q, ns, rfl, hR, nlr, hl, hN, hnl, hq, npr, hpl, ht1, ht2, hA1, hA2, kk⟩ := h
    have hu := hu_of hr
    have hr1 : Room 1 _ := hr.mono (by decide)
    have hr2 : Room 2 _ := hr.mono (by decide)
    have hr3 : Room 3 _ := hr.mono (by decide)
    have hr4 : Room 4 _ := hr.mono (by decide)
    have hr5 : Room 5 _ := hr.mono (by decide)
    refine ⟨_, (pss_cons (ps_set (i := 5) scVR.nd rfl (Or.inl rfl) (pe_callTy (call_dictP rfl) (by rfl) T.B.dict (by decide +kernel) (pa_cons (pe_lc (own := [("_law_name", 4)]) (g := (gName 4)) (tt := tYes) rfl scVR.nd (pi_list (pe_op op_cat (pv 1) (pe_lst (pa_cons pe_str (pa_cons pe_str pa_nil))))) (blkOk_by (own := [("_law_name", 4)]) (N := nVR) (sc := defScope sLValuesRight) (by decide +kernel)) (fun _ _ _ _ _ => (pg_name (i := 4) scVR.nd rfl (Or.inl rfl))) (fun _ _ _ _ _ => pts_nil) (fun _ _ _ _ _ => (pe_tup (pa_cons (pv 4) (pa_cons (pe_call GD hr1 (by rfl) T.gDraw T.draw.kp T.draw.b .nil pass0 (pa_cons (pv 0) (pa_cons (pv 3) pa_nil))) pa_nil))))) pa_nil))) (pss_cons (ps_set (i := 6) scVR.nd rfl (Or.inl rfl) (pe_callTy call_dictD (by rfl) T.B.dict (by decide +kernel) (pa_cons (pv 5) pa_nil))) (pss_cons (ps_par (i := 7) (j := 8) (by rfl) scVR.nd rfl rfl (by decide) rfl rfl (pa_cons pe_dnewK (pa_cons pe_dnewK pa_nil)) (by rfl)) (pss_cons (ps_for PassesOwn.never rfl (pi_list (pe_op op_cat (pv 1) (pe_lst (pa_cons pe_str pa_nil)))) (pg_name (i := 4) scVR.nd rfl (Or.inl rfl)) (pss_one (ps_if (pt_cmpR op_gt (pe_call GD hr1 (by rfl) T.gDraw T.draw.kp T.draw.b .nil pass0 (pa_cons (pv 0) (pa_cons pe_int pa_nil))) pe_int (nomark _)) (pss_cons (ps_dput hu (pv 8) (pv 4) (pe_ix ix_tup (pe_call GDr hr2 (by rfl) T.gDrawn T.drawn.kp T.drawn.b .nil pass0 (pa_cons (pv 0) (pa_cons (pv 1) (pa_cons (pv 3) pa_nil)))) pe_int (fun _ _ => rfl)) rfl) (pss_one (ps_dput hu (pv 7) (pv 4) (pe_make T.MI GS hr5 rfl T.gS T.bI .nil pass0 (pa_cons (pv 3) (pa_cons (pe_ix ix_tup (pe_dget hu (pv 8) (pv 4) (fun _ _ => rfl)) pe_int (fun _ _ => rfl)) (pa_cons (pe_ix ix_tup (pe_dget hu (pv 8) (pv 4) (fun _ _ => rfl)) pe_int (fun _ _ => rfl)) pa_nil)))) rfl))) pss_nil))) (pss_cons (ps_for PassesOwn.never rfl (pi_list (pv 2)) (pg_tup rfl (pgs_cons (pg_name (i := 9) scVR.nd rfl (Or.inl rfl)) (pgs_cons (pg_name (i := 10) scVR.nd rfl (Or.inl rfl)) pgs_nil))) (pss_cons (ps_if (PW.pt (pw_or (pt_cmpR op_ne (pe_meth (pv 9) T.cl T.at_.m GAt hr4 T.at_.b .nil pass0 (pa_cons (pv 5) pa_nil)) (pe_call GV hr1 (by rfl) T.gValue T.value.kp T.value.b .nil pass0 (pa_cons (pv 10) (pa_cons (pv 5) (pa_cons (pv 3) pa_nil)))) (nomark _)) (pw_or1 (pt_cmpR op_ne (pe_meth (pv 9) T.cl T.at_.m GAt hr4 T.at_.b .nil pass0 (pa_cons (pe_callTy (call_dictP rfl) (by rfl) T.B.dict (by decide +kernel) (pa_cons (pe_revL (LiI.pe_listItems rfl (pv 5) (by rfl) T.B.list (by decide +kernel))) pa_nil)) pa_nil)) (pe_meth (pv 9) T.cl T.at_.m GAt hr4 T.at_.b .nil pass0 (pa_cons (pv 5) pa_nil)) (nomark _))))) (pss_one (ps_ret pe_bl)) pss_nil) (pss_cons (ps_if (PW.pt (pw_or (pt_not (pt_val (pe_call GT hr3 (by rfl) T.gTells T.tells.kp T.tells.b .nil pass0 (pa_cons (pe_meth (pv 9) T.cl T.put.m GPut hr T.put.b .nil pass0 (pa_cons (pv 7) pa_nil)) (pa_cons (pe_call GRe hr2 (by rfl) T.gReplaced T.replaced.kp T.replaced.b .nil pass0 (pa_cons (pv 10) (pa_cons (pv 8) (pa_cons (pv 3) pa_nil)))) (pa_cons (pv 3) pa_nil)))))) (pw_or1 (pt_not (pt_val (pe_call GT hr3 (by rfl) T.gTells T.tells.kp T.tells.b .nil pass0 (pa_cons (pv 9) (pa_cons (pv 10) (pa_cons (pv 3) pa_nil))))))))) (pss_one (ps_ret pe_bl)) pss_nil) (pss_one (ps_if (pt_not (pt_val (pe_call GT hr3 (by rfl) T.gTells T.tells.kp T.tells.b .nil pass0 (pa_cons (pe_meth (pv 9) T.cl T.put.m GPut hr T.put.b .nil pass0 (pa_cons pe_dnewK pa_nil)) (pa_cons (pv 10) (pa_cons (pv 3) pa_nil)))))) (pss_one (ps_ret pe_bl)) pss_nil))))) (pss_one (ps_ret (pe_and (pe_cmpR (op_eqDL hr.units0) (pv 5) (pv 6) (nomark _)) (pe_one (pe_cmpR (op_eqD hr.units) (pe_callB (call_sortedD rfl) (by rfl) T.B.sorted (by decide +kernel) (pa_cons (pv 7) pa_nil)) (pe_callB (call_sortedD rfl) (by rfl) T.B.sorted (by decide +kernel) (pa_cons (pv 8) pa_nil)) (nomark _))))))))))), ?_⟩
    have hq2 := hq.pos
    have hq0 : 0 < q := by omega
    obtain ⟨or0, hor0⟩ := hR.some
    -- names + ["further", "a1a"]
    refine ⟨_, rfl, by show 2 ≤ sizeLine; decide, fun b1 hb1 => ?_⟩
    have s1 : Same H (upd H b1 (.lst [.str "further", .str "a1a"])) := Same.new hb1
    have h1 : upd H b1 (.lst [.str "further", .str "a1a"]) b1 = some (.lst [.str "further", .str "a1a"]) := upd_same
    generalize upd H b1 (.lst [.str "further", .str "a1a"]) = H1 at s1 h1
    refine ⟨l, b1, _, _, rfl, rfl, s1 _ _ hl, h1, by rw [List.length_map]; show ns.length + 2 ≤ sizeLine; exact sz_le (by omega), fun b2 hb2 => ?_⟩
    generalize hN2 : ns ++ [("further" : Str), "a1a"] = N2
    have e2 : ns.map V.str ++ [V.str "further", V.str "a1a"] = N2.map V.str := by rw [← hN2, List.map_append]; rfl
    rw [e2]
    have hN2l : N2.length ≤ 60 := by rw [← hN2, List.length_append]; show ns.length + 2 ≤ 60; omega
    have hN2n : Nms N2 := ⟨hN2l, fun n hn => by
      rw [← hN2] at hn
      rcases List.mem_append.mp hn with z | z
      · exact hN.nm n z
      · rcases List.mem_cons.mp z with y | y
        · rw [y]; exact nm_further
        · rw [List.mem_singleton.mp y]; exact nm_a1a⟩
    have s2 : Same H1 (upd H1 b2 (.lst (N2.map V.str))) := Same.new hb2
    have h2 : upd H1 b2 (.lst (N2.map V.str)) b2 = some (.lst (N2.map V.str)) := upd_same
    generalize upd H1 b2 (.lst (N2.map V.str)) = H2 at s2 h2
    have s12 := s1.trans s2
    have R2 := hR.same s12
    have hor2 := s12 _ _ hor0
    have nb2 : b2 ≠ r := fun z => by
      have q1 := s1 _ _ hor0
      rw [← z, hb2] at q1
      cases q1
    -- the world's pairs
    refine ⟨b2, rfl, ⟨_, SqL.of h2⟩, fun D hD => ?_⟩
    have nDr : D ≠ r := fun z => by rw [z, hor2] at hD; cases hD
    have hDH : H D = none := s12.free hD
    refine lc_it (walk_list (xs := N2.map V.str)) (fun j H3 => SameX r H2 H3 ∧ RngAt H3 r ∧ ∃ (ts : List Addr) (ps : Ws), H3 D = some (.lst (ts.map V.ref)) ∧ Paired (fun t (p : Str × Int) => H3 t = some (.tup [.str p.1, .int p.2])) ts ps ∧ ps.map (·.1) = N2.take j ∧ ∀ p ∈ ps, 0 ≤ p.2 ∧ p.2 < q)
      ⟨SameX.new hD, R2.same (Same.new hD), [], [], upd_same, .nil, rfl, fun p h => by cases h⟩ (fun j H3 _ z => SqL.of (z.1 _ _ nb2 h2)) ?_ ?_
    · rintro j y H3 H3' hj ⟨s3, R3, ts, ps, hD3, hts, hps, hpv⟩ ⟨rfl, hy⟩
      rw [List.length_map] at hj
      have hyj : N2[j]? = some N2[j] := List.getElem?_eq_getElem hj
      rw [List.getElem?_map, hyj] at hy
      cases hy
      refine ⟨rfl, ?_⟩
      refine ⟨_, rfl, _, rfl, _, rfl, r, q, rfl, R3, by omega, by omega, fun v H4 s4 R4 hv0 hv1 => ⟨by show 2 ≤ sizeLine; decide, fun t ht => ?_⟩⟩
      have hD4 := s4 D _ nDr hD3
      have s5 : Same H4 (upd H4 t (.tup [.str N2[j], .int v])) := Same.new ht
      have htl : ts.length ≤ j := by
        have z1 := Paired.length hts
        have z2 : ps.length = (N2.take j).length := by rw [← hps, List.length_map]
        rw [List.length_take] at z2
        omega
      have ntD : t ≠ D := fun z => by rw [z, hD4] at ht; cases ht
      refine ⟨_, s5 _ _ hD4, by rw [List.length_map]; exact sz_lt (by omega), ?_, ?_, ts ++ [t], ps ++ [(N2[j], v)], by rw [upd_same, List.map_append]; rfl, ?_, ?_, ?_⟩
      · exact SameX.mut ((s3.trans s4).trans (SameX.of s5)) hD
      · exact (R4.same s5).upd nDr
      · refine paired_snoc (Paired.mapP hts fun t' p hp => ?_) (by rw [upd_ne ntD]; exact upd_same)
        have q0 : t' ≠ r := R3.ne hp (by intro xs z; cases z)
        have q1 := s5 _ _ (s4 t' _ q0 hp)
        rw [upd_ne (ne_of q1 (s5 _ _ hD4) (by intro z; cases z))]
        exact q1
      · rw [List.map_append, hps, take_snoc hyj]; rfl
      · intro p hp
        rcases List.mem_append.mp hp with z | z
        · exact hpv p z
        · rw [List.mem_singleton.mp z]; exact ⟨hv0, hv1⟩
    rintro H3 ⟨s3, R3, ts, ps, hD3, hts, hps, hpv⟩
    rw [List.length_map, List.take_length] at hps
    refine ⟨D, ts, dk ps, rfl, SqL.of hD3, paired_dk (Paired.mapP hts fun t p hp => SqT.of hp), fun wd hwd => ?_⟩
    have eW : mergeK [] (dk ps) = dk (mergeS [] ps) := mergeK_dk ps []
    rw [eW]
    have hWk : ∀ n ∈ N2, n ∈ (mergeS [] ps).map (·.1) := fun n hn => mergeS_keys (.inr (by rw [hps]; exact hn))
    have hWd : Dct 0 q N2 (mergeS [] ps) := mergeS_dct Dct.nil fun p hp => ⟨by rw [← hps]; exact List.mem_map_of_mem (f := (·.1)) hp, hpv p hp⟩
    generalize mergeS [] ps = W at hWk hWd
    have hWl := hWd.len
    have hnsW : ∀ n ∈ ns, n ∈ W.map (·.1) := fun n hn => hWk n (by rw [← hN2]; exact List.mem_append_left _ hn)
    have s4 : Same H3 (upd H3 wd (.dK (dk W))) := Same.new hwd
    have h4 : upd H3 wd (.dK (dk W)) wd = some (.dK (dk W)) := upd_same
    have R4 := R3.same s4
    generalize upd H3 wd (.dK (dk W)) = H4 at s4 h4 R4
    -- kept = dict(world)
    refine ⟨_, rfl, wd, dk W, rfl, .inl h4, fun kd hkd => ?_⟩
    have s5 : Same H4 (upd H4 kd (.dK (dk W))) := Same.new hkd
    have h5 : upd H4 kd (.dK (dk W)) kd = some (.dK (dk W)) := upd_same
    have R5 := R4.same s5
    generalize upd H4 kd (.dK (dk W)) = H5 at s5 h5 R5
    -- sums, models = {}, {}
    intro sd hsd
    have s6 : Same H5 (upd H5 sd (.dK (sk []))) := Same.new hsd
    have h6 : upd H5 sd (.dK (sk [])) sd = some (.dK (sk [])) := upd_same
    have R6 := R5.same s6
    change tCons _ _ _ (upd H5 sd (.dK (sk []))) _
    generalize upd H5 sd (.dK (sk [])) = H6 at s6 h6 R6
    intro md hmd
    have s7 : Same H6 (upd H6 md (.dK (sk []))) := Same.new hmd
    have h7 : upd H6 md (.dK (sk [])) md = some (.dK (sk [])) := upd_same
    have R7 := R6.same s7
    have h7s := s7 _ _ h6
    have nsm : sd ≠ md := ne_of_none h6 hmd
    refine ⟨_, _, rfl, ?_⟩
    change tSeq _ _ _ _ (upd H6 md (.dK (sk [])))
    generalize upd H6 md (.dK (sk [])) = H7 at s7 h7 R7 h7s
    have sX7 : SameX r H H7 := ((SameX.of s12).trans s3).trans (SameX.of (((s4.trans s5).trans s6).trans s7))
    have hw7 := s7 _ _ (s6 _ _ (s5 _ _ h4))
    have hk7 := s7 _ _ (s6 _ _ h5)
    -- fresh over the entry
    have fr : ∀ b, H7 b = none → H b = none := fun b hb => by
      obtain ⟨o, ho⟩ := R7.some
      exact sX7.free ho hb
    have hsdH : H sd = none := by
      obtain ⟨o, ho⟩ := R5.some
      exact (((SameX.of s12).trans s3).trans (SameX.of (s4.trans s5))).free ho hsd
    have hmdH : H md = none := by
      obtain ⟨o, ho⟩ := R6.some
      exact (((SameX.of s12).trans s3).trans (SameX.of ((s4.trans s5).trans s6))).free ho hmd
    have hwdH : H wd = none := by
      obtain ⟨o, ho⟩ := R3.some
      exact ((SameX.of s12).trans s3).free ho hwd
    have hkdH : H kd = none := by
      obtain ⟨o, ho⟩ := R4.some
      exact (((SameX.of s12).trans s3).trans (SameX.of s4)).free ho hkd
    -- names + ["q9"]
    have nlH : ∀ {b : Addr}, H b = none → l ≠ b := fun hb => ne_of_none hl hb
    refine ⟨_, rfl, by show 1 ≤ sizeLine; decide, fun b3 hb3 => ?_⟩
    have s8 : Same H7 (upd H7 b3 (.lst [.str "q9"])) := Same.new hb3
    have h8 : upd H7 b3 (.lst [.str "q9"]) b3 = some (.lst [.str "q9"]) := upd_same
    generalize upd H7 b3 (.lst [.str "q9"]) = H8 at s8 h8
    have hl7 : H7 l = some (.lst (ns.map V.str)) := sX7 l _ nlr hl
    refine ⟨l, b3, _, _, rfl, rfl, s8 _ _ hl7, h8, by rw [List.length_map]; show ns.length + 1 ≤ sizeLine; exact sz_le (by omega), fun b4 hb4 => ?_⟩
    generalize hN3 : ns ++ [("q9" : Str)] = N3
    have e3 : ns.map V.str ++ [V.str "q9"] = N3.map V.str := by rw [← hN3, List.map_append]; rfl
    rw [e3]
    have hN3l : N3.length ≤ 60 := by rw [← hN3, List.length_append]; show ns.length + 1 ≤ 60; omega
    have hN3n : ∀ n ∈ N3, IsNm n := fun n hn => by
      rw [← hN3] at hn
      rcases List.mem_append.mp hn with z | z
      · exact hN.nm n z
      · rw [List.mem_singleton.mp z]; exact nm_q9
    have s9 : Same H8 (upd H8 b4 (.lst (N3.map V.str))) := Same.new hb4
    have h9 : upd H8 b4 (.lst (N3.map V.str)) b4 = some (.lst (N3.map V.str)) := upd_same
    generalize upd H8 b4 (.lst (N3.map V.str)) = H9 at s9 h9
    have s79 := s8.trans s9
    obtain ⟨or7, hor7⟩ := R7.some
    have hb48 := s8 _ _ hor7
    have nb4r : b4 ≠ r := fun z => by rw [z, hb48] at hb4; cases hb4
    have nb4s : b4 ≠ sd := fun z => by rw [z, s8 _ _ h7s] at hb4; cases hb4
    have nb4m : b4 ≠ md := fun z => by rw [z, s8 _ _ h7] at hb4; cases hb4
    have nsr : sd ≠ r := fun z => by rw [z, hor0] at hsdH; cases hsdH
    have nmr : md ≠ r := fun z => by rw [z, hor0] at hmdH; cases hmdH
    refine ⟨b4, rfl, ⟨_, SqL.of h9⟩, for_it (walk_list (xs := N3.map V.str)) (fun i σ Hc => ∃ (v4 : Option V) (ss ms : Ss) (G F : Str → Ws) (g : Str → Int), σ = [some (.ref r), some (.ref l), some (.ref pl), some (.int q), v4, some (.ref wd), some (.ref kd), some (.ref sd), some (.ref md), none, none] ∧ VR T.S r sd md H7 Hc q ns i ss ms G F g ∧ Hc b4 = some (.lst (N3.map V.str)))
      ⟨none, [], [], fun _ => [], fun _ => [], fun _ => 0, rfl, ⟨SameZ.of (SameX.of s79), R7.same s79, s79 _ _ h7s, s79 _ _ h7, rfl, List.nodup_nil, (fun x h => by cases h), Nat.le_refl _, (fun x h => by cases h), (fun x h => by cases h), fun _ _ => rfl⟩, h9⟩
      (fun i σ Hc _ ⟨_, _, _, _, _, _, _, _, z⟩ => SqL.of z) ?_ ?_⟩
    · rintro i y σ Hc Hc' hi ⟨v4, ss, ms, G, F, g, rfl, V8, hb8⟩ ⟨rfl, hy⟩
      rw [List.length_map] at hi
      have hyi : N3[i]? = some N3[i] := List.getElem?_eq_getElem hi
      rw [List.getElem?_map, hyi] at hy
      cases hy
      have hnm := hN3n _ (List.getElem_mem hi)
      generalize N3[i] = nn at hyi hnm
      refine ⟨_, rfl, r, 3, rfl, V8.R, by omega, by omega, fun d0 Ha sa Ra hd0 hd1 => ?_⟩
      have za : SameZ r sd md Hc' Ha := SameZ.of sa
      have hsa := sa sd _ nsr V8.hs
      have hma := sa md _ nmr V8.hm
      have Va : VR T.S r sd md H7 Ha q ns i ss ms G F g := ⟨V8.z.trans za, Ra, hsa, hma, V8.ks, V8.nd, V8.nm, V8.len, fun x hx => (V8.si x hx).z za V8.R V8.hs V8.hm h7s h7, fun x hx => (V8.mi x hx).z za V8.R V8.hs V8.hm h7s h7, V8.ag⟩
      have hba := sa b4 _ nb4r hb8
      refine ⟨_, _, rfl, rfl, _, rfl, ?_⟩
      refine ite2 (fun _ => ?_) (fun _ => ⟨_, ss, ms, G, F, g, rfl, ⟨Va.z, Va.R, Va.hs, Va.hm, Va.ks, Va.nd, Va.nm, Nat.le_succ_of_le Va.len, Va.si, Va.mi, Va.ag⟩, hba⟩)
      have hla : Ha l = some (.lst (ns.map V.str)) := Va.z l _ nlr (nlH hsdH) (nlH hmdH) hl7
      refine ⟨_, rfl, _, rfl, _, rfl, r, l, q, ns, ns, rfl, Ra, nlr, hla, fun n hn => hn, hN, by omega, hq, fun t m hd Rr kvs c Hb hhd sb Rb htb hhb hRr hMb hdb hwb => ?_⟩
      obtain ⟨dd, hmb, hddA, ndh⟩ := hdb
      refine ⟨t, _, 0, .ref m, rfl, rfl, SqT.of htb, rfl, ?_⟩
      have hsb := sb sd _ nsr Va.hs
      have hmdb := sb md _ nmr Va.hm
      have hml : ms.length = ss.length := by have z := congrArg List.length Va.ks; rw [List.length_map, List.length_map] at z; exact z.symm
      have hsl := Va.len
      refine ⟨_, rfl, _, rfl, md, _, rfl, DPut.k (k := Sum.inr nn) hmdb (by rw [sk_len]; exact sz_lt (by omega)), ?_⟩
      rw [putK_sk]
      have zb : SameZ r sd md Ha (upd Hb md (.dK (sk (putA ms nn m)))) := (SameZ.of sb).trans SameZ.putM
      have hmc : upd Hb md (.dK (sk (putA ms nn m))) md = some (.dK (sk (putA ms nn m))) := upd_same
      have hsc : upd Hb md (.dK (sk (putA ms nn m))) sd = some (.dK (sk ss)) := by rw [upd_ne nsm]; exact hsb
      have Rc : RngAt (upd Hb md (.dK (sk (putA ms nn m)))) r := Rb.upd nmr
      obtain ⟨d', hm1', hd1', hdk, hcb0, hcb1⟩ := id hMb
      rw [hmb] at hm1'
      cases hm1'
      have hmm : upd Hb md (.dK (sk (putA ms nn m))) m = some (.tup [.ref dd, .int c]) := by rw [upd_ne (ne_of hmb hmdb (by intro y; cases y))]; exact hmb
      have nddm : dd ≠ md := (ne_of_none Va.hm hddA).symm
      have ndds : dd ≠ sd := (ne_of_none Va.hs hddA).symm
      have hdd : upd Hb md (.dK (sk (putA ms nn m))) dd = some (.dK (dk kvs)) := by rw [upd_ne nddm]; exact hd1'
      have hbc : upd Hb md (.dK (sk (putA ms nn m))) b4 = some (.lst (N3.map V.str)) := by rw [upd_ne nb4m]; exact sb b4 _ nb4r hba
      have hdd7 : H7 dd = none := by
        obtain ⟨o, ho⟩ := Ra.some
        exact Va.z.free ho Va.hs Va.hm hddA
      generalize upd Hb md (.dK (sk (putA ms nn m))) = Hd at zb hmc hsc Rc hmm hdd hbc
      have hgm : DGet Hd md (.str nn) (some (.ref m)) := by
        have q1 := dget_sk (.inl hmc) nn
        have q2 : lkA (putA ms nn m) nn = some m := by
          have z1 := valV_sk nn (putA ms nn m)
          rw [← putK_sk, valV_put, if_pos rfl] at z1
          cases e : lkA (putA ms nn m) nn with
          | none => rw [e] at z1; cases z1
          | some y => rw [e] at z1; cases z1; rfl
        rw [q2] at q1
        exact q1
      refine ⟨_, rfl, _, rfl, _, rfl, md, _, rfl, hgm, m, _, 0, .ref dd, rfl, rfl, SqT.of hmm, rfl, ?_⟩
      refine ⟨_, rfl, _, rfl, md, _, rfl, hgm, m, _, 1, .int c, rfl, rfl, SqT.of hmm, rfl, ?_⟩
      intro x ex nx nex nxe
      refine ⟨x, ex, dd, q, c, ns, kvs, rfl, upd_same, by rw [upd_ne (ne_of_none hdd nx), upd_ne (ne_of_none hdd nex)]; exact hdd, hdk.weak, hN, hq, hcb0, hcb1, fun us ed He ned ce we sxe sde kpe => ⟨rfl, ?_⟩⟩
      have se : Same Hd He := Same.made nx nex kpe
      have ned1 : Hd ed = none := by
        have z1 : ed ≠ x := fun z => by rw [z, upd_same] at ned; cases ned
        rw [upd_ne z1] at ned
        have z2 : ed ≠ ex := fun z => by rw [z, upd_same] at ned; cases ned
        rw [upd_ne z2] at ned
        exact ned
      have z7d : SameZ r sd md H7 Hd := Va.z.trans zb
      have ned7 : H7 ed = none := by
        obtain ⟨o, ho⟩ := Rc.some
        exact z7d.free ho hsc hmc ned1
      have Re := Rc.same se
      have hse := se _ _ hsc
      have hme := se _ _ hmc
      refine ⟨_, rfl, _, rfl, sd, _, rfl, DPut.k (k := Sum.inr nn) hse (by rw [sk_len]; exact sz_lt (by omega)), ?_⟩
      rw [putK_sk]
      have zf : SameZ r sd md He (upd He sd (.dK (sk (putA ss nn x)))) := SameZ.putS
      have zaf : SameZ r sd md Ha (upd He sd (.dK (sk (putA ss nn x)))) := (zb.trans (SameZ.of (SameX.of se))).trans zf
      have zcf : SameZ r sd md Hd (upd He sd (.dK (sk (putA ss nn x)))) := (SameZ.of (SameX.of se)).trans zf
      refine ⟨_, putA ss nn x, putA ms nn m, fun a => if a = nn then us else G a, fun a => if a = nn then kvs else F a, fun a => if a = nn then c else g a, rfl, ⟨Va.z.trans zaf, Re.upd nsr, upd_same, by rw [upd_ne nsm.symm]; exact hme, putA_keys _ _ _ _ _ Va.ks, putA_nd Va.nd, fun y hy => ?_, ?_, fun y hy => ?_, fun y hy => ?_, fun a b => ?_⟩, by rw [upd_ne nb4s]; exact se _ _ hbc⟩
      · rcases putA_mem hy with z | z
        · rw [z]; exact hnm
        · exact Va.nm y z.1
      · have := putA_len ss nn x; omega
      · rcases putA_mem hy with z | z
        · rw [z]
          show SumIn T.S H7 _ x q ns (if nn = nn then us else G nn) (if nn = nn then c else g nn)
          rw [if_pos rfl, if_pos rfl]
          have nxs : x ≠ sd := fun y => by rw [y, hsc] at nx; cases nx
          have neds : ed ≠ sd := fun y => by rw [y, hsc] at ned1; cases ned1
          exact ⟨_, ed, ned7, by rw [upd_ne nxs]; exact sxe, by rw [upd_ne neds]; exact sde, ce, hcb0, hcb1⟩
        · show SumIn T.S H7 _ y.2 q ns (if y.1 = nn then us else G y.1) (if y.1 = nn then c else g y.1)
          rw [if_neg z.2, if_neg z.2]
          exact (Va.si y z.1).z zaf Va.R Va.hs Va.hm h7s h7
      · rcases putA_mem hy with z | z
        · rw [z]
          show MdlIn H7 _ m q ns (if nn = nn then kvs else F nn) (if nn = nn then c else g nn)
          rw [if_pos rfl, if_pos rfl]
          have q0 : MdlIn H7 Hd m q ns kvs c := ⟨dd, hdd7, hmm, hdd, hdk, hcb0, hcb1⟩
          exact q0.z zcf Rc hsc hmc h7s h7
        · show MdlIn H7 _ y.2 q ns (if y.1 = nn then kvs else F y.1) (if y.1 = nn then c else g y.1)
          rw [if_neg z.2, if_neg z.2]
          exact (Va.mi y z.1).z zaf Va.R Va.hs Va.hm h7s h7
      · show wt (if a = nn then us else G a) b = wt (if a = nn then kvs else F a) b
        by_cases e : a = nn
        · rw [if_pos e, if_pos e, we]
        · rw [if_neg e, if_neg e]; exact Va.ag a b
    rintro σ Hc ⟨v4, ss, ms, G, F, g, rfl, V8, hb8⟩
    rw [List.length_map] at V8
    have hsl := V8.len
    -- what stood at the entry, without the numbers
    have sDX : Same (delR H r) H7 := delR_same sX7
    have sD0 : Same (delR H r) Hc := fun b o e => by
      have nbr : b ≠ r := fun z => by rw [z] at e; unfold delR at e; rw [if_pos rfl] at e; cases e
      have eb : H b = some o := by rw [delR_ne nbr] at e; exact e
      exact V8.z b o nbr (ne_of_none eb hsdH) (ne_of_none eb hmdH) (sX7 b o nbr eb)
    have fD : ∀ {d : Addr}, H7 d = none → delR H r d = none := fun hd => delR_none (by
      obtain ⟨o, ho⟩ := R7.some
      exact sX7.free ho hd)
    have si0 : ∀ x ∈ ss, IsNm x.1 ∧ SumIn T.S (delR H r) Hc x.2 q ns (G x.1) (g x.1) := fun x hx => by
      obtain ⟨dx, d, h0, hh⟩ := V8.si x hx
      exact ⟨V8.nm x hx, dx, d, fD h0, hh⟩
    have mi0 : ∀ x ∈ ms, MdlIn (delR H r) Hc x.2 q ns (F x.1) (g x.1) := fun x hx => by
      obtain ⟨d, h0, hh⟩ := V8.mi x hx
      exact ⟨d, fD h0, hh⟩
    have hwc : Hc wd = some (.dK (dk W)) := V8.z wd _ (R7.ne hw7 (by intro xs z; cases z)) (fun z => by rw [z] at h4; rw [s5 _ _ h4] at hsd; cases hsd) (fun z => by rw [z] at h4; rw [s6 _ _ (s5 _ _ h4)] at hmd; cases hmd) hw7
    have hkc : Hc kd = some (.dK (dk W)) := V8.z kd _ (R7.ne hk7 (by intro xs z; cases z)) (fun z => by rw [z] at h5; rw [h5] at hsd; cases hsd) (fun z => by rw [z] at h5; rw [s6 _ _ h5] at hmd; cases hmd) hk7
    have npl : ∀ {b : Addr}, H b = none → pl ≠ b := fun hb => ne_of_none hpl hb
    have hplc : Hc pl = some (.lst [.ref t1, .ref t2]) := sD0 _ _ (by rw [delR_ne npr]; exact hpl)
    have ht1c : Hc t1 = some (.tup [.ref o1, .ref m1]) := sD0 _ _ (by rw [delR_ne (hR.ne ht1 (by intro xs z; cases z))]; exact ht1)
    have ht2c : Hc t2 = some (.tup [.ref o2, .ref m2]) := sD0 _ _ (by rw [delR_ne (hR.ne ht2 (by intro xs z; cases z))]; exact ht2)
    have hWwd : IsWd q W := isWd_of hWd (Int.le_refl _) hN2n
    have hmemk : ∀ n, (n ∈ ss.map (·.1)) = (n ∈ ms.map (·.1)) := fun n => by rw [V8.ks]
    refine ⟨_, rfl, pl, rfl, ⟨_, SqL.of hplc⟩, for_it (walk_list (xs := [.ref t1, .ref t2])) (fun i σ Hx => ∃ (v9 v10 : Option V), σ = [some (.ref r), some (.ref l), some (.ref pl), some (.int q), v4, some (.ref wd), some (.ref kd), some (.ref sd), some (.ref md), v9, v10] ∧ Same Hc Hx)
      ⟨none, none, rfl, Same.refl _⟩ (fun i σ Hx _ ⟨_, _, _, z⟩ => SqL.of (z _ _ hplc)) ?_ ?_⟩
    · rintro i y σ Hx Hx' hi ⟨v9, v10, rfl, sx⟩ ⟨rfl, hy⟩
      have pick : ∃ t o m, y = .ref t ∧ Hx' t = some (.tup [.ref o, .ref m]) ∧ Agree T.S (delR H r) o m q ns := by
        have hi2 : i < 2 := hi
        have : i = 0 ∨ i = 1 := by omega
        rcases this with rfl | rfl
        · cases hy; exact ⟨t1, o1, m1, rfl, sx _ _ ht1c, hA1.delR hR⟩
        · cases hy; exact ⟨t2, o2, m2, rfl, sx _ _ ht2c, hA2.delR hR⟩
      obtain ⟨t, o, m, rfl, ht, ws, ks, c, hS0, hM0, hwk⟩ := pick
      have s0x : Same (delR H r) Hx' := sD0.trans sx
      have hSx := hS0.same s0x
      have hMx := hM0.same s0x
      obtain ⟨dx, d, a1, a2, hcan, hc0, hc1⟩ := id hSx
      obtain ⟨e, b1', b2', hkd, _, _⟩ := id hMx
      have hperm : ws.Perm ks := hcan.d.same hkd hwk
      have hsubS : ∀ x ∈ ws, x.1 ∈ W.map (·.1) := fun x hx => hnsW _ (hcan.d.mem x hx).1
      have hsubM : ∀ x ∈ ks, x.1 ∈ W.map (·.1) := fun x hx => hnsW _ (hkd.mem x hx).1
      refine ⟨t, _, rfl, SqT.of ht, rfl, _, _, rfl, _, _, rfl, rfl, ?_⟩
      -- one.at(world) != value(model, world, q)
      refine ⟨_, rfl, o, dx, _, rfl, a1, fl_no (by decide +kernel) (by decide +kernel) (by decide +kernel), _, rfl, o, wd, q, ns, ws, W, c, rfl, hSx, hN, hq, sx _ _ hwc, hWwd, by omega, hsubS, fun Ha sa => ?_⟩
      have sxa := sx.trans sa
      refine ⟨_, rfl, _, rfl, _, rfl, m, wd, q, ns, ks, W, c, rfl, hMx.same sa, hN, hq, sxa _ _ hwc, hsubM, fun Hb sb => ⟨rfl, _, rfl, ?_⟩⟩
      refine iteNS (by rw [tot_perm hperm, Int.add_comm]) ?_
      have sxb := sxa.trans sb
      have sab := sa.trans sb
      -- one.at(reversed world) != one.at(world)
      refine ⟨_, rfl, o, dx, _, rfl, sab _ _ a1, fl_no (by decide +kernel) (by decide +kernel) (by decide +kernel), ?_⟩
      refine ⟨_, rfl, wd, dk W, rfl, sxb _ _ hwc, fun Hd lp ts sd' _ _ _ hlp hts => ?_⟩
      have sbd : Same Hb Hd := sd'
      refine ⟨lp, _, rfl, SqL.of hlp, fun lr hlr => ?_⟩
      have sde : Same Hd (upd Hd lr (.lst (ts.map V.ref).reverse)) := Same.new hlr
      have hlr' : upd Hd lr (.lst (ts.map V.ref).reverse) lr = some (.lst (ts.map V.ref).reverse) := upd_same
      generalize upd Hd lr (.lst (ts.map V.ref).reverse) = He at sde hlr'
      refine ⟨lr, ts.reverse, dk W.reverse, rfl, SqL.of (by rw [hlr', List.map_reverse]), ?_, fun rd hrd => ?_⟩
      · have q1 := paired_rev (Paired.mapP (paired_kV hts) fun t p hp => sde _ _ hp)
        exact paired_dk (Paired.mapP q1 fun t p hp => SqT.of hp)
      have hWr : (W.reverse.map (·.1)).Nodup := by rw [List.map_reverse]; exact (List.reverse_perm _).symm.nodup hWd.nd
      rw [merge_all _ hWr]
      have sef : Same He (upd He rd (.dK (dk W.reverse))) := Same.new hrd
      have hrd' : upd He rd (.dK (dk W.reverse)) rd = some (.dK (dk W.reverse)) := upd_same
      generalize upd He rd (.dK (dk W.reverse)) = Hf at sef hrd'
      have saf := sab.trans ((sbd.trans sde).trans sef)
      refine ⟨o, rd, q, ns, ws, W.reverse, c, rfl, hSx.same saf, hN, hq, hrd', fun p hp => hWwd p (List.mem_reverse.mp hp), by rw [List.length_reverse]; omega, fun x hx => by rw [List.map_reverse]; exact List.mem_reverse.mpr (hsubS x hx), fun Hg sg => ?_⟩
      have sag := saf.trans sg
      refine ⟨_, rfl, o, dx, _, rfl, sag _ _ a1, fl_no (by decide +kernel) (by decide +kernel) (by decide +kernel), _, rfl, o, wd, q, ns, ws, W, c, rfl, hSx.same sag, hN, hq, (sx.trans sag) _ _ hwc, hWwd, by omega, hsubS, fun Hh sh => ⟨rfl, _, rfl, ?_⟩⟩
      refine iteNS (by rw [tot_congr fun p _ => wt_perm hWd.nd (List.reverse_perm W) p.1]) ?_
      have sah := sag.trans sh
      -- tells(one.put(sums), replaced(model, models, q), q)
      have scx := sx.trans sah
      refine ⟨_, rfl, o, dx, _, rfl, sah _ _ a1, fl_no (by decide +kernel) (by decide +kernel) (by decide +kernel), _, rfl, ?_⟩
      refine ⟨o, sd, q, ns, ws, c, delR H r, ss, G, g, rfl, s0x.trans sah, hS0, hN, hq, scx _ _ V8.hs, by omega, fun x hx => ⟨(si0 x hx).1, (si0 x hx).2.same scx⟩, fun xp us Hi si hSi hwi => ?_⟩
      have sxi := scx.trans si
      refine ⟨_, rfl, _, rfl, _, rfl, m, md, q, ns, ks, c, delR H r, ms, F, g, rfl, (s0x.trans sah).trans si, hM0, hN, hq, sxi _ _ V8.hm, fun x hx => (mi0 x hx).same sxi, fun tp us' Hj sj hMj hwj => ?_⟩
      have ec : tot (rC ms g) ks = tot (rC ss g) ws := by
        rw [tot_perm hperm.symm]
        refine tot_congr fun p _ => ?_
        unfold rC
        by_cases z : p.1 ∈ ss.map (·.1)
        · rw [if_pos z, if_pos (by rw [← hmemk]; exact z)]
        · rw [if_neg z, if_neg (by rw [← hmemk]; exact z)]
      rw [ec] at hMj
      refine ⟨_, rfl, xp, tp, q, ns, us, us', _, rfl, hSi.same sj, hMj, hN, hq, fun n => ?_, fun Hk sk' => ⟨true, rfl, iteF ?_⟩⟩
      · rw [hwi, hwj, tot_perm hperm.symm]
        congr 1
        refine tot_congr fun p _ => ?_
        show wt (rW ss G p.1) n = wt (rW ms F p.1) n
        unfold rW
        by_cases z : p.1 ∈ ss.map (·.1)
        · rw [if_pos z, if_pos (by rw [← hmemk]; exact z)]; exact V8.ag _ _
        · rw [if_neg z, if_neg (by rw [← hmemk]; exact z)]
      have sak := ((sah.trans si).trans sj).trans sk'
      -- tells(one, model, q)
      refine ⟨_, rfl, _, rfl, _, rfl, o, m, q, ns, ws, ks, c, rfl, hSx.same sak, hMx.same sak, hN, hq, hwk, fun Hl sl => ⟨true, rfl, iteF ?_⟩⟩
      have sal := sak.trans sl
      -- tells(one.put({}), model, q)
      refine ⟨_, rfl, o, dx, _, rfl, sal _ _ a1, fl_no (by decide +kernel) (by decide +kernel) (by decide +kernel), fun e0 he0 => ?_⟩
      have sm : Same Hl (upd Hl e0 (.dK [])) := Same.new he0
      have he0' : upd Hl e0 (.dK []) e0 = some (.dK (sk [])) := upd_same
      have sam := sal.trans sm
      refine ⟨o, e0, q, ns, ws, c, delR H r, [], fun _ => [], fun _ => 0, rfl, s0x.trans sam, hS0, hN, hq, he0', by show 0 ≤ 1000; omega, (fun x h => by cases h), fun xq us2 Hn sn hSn hwn => ?_⟩
      have e0c : tot (rC [] fun _ => 0) ws = 0 := by
        rw [tot_congr (g' := fun _ => 0) fun p _ => rC_nil (fun _ => 0) p.1]; exact tot_zero
      rw [e0c, Int.add_zero, Int.emod_eq_of_lt hc0 hc1] at hSn
      have san := sam.trans sn
      refine ⟨_, rfl, _, rfl, xq, m, q, ns, us2, ks, c, rfl, hSn, hMx.same san, hN, hq, fun n => ?_, fun Ho so => ⟨true, rfl, iteF ?_⟩⟩
      · have hb := hcan.d.weak.wt0 (Int.le_refl _) hq0 n
        rw [hwn, tot_congr (g' := fun k => wt [(k, 1)] n) (fun p _ => by show wt (rW [] (fun _ => []) p.1) n = _; rw [rW_nil]), tot_delta n hcan.d.nd, Int.emod_eq_of_lt hb.1 hb.2]
        exact hwk n
      exact ⟨_, _, rfl, sx.trans (san.trans so)⟩
    rintro σ Hx ⟨v9, v10, rfl, sx⟩
    -- world == kept and sorted(sums) == sorted(models)
    refine ⟨_, rfl, _, rfl, wd, kd, dk W, dk W, rfl, rfl, sx _ _ hwc, sx _ _ hkc, fun _ p hp => ?_, ?_⟩
    · unfold dk at hp
      obtain ⟨x, hx, rfl⟩ := List.mem_map.mp hp
      refine ⟨?_, rfl⟩
      show valV (dk W) (Sum.inr x.1) = some (V.int x.2)
      rw [valV_dk, mem_lk hWd.nd hx]; rfl
    rw [decide_eq_true rfl]
    refine ⟨true, rfl, iteT ?_⟩
    refine ⟨_, rfl, sd, sk ss, ss.map (·.1), rfl, .inl (sx _ _ V8.hs), sk_keys _, by rw [List.length_map]; omega, fun ys la yp yo hla => ?_⟩
    have sa : Same Hx (upd Hx la (.lst (ys.map V.str))) := Same.new hla
    have hla' : upd Hx la (.lst (ys.map V.str)) la = some (.lst (ys.map V.str)) := upd_same
    generalize upd Hx la (.lst (ys.map V.str)) = Ha at sa hla'
    have hml : ms.length = ss.length := by have z := congrArg List.length V8.ks; rw [List.length_map, List.length_map] at z; exact z.symm
    refine ⟨_, rfl, md, sk ms, ms.map (·.1), rfl, .inl ((sx.trans sa) _ _ V8.hm), sk_keys _, by rw [List.length_map]; omega, fun zs lb zp zo hlb => ?_⟩
    have sb : Same Ha (upd Ha lb (.lst (zs.map V.str))) := Same.new hlb
    have eyz : ys = zs := List.Perm.eq_of_pairwise (le := stLe) (fun a b _ _ h1 h2 => stLe_antisymm h1 h2) (sorted_le yo) (sorted_le zo) (yp.trans (by rw [V8.ks]; exact zp.symm))
    refine eqD_list (SqL.of (sb _ _ hla')) (SqL.of upd_same) (ds := ys.map .str) (dpa_strs _) (by rw [eyz]; exact dpa_strs _) (shp_strs fun n hn => ?_) ?_
    · obtain ⟨x, hx, rfl⟩ := List.mem_map.mp (yp.mem_iff.mp hn); exact V8.nm x hx
    have sf := (sx.trans sa).trans sb
    refine kk _ (fun b o nb hb => ?_) (V8.R.same sf)
    exact sf _ _ (sD0 _ _ (by rw [delR_ne nb]; exact hb))
end
end Q
set_option Elab.async false
set_option maxRecDepth 100000
set_option maxHeartbeats 4000000
namespace Q
open PySem L2 QR QM
abbrev nRight : List Str := ["_law_rng_here", "_law_q", "_law_names", "_law_first", "_law_handed", "_law_second", "_law_other_handed", "_law_one", "_law_other", "_law_by", "_law_turn", "_law_pairs", "_law_number", "_law_told", "_law_model"]
theorem emod_sub1 {a b q : Int} : (a + b * -1 % q) % q = (a + -1 * b) % q := by
  rw [Int.add_emod a (b * -1 % q), Int.emod_emod_of_dvd _ (Int.dvd_refl q), ← Int.add_emod, Int.mul_comm]
theorem emod_sub0 {b q : Int} : (b + b * -1 % q) % q = 0 := by
  rw [emod_sub1]
  have : b + -1 * b = 0 := by omega
  rw [this, Int.zero_emod]
/-- pairs of sums and models that agree -/
def PrsOk (S : Addr) (q : Int) (ns : List Str) (H : Hp) (ts : List V) : Prop := ∀ v ∈ ts, ∃ a o m, v = .ref a ∧ H a = some (.tup [.ref o, .ref m]) ∧ Agree S H o m q ns
theorem PrsOk.same {S : Addr} {q : Int} {ns : List Str} {H H' : Hp} {ts : List V} (h : PrsOk S q ns H ts) (s : Same H H') : PrsOk S q ns H' ts := fun v hv => by
  obtain ⟨a, o, m, h1, h2, h3⟩ := h v hv
  exact ⟨a, o, m, h1, s _ _ h2, h3.same s⟩
theorem PrsOk.nil {S : Addr} {q : Int} {ns : List Str} {H : Hp} : PrsOk S q ns H [] := fun v h => by cases h
theorem PrsOk.cons {S : Addr} {q : Int} {ns : List Str} {H : Hp} {ts : List V} {a o m : Addr} (h1 : H a = some (.tup [.ref o, .ref m])) (h2 : Agree S H o m q ns) (h : PrsOk S q ns H ts) : PrsOk S q ns H (.ref a :: ts) := fun v hv => by
  rcases List.mem_cons.mp hv with z | z
  · exact ⟨a, o, m, z, h1, h2⟩
  · exact h v z
theorem PrsOk.append {S : Addr} {q : Int} {ns : List Str} {H : Hp} {ts us : List V} (h : PrsOk S q ns H ts) (h' : PrsOk S q ns H us) : PrsOk S q ns H (ts ++ us) := fun v hv => by
  rcases List.mem_append.mp hv with z | z
  · exact h v z
  · exact h' v z
theorem Agree.updL {S : Addr} {H : Hp} {o m D : Addr} {q : Int} {N : List Str} {xs : List V} {u : HO} (h : Agree S H o m q N) (hD : H D = some (.lst xs)) : Agree S (upd H D u) o m q N := by
  obtain ⟨ws, ks, c, ⟨dx, d, h1, h2, h3⟩, ⟨e, h4, h5, h6⟩, h7⟩ := h
  exact ⟨ws, ks, c, ⟨dx, d, by rw [upd_ne (ne_of h1 hD (by intro z; cases z))]; exact h1, by rw [upd_ne (ne_of h2 hD (by intro z; cases z))]; exact h2, h3⟩, ⟨e, by rw [upd_ne (ne_of h4 hD (by intro z; cases z))]; exact h4, by rw [upd_ne (ne_of h5 hD (by intro z; cases z))]; exact h5, h6⟩, h7⟩
theorem PrsOk.updL {S : Addr} {q : Int} {ns : List Str} {H : Hp} {ts xs : List V} {D : Addr} {u : HO} (h : PrsOk S q ns H ts) (hD : H D = some (.lst xs)) : PrsOk S q ns (upd H D u) ts := fun v hv => by
  obtain ⟨a, o, m, h1, h2, h3⟩ := h v hv
  exact ⟨a, o, m, h1, by rw [upd_ne (ne_of h2 hD (by intro z; cases z))]; exact h2, h3.updL hD⟩
section
variable {P : Program} {w : World} {K : PySem.W.Frag} {mg : Str → Option Value} {base : Heap}
/-! ### _law_right -/
def spRight : Sp := fun xs H Q _ => ∃ r : Addr, xs = [.ref r] ∧ RngAt H r ∧ ∀ H', SameX r H H' → RngAt H' r → Q (.bl true) H'
theorem scRight : FnScope nRight ["_law_rng_here"] (defScope sLRight) := ⟨rfl, rfl, rfl, by decide +kernel, rfl, by decide +kernel, by decide +kernel⟩
theorem ok_right (T : T4 K mg) : FnOk P w K mg base CX0 9 T.right.f T.right.fd ["_law_rng_here"] spRight := by
  have GD : FnOk P w K mg base CX0 1 T.draw.f T.draw.fd ["_law_rng_here", "_law_many"] spDraw := ok_draw T
  have GSN : FnOk P w K mg base CX0 2 T.someNames.f T.someNames.fd ["_law_rng_here", "_law_many"] spSomeNames := ok_someNames T
  have GDr : FnOk P w K mg base CX0 2 T.drawn.f T.drawn.fd ["_law_rng_here", "_law_names", "_law_q"] (spDrawn K) := ok_drawn T
  have GS : FnOk P w K mg base CX0 4 T.fI T.fdI psInit (spInit T.S) := ok_init T.toT2
  have GA : FnOk P w K mg base CX0 1 T.added.f T.added.fd ["_law_one", "_law_other", "_law_by", "_law_q"] spAdded := ok_added T
  have GT : FnOk P w K mg base CX0 3 T.tells.f T.tells.fd ["_law_one", "_law_model", "_law_q"] (spTells T.S) := ok_tells T
  have GVR : FnOk P w K mg base CX0 8 T.valuesRight.f T.valuesRight.fd ["_law_rng_here", "_law_names", "_law_pairs", "_law_q"] (spVR T.S) := ok_valuesRight T
  have GAdd : FnOk P w K mg base CX0 6 T.add.f T.add.fd ["self", "other"] (spAdd T.S) := ok_add T.toT3
  have GSub : FnOk P w K mg base CX0 7 T.sub.f T.sub.fd ["self", "other"] (spSub T.S) := ok_sub T.toT3
  have GNeg : FnOk P w K mg base CX0 7 T.neg.f T.neg.fd ["self"] (spNeg T.S) := ok_neg T.toT3
  have GMul : FnOk P w K mg base CX0 6 T.mul.f T.mul.fd ["self", "number"] (spMul T.S) := ok_mul T.toT3
  obtain ⟨fo, hi1⟩ := T.imul
  obtain ⟨ro, hi2⟩ := T.irmul
  refine T.right.F.ok scRight (fun vs H Q E h => ?_) (fun cdv A outer s H vs Q E hr h => ?_)
  · obtain ⟨r, rfl, _⟩ := h
    rfl
  · obtain ⟨r, rfl, hR, kk⟩ := h
    have hu := hu_of hr
    have hr1 : Room 1 _ := hr.mono (by decide)
    have hr2 : Room 2 _ := hr.mono (by decide)
    have hr3 : Room 3 _ := hr.mono (by decide)
    have hr5 : Room 5 _ := hr.mono (by decide)
    have hr6 : Room 6 _ := hr.mono (by decide)
    have hr7 : Room 7 _ := hr.mono (by decide)
    refine ⟨_, (pss_cons (ps_set (i := 1) scRight.nd rfl (Or.inr rfl) (pe_ix ix_list (pe_lst (pa_cons pe_int (pa_cons pe_int (pa_cons pe_int (pa_cons pe_int (pa_cons pe_int (pa_cons pe_int pa_nil))))))) (pe_call GD hr1 (by rfl) T.gDraw T.draw.kp T.draw.b .nil pass0 (pa_cons (pv 0) (pa_cons pe_int pa_nil))) (fun _ _ => rfl))) (pss_cons (ps_set (i := 2) scRight.nd rfl (Or.inl rfl) (pe_call GSN hr2 (by rfl) T.gSomeNames T.someNames.kp T.someNames.b .nil pass0 (pa_cons (pv 0) (pa_cons (pe_op op_add pe_int (pe_call GD hr1 (by rfl) T.gDraw T.draw.kp T.draw.b .nil pass0 (pa_cons (pv 0) (pa_cons pe_int pa_nil)))) pa_nil)))) (pss_cons (ps_asg (pe_tup (pa_cons (pe_call GDr hr2 (by rfl) T.gDrawn T.drawn.kp T.drawn.b .nil pass0 (pa_cons (pv 0) (pa_cons (pv 2) (pa_cons (pv 1) pa_nil)))) (pa_cons (pe_call GDr hr2 (by rfl) T.gDrawn T.drawn.kp T.drawn.b .nil pass0 (pa_cons (pv 0) (pa_cons (pv 2) (pa_cons (pv 1) pa_nil)))) pa_nil))) (pg_tup rfl (pgs_cons (pg_tup rfl (pgs_cons (pg_name (i := 3) scRight.nd rfl (Or.inr rfl)) (pgs_cons (pg_name (i := 4) scRight.nd rfl (Or.inl rfl)) pgs_nil))) (pgs_cons (pg_tup rfl (pgs_cons (pg_name (i := 5) scRight.nd rfl (Or.inl rfl)) (pgs_cons (pg_name (i := 6) scRight.nd rfl (Or.inl rfl)) pgs_nil))) pgs_nil)))) (pss_cons (ps_asg (pe_tup (pa_cons (pe_make T.MI GS hr5 rfl T.gS T.bI .nil pass0 (pa_cons (pv 1) (pa_cons (pv 4) (pa_cons (pe_ix ix_tup (pv 3) pe_int (fun _ _ => rfl)) pa_nil)))) (pa_cons (pe_make T.MI GS hr5 rfl T.gS T.bI .nil pass0 (pa_cons (pv 1) (pa_cons (pe_callTy (call_dictP rfl) (by rfl) T.B.dict (by decide +kernel) (pa_cons (pe_revL (LiI.pe_listItems rfl (pv 6) (by rfl) T.B.list (by decide +kernel))) pa_nil)) (pa_cons (pe_ix ix_tup (pv 5) pe_int (fun _ _ => rfl)) pa_nil)))) pa_nil))) (pg_tup rfl (pgs_cons (pg_name (i := 7) scRight.nd rfl (Or.inr rfl)) (pgs_cons (pg_name (i := 8) scRight.nd rfl (Or.inl rfl)) pgs_nil)))) (pss_cons (ps_expr (pe_dclear (pv 4))) (pss_cons (ps_set (i := 9) scRight.nd rfl (Or.inl rfl) (pe_lst (pa_cons (pe_call GD hr1 (by rfl) T.gDraw T.draw.kp T.draw.b .nil pass0 (pa_cons (pv 0) (pa_cons (pv 1) pa_nil))) (pa_cons (pe_op op_sub (pe_un un_neg pe_int) (pe_call GD hr1 (by rfl) T.gDraw T.draw.kp T.draw.b .nil pass0 (pa_cons (pv 0) (pa_cons pe_int pa_nil)))) (pa_cons (pe_op op_add (pe_op op_pow pe_int pe_int) (pe_call GD hr1 (by rfl) T.gDraw T.draw.kp T.draw.b .nil pass0 (pa_cons (pv 0) (pa_cons pe_int pa_nil)))) (pa_cons (pe_op op_sub (pe_un un_neg (pe_op op_pow pe_int pe_int)) (pe_call GD hr1 (by rfl) T.gDraw T.draw.kp T.draw.b .nil pass0 (pa_cons (pv 0) (pa_cons pe_int pa_nil)))) (pa_cons pe_int pa_nil))))))) (pss_cons (ps_for PassesOwn.never rfl (pi_range1 (by rfl) T.B.range (pa_cons pe_int pa_nil)) (pg_name (i := 10) scRight.nd rfl (Or.inl rfl)) (pss_cons (ps_set (i := 11) scRight.nd rfl (Or.inl rfl) (pe_lst (pa_cons (pe_tup (pa_cons (pv 7) (pa_cons (pv 3) pa_nil))) (pa_cons (pe_tup (pa_cons (pv 8) (pa_cons (pv 5) pa_nil))) (pa_cons (pe_tup (pa_cons (pe_op (op_own2 (op := .Add) GAdd hr6 T.sf T.add.m.at_ T.add.m.fn T.add.b pass0) (pv 7) (pv 8)) (pa_cons (pe_call GA hr1 (by rfl) T.gAdded T.added.kp T.added.b .nil pass0 (pa_cons (pv 3) (pa_cons (pv 5) (pa_cons pe_int (pa_cons (pv 1) pa_nil))))) pa_nil))) pa_nil))))) (pss_cons (ps_set (i := 11) scRight.nd rfl (Or.inl rfl) (pe_op op_cat (pv 11) (pe_lst (pa_cons (pe_tup (pa_cons (pe_op (op_own2 (op := .Sub) GSub hr7 T.sf T.sub.m.at_ T.sub.m.fn T.sub.b pass0) (pv 7) (pv 8)) (pa_cons (pe_call GA hr1 (by rfl) T.gAdded T.added.kp T.added.b .nil pass0 (pa_cons (pv 3) (pa_cons (pv 5) (pa_cons (pe_un un_neg pe_int) (pa_cons (pv 1) pa_nil))))) pa_nil))) (pa_cons (pe_tup (pa_cons (pe_un (un_own GNeg hr7 T.neg.m.at_ T.neg.m.fn T.neg.b pass0) (pv 7)) (pa_cons (pe_call GA hr1 (by rfl) T.gAdded T.added.kp T.added.b .nil pass0 (pa_cons (pe_tup (pa_cons pe_dnewK (pa_cons pe_int pa_nil))) (pa_cons (pv 3) (pa_cons (pe_un un_neg pe_int) (pa_cons (pv 1) pa_nil))))) pa_nil))) pa_nil))))) (pss_cons (ps_set (i := 11) scRight.nd rfl (Or.inl rfl) (pe_op op_cat (pv 11) (pe_lc (own := [("_law_number", 12)]) (g := (gName 12)) (tt := tYes) rfl scRight.nd (pi_list (pv 9)) (blkOk_by (own := [("_law_number", 12)]) (N := nRight) (sc := defScope sLRight) (by decide +kernel)) (fun _ _ _ _ _ => (pg_name (i := 12) scRight.nd rfl (Or.inl rfl))) (fun _ _ _ _ _ => pts_nil) (fun _ _ _ _ _ => (pe_tup (pa_cons (pe_op (op_ownI (op := .Mult) GMul hr6 T.sf T.mul.m.at_ T.mul.m.fn T.rmul (.inl rfl) hi1 hi2 T.isub T.mul.b pass0) (pv 7) (pv 12)) (pa_cons (pe_call GA hr1 (by rfl) T.gAdded T.added.kp T.added.b .nil pass0 (pa_cons (pe_tup (pa_cons pe_dnewK (pa_cons pe_int pa_nil))) (pa_cons (pv 3) (pa_cons (pv 12) (pa_cons (pv 1) pa_nil))))) pa_nil))))))) (pss_cons (ps_set (i := 11) scRight.nd rfl (Or.inl rfl) (pe_op op_cat (pv 11) (pe_lst (pa_cons (pe_tup (pa_cons (pe_op (op_own2 (op := .Add) GAdd hr6 T.sf T.add.m.at_ T.add.m.fn T.add.b pass0) (pv 7) (pv 7)) (pa_cons (pe_call GA hr1 (by rfl) T.gAdded T.added.kp T.added.b .nil pass0 (pa_cons (pv 3) (pa_cons (pv 3) (pa_cons pe_int (pa_cons (pv 1) pa_nil))))) pa_nil))) (pa_cons (pe_tup (pa_cons (pe_op (op_own2 (op := .Sub) GSub hr7 T.sf T.sub.m.at_ T.sub.m.fn T.sub.b pass0) (pv 8) (pv 8)) (pa_cons (pe_tup (pa_cons pe_dnewK (pa_cons pe_int pa_nil))) pa_nil))) pa_nil))))) (pss_one (ps_if (pt_not (pt_val (pe_callB (cr_all rfl) (by rfl) T.B.all (by decide +kernel) (pa_cons (pe_lc (own := [("_law_told", 13), ("_law_model", 14)]) (g := (gTup K 2 (gCons (gName 13) (gCons (gName 14) gNil)))) (tt := tYes) rfl scRight.nd (pi_list (pv 11)) (blkOk_by (own := [("_law_told", 13), ("_law_model", 14)]) (N := nRight) (sc := defScope sLRight) (by decide +kernel)) (fun _ _ _ _ _ => (pg_tup rfl (pgs_cons (pg_name (i := 13) scRight.nd rfl (Or.inl rfl)) (pgs_cons (pg_name (i := 14) scRight.nd rfl (Or.inl rfl)) pgs_nil)))) (fun _ _ _ _ _ => pts_nil) (fun _ _ _ _ _ => (pe_call GT hr3 (by rfl) T.gTells T.tells.kp T.tells.b .nil pass0 (pa_cons (pv 13) (pa_cons (pv 14) (pa_cons (pv 1) pa_nil)))))) pa_nil)))) (pss_one (ps_ret pe_bl)) pss_nil))))))) (pss_one (ps_ret (pe_call GVR hr (by rfl) T.gValuesRight T.valuesRight.kp T.valuesRight.b .nil pass0 (pa_cons (pv 0) (pa_cons (pv 2) (pa_cons (pe_lst (pa_cons (pe_tup (pa_cons (pv 7) (pa_cons (pv 3) pa_nil))) (pa_cons (pe_tup (pa_cons (pv 8) (pa_cons (pv 5) pa_nil))) pa_nil))) (pa_cons (pv 1) pa_nil)))))))))))))), ?_⟩
    obtain ⟨or0, hor0⟩ := hR.some
    -- the modulus
    refine ⟨by show 6 ≤ sizeLine; decide, fun t0 ht0 => ?_⟩
    have nt0 : t0 ≠ r := fun z => by rw [z, hor0] at ht0; cases ht0
    refine ⟨_, rfl, r, 6, rfl, hR.same (Same.new ht0), by omega, by omega, fun d0 Ha sa Ra hd0 hd1 => ?_⟩
    have hta := sa t0 _ nt0 upd_same
    have sXa : SameX r H Ha := (SameX.new ht0).trans sa
    obtain ⟨q, hqi, hq⟩ : ∃ q : Int, atI [V.int 2, V.int 3, V.int 5, V.int 7, V.int 11, V.int 13] d0 = some (.int q) ∧ IsMod q := by
      have : d0 = 0 ∨ d0 = 1 ∨ d0 = 2 ∨ d0 = 3 ∨ d0 = 4 ∨ d0 = 5 := by omega
      rcases this with rfl | rfl | rfl | rfl | rfl | rfl
      · exact ⟨2, rfl, by unfold IsMod; decide⟩
      · exact ⟨3, rfl, by unfold IsMod; decide⟩
      · exact ⟨5, rfl, by unfold IsMod; decide⟩
      · exact ⟨7, rfl, by unfold IsMod; decide⟩
      · exact ⟨11, rfl, by unfold IsMod; decide⟩
      · exact ⟨13, rfl, by unfold IsMod; decide⟩
    refine ⟨t0, _, d0, .int q, rfl, rfl, SqL.of hta, hqi, ?_⟩
    have hq2 := hq.pos
    have hq0 : 0 < q := by omega
    -- the names
    refine ⟨_, rfl, _, rfl, r, 6, rfl, Ra, by omega, by omega, fun d1 Hb sb Rb hd2 hd3 => ⟨_, _, rfl, rfl, ?_⟩⟩
    refine ⟨r, _, rfl, Rb, by omega, by omega, fun l ns Hc hlb sc Rc hlc hnd hnl hnm => ?_⟩
    have sXc : SameX r H Hc := (sXa.trans sb).trans sc
    have hnl6 : ns.length ≤ 6 := by omega
    have hN : Nms ns := ⟨by omega, hnm⟩
    obtain ⟨orb, horb⟩ := Rb.some
    have nlr : l ≠ r := fun z => by rw [z, horb] at hlb; cases hlb
    -- the first
    refine ⟨_, rfl, _, rfl, _, rfl, r, l, q, ns, ns, rfl, Rc, nlr, hlc, fun n hn => hn, hN, by omega, hq, fun u1 m1 g1 R1 k1 c1 Hd hg1 sd Rd' hu1 hgd1 hR1 hM1 hdd1 hw1 => ?_⟩
    obtain ⟨dd1, hm1, hdc1, ndg1⟩ := hdd1
    have hld : Hd l = some (.lst (ns.map V.str)) := sd l _ nlr hlc
    -- the second
    refine ⟨_, rfl, _, rfl, _, rfl, r, l, q, ns, ns, rfl, Rd', nlr, hld, fun n hn => hn, hN, by omega, hq, fun u2 m2 g2 R2 k2 c2 He hg2 se Re hu2 hgd2 hR2 hM2 hdd2 hw2 => ?_⟩
    obtain ⟨dd2, hm2, hdc2, ndg2⟩ := hdd2
    have sXe : SameX r H He := (sXc.trans sd).trans se
    have hle := se l _ nlr hld
    have ng1r : g1 ≠ r := Rd'.ne hgd1 (by intro xs z; cases z)
    have hg1e := se g1 _ ng1r hgd1
    have hM1e := hM1.sameX se Rd'
    have hu1e := se u1 _ (Rd'.ne hu1 (by intro xs z; cases z)) hu1
    have hm1e := se m1 _ (Rd'.ne hm1 (by intro xs z; cases z)) hm1
    have ndd2g1 : dd2 ≠ g1 := (ne_of_none hgd1 hdc2).symm
    have ng21 : g2 ≠ g1 := (ne_of_none hgd1 hg2).symm
    have hg1H : H g1 = none := by
      obtain ⟨o, ho⟩ := Rc.some
      exact sXc.free ho hg1
    refine ⟨by show 2 ≤ sizeLine; decide, fun tt htt => ?_⟩
    have sf : Same He (upd He tt (.tup [.ref u1, .ref u2])) := Same.new htt
    have hft : upd He tt (.tup [.ref u1, .ref u2]) tt = some (.tup [.ref u1, .ref u2]) := upd_same
    generalize upd He tt (.tup [.ref u1, .ref u2]) = Hf at sf hft
    refine ⟨tt, _, rfl, SqT.of hft, rfl, _, _, rfl, u1, _, rfl, SqT.of (sf _ _ hu1e), rfl, _, _, rfl, _, _, rfl, rfl, _, _, rfl, u2, _, rfl, SqT.of (sf _ _ hu2), rfl, _, _, rfl, _, _, rfl, rfl, rfl, ?_⟩
    -- one = Sum(q, handed, first[1])
    obtain ⟨e1, i1, i2, hk1, hc10, hc11⟩ := id (hM1e.same sf)
    obtain ⟨e2, j1, j2, hk2, hc20, hc21⟩ := id (hM2.same sf)
    have ee1 : e1 = dd1 := by
      have z := sf _ _ hm1e
      rw [i1] at z
      cases z
      rfl
    have ee2 : e2 = dd2 := by
      have z := sf _ _ hm2
      rw [j1] at z
      cases z
      rfl
    subst ee1
    subst ee2
    have hg1f := sf _ _ hg1e
    have hg2f := sf _ _ hgd2
    refine ⟨_, rfl, _, rfl, _, rfl, m1, _, 1, .int c1, rfl, rfl, SqT.of i1, rfl, ?_⟩
    intro x1 y1 nx1 ny1 nxy1
    refine ⟨x1, y1, g1, q, c1, ns, R1, rfl, upd_same, by rw [upd_ne (ne_of_none hg1f nx1), upd_ne (ne_of_none hg1f ny1)]; exact hg1f, hR1, hN, hq, hc10, hc11, fun us1 f1 Hg nf1 can1 wus1 sx1 sf1 kp1 => ⟨rfl, ?_⟩⟩
    have sg : Same Hf Hg := Same.made nx1 ny1 kp1
    have nf1g : f1 ≠ g1 := fun z => by
      rw [z, upd_ne (ne_of_none hg1f nx1), upd_ne (ne_of_none hg1f ny1), hg1f] at nf1
      cases nf1
    -- other = Sum(q, dict(list(other_handed.items())[::-1]), second[1])
    refine ⟨_, rfl, _, rfl, g2, dk R2, rfl, sg _ _ hg2f, fun Hh lp ts sh' _ _ _ hlp hts => ?_⟩
    have sh : Same Hg Hh := sh'
    refine ⟨lp, _, rfl, SqL.of hlp, fun lr hlr => ?_⟩
    have si : Same Hh (upd Hh lr (.lst (ts.map V.ref).reverse)) := Same.new hlr
    have hlr' : upd Hh lr (.lst (ts.map V.ref).reverse) lr = some (.lst (ts.map V.ref).reverse) := upd_same
    generalize upd Hh lr (.lst (ts.map V.ref).reverse) = Hi at si hlr'
    refine ⟨lr, ts.reverse, dk R2.reverse, rfl, SqL.of (by rw [hlr', List.map_reverse]), ?_, fun rd hrd => ?_⟩
    · have q1 := paired_rev (Paired.mapP (paired_kV hts) fun t p hp => si _ _ hp)
      exact paired_dk (Paired.mapP q1 fun t p hp => SqT.of hp)
    have hRr : Dct 0 q ns R2.reverse := hR2.perm (List.reverse_perm R2)
    rw [merge_all _ hRr.nd]
    have sj : Same Hi (upd Hi rd (.dK (dk R2.reverse))) := Same.new hrd
    have hrd' : upd Hi rd (.dK (dk R2.reverse)) rd = some (.dK (dk R2.reverse)) := upd_same
    generalize upd Hi rd (.dK (dk R2.reverse)) = Hj at sj hrd'
    have sgj := (sh.trans si).trans sj
    have sfj := sg.trans sgj
    refine ⟨_, rfl, m2, _, 1, .int c2, rfl, rfl, SqT.of (sfj _ _ j1), rfl, ?_⟩
    intro x2 y2 nx2 ny2 nxy2
    have hg1j := sfj _ _ hg1f
    refine ⟨x2, y2, rd, q, c2, ns, R2.reverse, rfl, upd_same, by rw [upd_ne (ne_of_none hrd' nx2), upd_ne (ne_of_none hrd' ny2)]; exact hrd', hRr, hN, hq, hc20, hc21, fun us2 f2 Hk nf2 can2 wus2 sx2 sf2 kp2 => ⟨rfl, ?_⟩⟩
    have sk0 : Same Hj Hk := Same.made nx2 ny2 kp2
    have nf2g : f2 ≠ g1 := fun z => by
      rw [z, upd_ne (ne_of_none hg1j nx2), upd_ne (ne_of_none hg1j ny2), hg1j] at nf2
      cases nf2
    refine ⟨by show 2 ≤ sizeLine; decide, fun tu htu => ?_⟩
    have sl : Same Hk (upd Hk tu (.tup [.ref x1, .ref x2])) := Same.new htu
    have htu' : upd Hk tu (.tup [.ref x1, .ref x2]) tu = some (.tup [.ref x1, .ref x2]) := upd_same
    generalize upd Hk tu (.tup [.ref x1, .ref x2]) = Hl at sl htu'
    have sgl := (sgj.trans sk0).trans sl
    have sfl := sg.trans sgl
    refine ⟨tu, _, rfl, SqT.of htu', rfl, _, _, rfl, _, _, rfl, rfl, ?_⟩
    -- handed.clear()
    have hg1l := sfl _ _ hg1f
    refine ⟨_, rfl, .inr (.inr (.inl ⟨rfl, .inl ⟨_, hg1l⟩⟩)), g1, _, rfl, rfl, hg1l, ?_⟩
    have k1' : ∀ {b : Addr} {o : HO}, Hl b = some o → b ≠ g1 → upd Hl g1 (.dK []) b = some o := fun h n => by rw [upd_ne n]; exact h
    have nk : ∀ {b : Addr} {o : HO}, Hl b = some o → (∀ kvs, o ≠ .dK kvs) → b ≠ g1 := fun h n => ne_of h hg1l (n _)
    have A1 : Agree T.S (upd Hl g1 (.dK [])) x1 m1 q ns := by
      refine ⟨us1, k1, c1, ⟨_, f1, k1' (sgl _ _ sx1) (nk (sgl _ _ sx1) (by intro kvs z; cases z)), k1' (sgl _ _ sf1) nf1g, can1, hc10, hc11⟩, ⟨e1, k1' (sfl _ _ i1) (nk (sfl _ _ i1) (by intro kvs z; cases z)), k1' (sfl _ _ i2) ndg1, hk1, hc10, hc11⟩, fun n => ?_⟩
      rw [wus1, hw1]
    have A2 : Agree T.S (upd Hl g1 (.dK [])) x2 m2 q ns := by
      refine ⟨us2, k2, c2, ⟨_, f2, k1' (sl _ _ sx2) (nk (sl _ _ sx2) (by intro kvs z; cases z)), k1' (sl _ _ sf2) nf2g, can2, hc20, hc21⟩, ⟨e2, k1' (sfl _ _ j1) (nk (sfl _ _ j1) (by intro kvs z; cases z)), k1' (sfl _ _ j2) ndd2g1, hk2, hc20, hc21⟩, fun n => ?_⟩
      rw [wus2, wt_perm hR2.nd (List.reverse_perm R2), hw2]
    have Rm : RngAt (upd Hl g1 (.dK [])) r := ((Re.same sf).same sfl).upd ng1r
    have hlm : upd Hl g1 (.dK []) l = some (.lst (ns.map V.str)) := by
      have z := sfl _ _ (sf _ _ hle)
      exact k1' z (nk z (by intro kvs y; cases y))
    have sXm : SameX r H (upd Hl g1 (.dK [])) := SameX.mut (sXe.trans (SameX.of (sf.trans sfl))) hg1H
    generalize upd Hl g1 (.dK []) = Hm at A1 A2 Rm hlm sXm
    -- by
    refine ⟨_, rfl, _, rfl, r, q, rfl, Rm, by omega, by omega, fun n1 Hn sn Rn hn0 hn1 => ?_⟩
    refine ⟨_, rfl, ?_⟩
    refine ⟨_, rfl, r, 3, rfl, Rn, by omega, by omega, fun n2 Ho so Ro hn2 hn3 => ⟨_, _, rfl, rfl, ?_⟩⟩
    refine ⟨_, _, rfl, rfl, ⟨by decide, by decide, by decide⟩, ?_⟩
    refine ⟨_, rfl, r, 99, rfl, Ro, by omega, by omega, fun n3 Hp' sp' Rp hn4 hn5 => ⟨_, _, rfl, rfl, ?_⟩⟩
    refine ⟨_, _, rfl, rfl, ⟨by decide, by decide, by decide⟩, _, rfl, ?_⟩
    refine ⟨_, rfl, r, 99, rfl, Rp, by omega, by omega, fun n4 Hq sq Rq hn6 hn7 => ⟨_, _, rfl, rfl, ?_⟩⟩
    refine ⟨by show 5 ≤ sizeLine; decide, fun bl hbl => ?_⟩
    have smq : SameX r Hm Hq := ((sn.trans so).trans sp').trans sq
    have hbys : ∃ bys : List Int, ([V.int n1, V.int (-1 - n2), V.int (10 ^ (24 : Int).toNat + n3), V.int (-10 ^ (9 : Int).toNat - n4), V.int 0] : List V) = bys.map V.int ∧ bys.length = 5 := ⟨[n1, -1 - n2, 10 ^ (24 : Int).toNat + n3, -10 ^ (9 : Int).toNat - n4, 0], rfl, rfl⟩
    obtain ⟨bys, hbe, hb5⟩ := hbys
    have hR0 : Same Hq (upd Hq bl (.lst (bys.map V.int))) := Same.new hbl
    rw [← hbe] at hR0
    have hRb : upd Hq bl (.lst [V.int n1, V.int (-1 - n2), V.int (10 ^ (24 : Int).toNat + n3), V.int (-10 ^ (9 : Int).toNat - n4), V.int 0]) bl = some (.lst (bys.map V.int)) := by rw [upd_same, hbe]
    generalize hHr : upd Hq bl _ = Hr at hR0 hRb ⊢
    have smr : SameX r Hm Hr := smq.trans (SameX.of hR0)
    have Rr : RngAt Hr r := Rq.same hR0
    have A1r : Agree T.S Hr x1 m1 q ns := (A1.delR Rm).same (delR_same smr)
    have A2r : Agree T.S Hr x2 m2 q ns := (A2.delR Rm).same (delR_same smr)
    have hlr2 : Hr l = some (.lst (ns.map V.str)) := smr l _ nlr hlm
    have sXr : SameX r H Hr := sXm.trans smr
    obtain ⟨vs1, j1s, b1, S1, M1, w1⟩ := id A1r
    obtain ⟨vs2, j2s, b2, S2, M2, w2⟩ := id A2r
    refine ⟨2, rfl, by decide, by decide, for_it walk_range (fun i σ Hx => ∃ (v10 v11 : Option V), σ = [some (.ref r), some (.int q), some (.ref l), some (.ref m1), some (.ref g1), some (.ref m2), some (.ref g2), some (.ref x1), some (.ref x2), some (.ref bl), v10, v11, none, none, none] ∧ Same Hr Hx) ⟨none, none, rfl, Same.refl _⟩ (fun _ _ _ _ _ => True.intro) ?_ ?_⟩
    · rintro i y σ Hx Hx' hi ⟨v10, v11, rfl, sx⟩ ⟨rfl, rfl⟩
      -- (one, first), (other, second), (one + other, ..)
      refine ⟨_, rfl, _, rfl, by show 2 ≤ sizeLine; decide, fun a1 ha1 => ?_⟩
      have s1 : Same Hx' (upd Hx' a1 (.tup [.ref x1, .ref m1])) := Same.new ha1
      have h1 : upd Hx' a1 (.tup [.ref x1, .ref m1]) a1 = some (.tup [.ref x1, .ref m1]) := upd_same
      generalize upd Hx' a1 (.tup [.ref x1, .ref m1]) = H1 at s1 h1
      refine ⟨_, rfl, _, rfl, by show 2 ≤ sizeLine; decide, fun a2 ha2 => ?_⟩
      have s2 : Same H1 (upd H1 a2 (.tup [.ref x2, .ref m2])) := Same.new ha2
      have h2 : upd H1 a2 (.tup [.ref x2, .ref m2]) a2 = some (.tup [.ref x2, .ref m2]) := upd_same
      generalize upd H1 a2 (.tup [.ref x2, .ref m2]) = H2 at s2 h2
      have sr2 := (sx.trans s1).trans s2
      obtain ⟨dx1, ex1, p1, _⟩ := id S1
      obtain ⟨dx2, ex2, p2, _⟩ := id S2
      refine ⟨_, rfl, _, rfl, x1, x2, dx1, dx2, _, _, rfl, rfl, sr2 _ _ p1, sr2 _ _ p2, x1, x2, q, ns, vs1, vs2, b1, b2, rfl, S1.same sr2, S2.same sr2, hN, hq, fun o3 us3 H3 _ s3 S3 w3 => ?_⟩
      have sr3 := sr2.trans s3
      refine ⟨_, rfl, _, rfl, _, rfl, m1, m2, 1, q, ns, j1s, j2s, b1, b2, rfl, M1.same sr3, M2.same sr3, hN, hq, fun t3 ks3 H4 _ s4 M3 w3' => ⟨by show 2 ≤ sizeLine; decide, fun a3 ha3 => ?_⟩⟩
      have s5 : Same H4 (upd H4 a3 (.tup [.ref o3, .ref t3])) := Same.new ha3
      have h5 : upd H4 a3 (.tup [.ref o3, .ref t3]) a3 = some (.tup [.ref o3, .ref t3]) := upd_same
      generalize upd H4 a3 (.tup [.ref o3, .ref t3]) = H5 at s5 h5
      have A3 : Agree T.S H5 o3 t3 q ns := by
        refine ⟨us3, ks3, _, (S3.same s4).same s5, ?_, fun n => ?_⟩
        · have z := M3.same s5
          rw [Int.one_mul] at z
          exact z
        · rw [w3, w3', w1, w2, Int.one_mul]
      have s35 := (s3.trans s4).trans s5
      have s25 := s2.trans s35
      refine ⟨by show 3 ≤ sizeLine; decide, fun L1 hL1 => ?_⟩
      have s6 : Same H5 (upd H5 L1 (.lst [.ref a1, .ref a2, .ref a3])) := Same.new hL1
      have h6 : upd H5 L1 (.lst [.ref a1, .ref a2, .ref a3]) L1 = some (.lst [.ref a1, .ref a2, .ref a3]) := upd_same
      generalize upd H5 L1 (.lst [.ref a1, .ref a2, .ref a3]) = H6 at s6 h6
      have sr5 := sr2.trans s35
      have P6 : PrsOk T.S q ns H6 [.ref a1, .ref a2, .ref a3] := (PrsOk.cons (s25 _ _ h1) (A1r.same sr5) (PrsOk.cons (s35 _ _ h2) (A2r.same sr5) (PrsOk.cons h5 A3 PrsOk.nil))).same s6
      have sr6 := sr5.trans s6
      -- (one - other, ..), (-one, ..)
      refine ⟨_, rfl, _, rfl, _, rfl, x1, x2, dx1, dx2, _, _, rfl, rfl, sr6 _ _ p1, sr6 _ _ p2, x1, x2, q, ns, vs1, vs2, b1, b2, rfl, S1.same sr6, S2.same sr6, hN, hq, fun o4 us4 H7 _ s7 S4 w4 => ?_⟩
      have sr7 := sr6.trans s7
      refine ⟨_, rfl, _, rfl, 1, rfl, _, rfl, m1, m2, -1, q, ns, j1s, j2s, b1, b2, rfl, M1.same sr7, M2.same sr7, hN, hq, fun t4 ks4 H8 _ s8 M4 w4' => ⟨by show 2 ≤ sizeLine; decide, fun a4 ha4 => ?_⟩⟩
      have s9 : Same H8 (upd H8 a4 (.tup [.ref o4, .ref t4])) := Same.new ha4
      have h9 : upd H8 a4 (.tup [.ref o4, .ref t4]) a4 = some (.tup [.ref o4, .ref t4]) := upd_same
      generalize upd H8 a4 (.tup [.ref o4, .ref t4]) = H9 at s9 h9
      have A4 : Agree T.S H9 o4 t4 q ns := by
        refine ⟨us4, ks4, _, (S4.same s8).same s9, ?_, fun n => ?_⟩
        · rw [emod_sub1]; exact M4.same s9
        · rw [w4, w4', w1, w2, emod_sub1]
      have s79 := (s7.trans s8).trans s9
      have sr9 := sr6.trans s79
      refine ⟨_, rfl, x1, dx1, _, rfl, sr9 _ _ p1, x1, q, ns, vs1, b1, rfl, S1.same sr9, hN, hq, fun o5 us5 H10 _ s10 S5 w5 => ?_⟩
      have sr10 := sr9.trans s10
      intro z1 hz1
      have s11 : Same H10 (upd H10 z1 (.dK [])) := Same.new hz1
      have h11 : upd H10 z1 (.dK []) z1 = some (.dK (dk [])) := upd_same
      generalize upd H10 z1 (.dK []) = H11 at s11 h11
      refine ⟨by show 2 ≤ sizeLine; decide, fun z2 hz2 => ?_⟩
      have s12 : Same H11 (upd H11 z2 (.tup [.ref z1, .int 0])) := Same.new hz2
      have h12 : MdlAt (upd H11 z2 (.tup [.ref z1, .int 0])) z2 q ns [] 0 := ⟨z1, upd_same, s12 _ _ h11, Dct.nil, Int.le_refl _, hq0⟩
      generalize upd H11 z2 (.tup [.ref z1, .int 0]) = H12 at s12 h12
      have s1012 := s11.trans s12
      have sr12 := sr10.trans s1012
      refine ⟨_, rfl, 1, rfl, _, rfl, z2, m1, -1, q, ns, [], j1s, 0, b1, rfl, h12, M1.same sr12, hN, hq, fun t5 ks5 H13 _ s13 M5 w5' => ⟨by show 2 ≤ sizeLine; decide, fun a5 ha5 => ?_⟩⟩
      have s14 : Same H13 (upd H13 a5 (.tup [.ref o5, .ref t5])) := Same.new ha5
      have h14 : upd H13 a5 (.tup [.ref o5, .ref t5]) a5 = some (.tup [.ref o5, .ref t5]) := upd_same
      generalize upd H13 a5 (.tup [.ref o5, .ref t5]) = H14 at s14 h14
      have A5 : Agree T.S H14 o5 t5 q ns := by
        refine ⟨us5, ks5, _, (S5.same s1012).same (s13.trans s14), ?_, fun n => ?_⟩
        · have z := M5.same s14
          rw [Int.zero_add, Int.mul_comm] at z
          exact z
        · rw [w5, w5', wt_nil, Int.zero_add, w1, Int.mul_comm]
      have s914 := ((s10.trans s1012).trans s13).trans s14
      refine ⟨by show 2 ≤ sizeLine; decide, fun L2 hL2 => ?_⟩
      have s15 : Same H14 (upd H14 L2 (.lst [.ref a4, .ref a5])) := Same.new hL2
      have h15 : upd H14 L2 (.lst [.ref a4, .ref a5]) L2 = some (.lst [.ref a4, .ref a5]) := upd_same
      generalize upd H14 L2 (.lst [.ref a4, .ref a5]) = H15 at s15 h15
      have s614 := s79.trans s914
      have s615 := s614.trans s15
      refine ⟨L1, L2, _, _, rfl, rfl, s615 _ _ h6, h15, by show 5 ≤ sizeLine; decide, fun L3 hL3 => ?_⟩
      have P15 : PrsOk T.S q ns H15 ([.ref a1, .ref a2, .ref a3] ++ [.ref a4, .ref a5]) := (P6.same s615).append ((PrsOk.cons (s914 _ _ h9) (A4.same s914) (PrsOk.cons h14 A5 PrsOk.nil)).same s15)
      generalize hq5 : ([.ref a1, .ref a2, .ref a3] ++ [.ref a4, .ref a5] : List V) = ps5 at P15
      have hl5 : ps5.length = 5 := by rw [← hq5]; rfl
      have s16 : Same H15 (upd H15 L3 (.lst ps5)) := Same.new hL3
      have h16 : upd H15 L3 (.lst ps5) L3 = some (.lst ps5) := upd_same
      have P16 := P15.same s16
      generalize upd H15 L3 (.lst ps5) = H16 at s16 h16 P16
      have sr16 := (sr6.trans s615).trans s16
      -- (one * number, ..) for number in by
      refine ⟨_, rfl, _, rfl, bl, rfl, ⟨_, SqL.of (sr16 _ _ hRb)⟩, fun D hD => ?_⟩
      refine lc_it (walk_list (xs := bys.map V.int)) (fun j Hy => Same H16 Hy ∧ ∃ ts : List V, Hy D = some (.lst ts) ∧ ts.length = j ∧ PrsOk T.S q ns Hy ts) ⟨Same.new hD, [], upd_same, rfl, PrsOk.nil⟩ (fun j Hy _ z => SqL.of (z.1 _ _ (sr16 _ _ hRb))) ?_ ?_
      · rintro j y Hy Hy' hj ⟨sy, ts, hDy, htl, Pt⟩ ⟨rfl, hy⟩
        rw [List.length_map] at hj
        have hyj : bys[j]? = some bys[j] := List.getElem?_eq_getElem hj
        rw [List.getElem?_map, hyj] at hy
        cases hy
        generalize bys[j] = kn at hyj
        have sry := sr16.trans sy
        refine ⟨rfl, ?_⟩
        refine ⟨_, rfl, _, rfl, x1, dx1, _, kn, rfl, rfl, sry _ _ p1, x1, q, ns, vs1, b1, kn, rfl, S1.same sry, hN, hq, fun o6 us6 Ha _ sa S6 w6 => ?_⟩
        intro z1 hz1
        have sb : Same Ha (upd Ha z1 (.dK [])) := Same.new hz1
        have hb : upd Ha z1 (.dK []) z1 = some (.dK (dk [])) := upd_same
        generalize upd Ha z1 (.dK []) = Hb at sb hb
        refine ⟨by show 2 ≤ sizeLine; decide, fun z2 hz2 => ?_⟩
        have sc' : Same Hb (upd Hb z2 (.tup [.ref z1, .int 0])) := Same.new hz2
        have hc : MdlAt (upd Hb z2 (.tup [.ref z1, .int 0])) z2 q ns [] 0 := ⟨z1, upd_same, sc' _ _ hb, Dct.nil, Int.le_refl _, hq0⟩
        generalize upd Hb z2 (.tup [.ref z1, .int 0]) = Hc' at sc' hc
        have sac := sb.trans sc'
        have src := (sry.trans sa).trans sac
        refine ⟨_, rfl, _, rfl, _, rfl, z2, m1, kn, q, ns, [], j1s, 0, b1, rfl, hc, M1.same src, hN, hq, fun t6 ks6 Hd' _ sd' M6 w6' => ⟨by show 2 ≤ sizeLine; decide, fun a6 ha6 => ?_⟩⟩
        have se' : Same Hd' (upd Hd' a6 (.tup [.ref o6, .ref t6])) := Same.new ha6
        have he : upd Hd' a6 (.tup [.ref o6, .ref t6]) a6 = some (.tup [.ref o6, .ref t6]) := upd_same
        generalize upd Hd' a6 (.tup [.ref o6, .ref t6]) = He' at se' he
        have A6 : Agree T.S He' o6 t6 q ns := by
          refine ⟨us6, ks6, _, (S6.same sac).same (sd'.trans se'), ?_, fun n => ?_⟩
          · have z := M6.same se'
            rw [Int.zero_add, Int.mul_comm] at z
            exact z
          · rw [w6, w6', wt_nil, Int.zero_add, w1, Int.mul_comm]
        have sye := ((sa.trans sac).trans sd').trans se'
        have hDe := sye _ _ hDy
        have hj5 : j < 5 := by rw [← hb5]; exact hj
        refine ⟨ts, hDe, by rw [htl]; exact sz_lt (by omega), ?_, ts ++ [.ref a6], upd_same, by rw [List.length_append, htl]; rfl, ?_⟩
        · exact Same.mut (sy.trans sye) hD
        · exact ((Pt.same sye).append (PrsOk.cons he A6 PrsOk.nil)).updL hDe
      rintro H17 ⟨s17, ts, hD17, htl, Pt⟩
      rw [List.length_map, hb5] at htl
      refine ⟨L3, D, _, _, rfl, rfl, s17 _ _ h16, hD17, by rw [hl5, htl]; decide, fun L4 hL4 => ?_⟩
      have P17 : PrsOk T.S q ns H17 (ps5 ++ ts) := (P16.same s17).append Pt
      have hl10 : (ps5 ++ ts).length = 10 := by rw [List.length_append, hl5, htl]
      generalize ps5 ++ ts = ps10 at P17 hl10
      have s18 : Same H17 (upd H17 L4 (.lst ps10)) := Same.new hL4
      have h18 : upd H17 L4 (.lst ps10) L4 = some (.lst ps10) := upd_same
      have P18 := P17.same s18
      generalize upd H17 L4 (.lst ps10) = H18 at s18 h18 P18
      have sr18 := (sr16.trans s17).trans s18
      -- (one + one, ..), (other - other, ({}, 0))
      refine ⟨_, rfl, _, rfl, _, rfl, x1, x1, dx1, dx1, _, _, rfl, rfl, sr18 _ _ p1, sr18 _ _ p1, x1, x1, q, ns, vs1, vs1, b1, b1, rfl, S1.same sr18, S1.same sr18, hN, hq, fun o7 us7 H19 _ s19 S7 w7 => ?_⟩
      have sr19 := sr18.trans s19
      refine ⟨_, rfl, _, rfl, _, rfl, m1, m1, 1, q, ns, j1s, j1s, b1, b1, rfl, M1.same sr19, M1.same sr19, hN, hq, fun t7 ks7 H20 _ s20 M7 w7' => ⟨by show 2 ≤ sizeLine; decide, fun a7 ha7 => ?_⟩⟩
      have s21 : Same H20 (upd H20 a7 (.tup [.ref o7, .ref t7])) := Same.new ha7
      have h21 : upd H20 a7 (.tup [.ref o7, .ref t7]) a7 = some (.tup [.ref o7, .ref t7]) := upd_same
      generalize upd H20 a7 (.tup [.ref o7, .ref t7]) = H21 at s21 h21
      have A7 : Agree T.S H21 o7 t7 q ns := by
        refine ⟨us7, ks7, _, (S7.same s20).same s21, ?_, fun n => ?_⟩
        · have z := M7.same s21
          rw [Int.one_mul] at z
          exact z
        · rw [w7, w7', w1, Int.one_mul]
      have s1821 := (s19.trans s20).trans s21
      have sr21 := sr18.trans s1821
      refine ⟨_, rfl, _, rfl, x2, x2, dx2, dx2, _, _, rfl, rfl, sr21 _ _ p2, sr21 _ _ p2, x2, x2, q, ns, vs2, vs2, b2, b2, rfl, S2.same sr21, S2.same sr21, hN, hq, fun o8 us8 H22 _ s22 S8 w8 => ?_⟩
      intro z1 hz1
      have s23 : Same H22 (upd H22 z1 (.dK [])) := Same.new hz1
      have h23 : upd H22 z1 (.dK []) z1 = some (.dK (dk [])) := upd_same
      generalize upd H22 z1 (.dK []) = H23 at s23 h23
      refine ⟨by show 2 ≤ sizeLine; decide, fun z2 hz2 => ?_⟩
      have s24 : Same H23 (upd H23 z2 (.tup [.ref z1, .int 0])) := Same.new hz2
      have h24 : MdlAt (upd H23 z2 (.tup [.ref z1, .int 0])) z2 q ns [] 0 := ⟨z1, upd_same, s24 _ _ h23, Dct.nil, Int.le_refl _, hq0⟩
      generalize upd H23 z2 (.tup [.ref z1, .int 0]) = H24 at s24 h24
      refine ⟨by show 2 ≤ sizeLine; decide, fun a8 ha8 => ?_⟩
      have s25' : Same H24 (upd H24 a8 (.tup [.ref o8, .ref z2])) := Same.new ha8
      have h25 : upd H24 a8 (.tup [.ref o8, .ref z2]) a8 = some (.tup [.ref o8, .ref z2]) := upd_same
      generalize upd H24 a8 (.tup [.ref o8, .ref z2]) = H25 at s25' h25
      have A8 : Agree T.S H25 o8 z2 q ns := by
        refine ⟨us8, [], 0, ?_, h24.same s25', fun n => ?_⟩
        · have z := ((S8.same s23).same s24).same s25'
          rw [emod_sub0] at z
          exact z
        · rw [w8, emod_sub0, wt_nil]
      have s2125 := ((s22.trans s23).trans s24).trans s25'
      have s1825 := s1821.trans s2125
      refine ⟨by show 2 ≤ sizeLine; decide, fun L5 hL5 => ?_⟩
      have s26 : Same H25 (upd H25 L5 (.lst [.ref a7, .ref a8])) := Same.new hL5
      have h26 : upd H25 L5 (.lst [.ref a7, .ref a8]) L5 = some (.lst [.ref a7, .ref a8]) := upd_same
      generalize upd H25 L5 (.lst [.ref a7, .ref a8]) = H26 at s26 h26
      have s1826 := s1825.trans s26
      refine ⟨L4, L5, _, _, rfl, rfl, s1826 _ _ h18, h26, by rw [hl10]; show 12 ≤ sizeLine; decide, fun L6 hL6 => ?_⟩
      have P26 : PrsOk T.S q ns H26 (ps10 ++ [.ref a7, .ref a8]) := (P18.same s1826).append ((PrsOk.cons (s2125 _ _ h21) (A7.same s2125) (PrsOk.cons h25 A8 PrsOk.nil)).same s26)
      have hl12 : (ps10 ++ [V.ref a7, V.ref a8]).length = 12 := by rw [List.length_append, hl10]; rfl
      generalize ps10 ++ [V.ref a7, V.ref a8] = ps12 at P26 hl12
      have s27 : Same H26 (upd H26 L6 (.lst ps12)) := Same.new hL6
      have h27 : upd H26 L6 (.lst ps12) L6 = some (.lst ps12) := upd_same
      have P27 := P26.same s27
      generalize upd H26 L6 (.lst ps12) = H27 at s27 h27 P27
      have sr27 := (sr18.trans s1826).trans s27
      -- all([tells(told, model, q) for told, model in pairs])
      refine ⟨_, rfl, L6, rfl, ⟨_, SqL.of h27⟩, fun D3 hD3 => lc_map (walk_list (xs := ps12)) (List.replicate 12 (.bl true)) (by rw [List.length_replicate, hl12]) (fun H28 s28 => SqL.of (s28 _ _ h27)) hD3 (by rw [hl12]; decide) (fun j y H28 H28' hj s28 yy P1 kp => ?_) fun H28 s28 hD28 => ?_⟩
      · obtain ⟨rfl, hy⟩ := yy
        obtain ⟨a, o, m, rfl, ha, hA⟩ := P27 y (List.mem_of_getElem? hy)
        obtain ⟨ws, ks, c, hS', hM', hw'⟩ := hA.same s28
        refine ⟨a, _, rfl, SqT.of (s28 _ _ ha), rfl, _, _, rfl, _, _, rfl, rfl, rfl, ?_⟩
        refine ⟨_, rfl, _, rfl, _, rfl, o, m, q, ns, ws, ks, c, rfl, hS', hM', hN, hq, hw', fun H29 s29 => ?_⟩
        refine kp _ _ ?_ s29
        rw [List.getElem?_replicate, if_pos (by rw [hl12] at hj; exact hj)]
      refine ⟨D3, List.replicate 12 true, rfl, SqL.of (by rw [hD28, List.map_replicate]), true, by simp, iteF ?_⟩
      exact ⟨_, _, rfl, sr27.trans s28⟩
    rintro σ Hx ⟨v10, v11, rfl, sx⟩
    -- values_right(rng, names, [(one, first), (other, second)], q)
    refine ⟨_, rfl, _, rfl, _, rfl, _, rfl, by show 2 ≤ sizeLine; decide, fun a1 ha1 => ?_⟩
    have s1 : Same Hx (upd Hx a1 (.tup [.ref x1, .ref m1])) := Same.new ha1
    have h1 : upd Hx a1 (.tup [.ref x1, .ref m1]) a1 = some (.tup [.ref x1, .ref m1]) := upd_same
    generalize upd Hx a1 (.tup [.ref x1, .ref m1]) = H1 at s1 h1
    refine ⟨_, rfl, _, rfl, by show 2 ≤ sizeLine; decide, fun a2 ha2 => ?_⟩
    have s2 : Same H1 (upd H1 a2 (.tup [.ref x2, .ref m2])) := Same.new ha2
    have h2 : upd H1 a2 (.tup [.ref x2, .ref m2]) a2 = some (.tup [.ref x2, .ref m2]) := upd_same
    generalize upd H1 a2 (.tup [.ref x2, .ref m2]) = H2 at s2 h2
    refine ⟨by show 2 ≤ sizeLine; decide, fun pl hpl => ?_⟩
    have s3 : Same H2 (upd H2 pl (.lst [.ref a1, .ref a2])) := Same.new hpl
    have h3 : upd H2 pl (.lst [.ref a1, .ref a2]) pl = some (.lst [.ref a1, .ref a2]) := upd_same
    have sr2 := (sx.trans s1).trans s2
    have npr : pl ≠ r := fun z => by
      obtain ⟨o, ho⟩ := (Rr.same sr2).some
      rw [z, ho] at hpl
      cases hpl
    generalize upd H2 pl (.lst [.ref a1, .ref a2]) = H3 at s3 h3
    have sr3 := sr2.trans s3
    refine ⟨_, rfl, r, l, pl, a1, a2, x1, m1, x2, m2, q, ns, rfl, Rr.same sr3, nlr, sr3 _ _ hlr2, hN, by omega, hq, npr, h3, s3 _ _ (s2 _ _ h1), s3 _ _ h2, A1r.same sr3, A2r.same sr3, fun H4 s4 R4 => ?_⟩
    exact kk H4 ((sXr.trans (SameX.of sr3)).trans s4) R4
end
end Q
set_option Elab.async false
set_option maxRecDepth 100000
set_option maxHeartbeats 4000000
namespace Q
open PySem L2 QR QM
abbrev nLaw : List Str := ["_law_script", "_law_k", "_law_rng_here", "_law_turn"]
section
variable {P : Program} {w : World} {K : PySem.W.Frag} {mg : Str → Option Value} {base : Heap}
/-! ### law -/
def spLaw (K : PySem.W.Frag) : Sp := fun vs H Q _ => ∃ (a : Addr) (ns : List Int), vs = [.ref a] ∧ SqL K H a (ns.map V.int) ∧ ns.length ≤ 63 ∧ ∀ H', Q (.bl true) H'
theorem scLaw : FnScope nLaw ["_law_script"] (defScope sLaw) := ⟨rfl, rfl, rfl, by decide +kernel, rfl, by decide +kernel, by decide +kernel⟩
theorem ok_law (T : T4 K mg) (TL : FT K "law" "law" sLaw ["_law_script"]) : FnOk P w K mg base CX0 10 TL.f TL.fd ["_law_script"] (spLaw K) := by
  have GR : FnOk P w K mg base CX0 1 T.rng.f T.rng.fd ["_law_script", "_law_k"] (spRng K) := ok_rng T
  have GRi : FnOk P w K mg base CX0 9 T.right.f T.right.fd ["_law_rng_here"] spRight := ok_right T
  refine TL.F.ok scLaw (fun vs H Q E h => ?_) (fun cdv A outer s H vs Q E hr h => ?_)
  · obtain ⟨a, ns, rfl, _⟩ := h
    rfl
  · obtain ⟨a, ns, rfl, hS, hlen, kk⟩ := h
    have hr1 : Room 1 _ := hr.mono (by decide)
    refine ⟨_, (pss_cons (ps_for PassesOwn.never rfl (pi_range1 (by rfl) T.B.range (pa_cons (pe_callB (call_max2 rfl) (by rfl) T.B.max (by decide +kernel) (pa_cons pe_int (pa_cons (pe_callB (call_min2 rfl) (by rfl) T.B.min (by decide +kernel) (pa_cons pe_int (pa_cons (pe_callB call_len_seq (by rfl) T.B.len PySem.boot_len (pa_cons (pv 0) pa_nil)) pa_nil))) pa_nil))) pa_nil)) (pg_name (i := 1) scLaw.nd rfl (Or.inl rfl)) (pss_cons (ps_set (i := 2) scLaw.nd rfl (Or.inl rfl) (pe_call GR hr1 (by rfl) T.gRng T.rng.kp T.rng.b .nil pass0 (pa_cons (pv 0) (pa_cons (pv 1) pa_nil)))) (pss_one (ps_for PassesOwn.never rfl (pi_range1 (by rfl) T.B.range (pa_cons pe_int pa_nil)) (pg_name (i := 3) scLaw.nd rfl (Or.inl rfl)) (pss_one (ps_if (pt_not (pt_val (pe_call GRi hr (by rfl) T.gRight T.right.kp T.right.b .nil pass0 (pa_cons (pv 2) pa_nil)))) (pss_one (ps_ret pe_bl)) pss_nil)))))) (pss_one (ps_ret pe_bl))), ?_⟩
    refine ⟨_, rfl, a, _, rfl, .inl hS, 3, _, rfl, 1, _, rfl, ?_⟩
    rw [List.length_map]
    generalize hn : (if (if (ns.length : Int) < 3 then (ns.length : Int) else 3) > 1 then (if (ns.length : Int) < 3 then (ns.length : Int) else 3) else 1) = n
    have hn1 : 1 ≤ n ∧ n ≤ 3 := by
      rw [← hn]
      split <;> split <;> omega
    refine ⟨n, rfl, by omega, by omega, for_it walk_range (fun i σ H2 => ∃ (v1 v2 v3 : Option V), σ = [some (.ref a), v1, v2, v3] ∧ Same H H2) ⟨none, none, none, rfl, Same.refl _⟩ (fun _ _ _ _ _ => True.intro) ?_ ?_⟩
    · rintro i y σ H2 H2' hi ⟨v1, v2, v3, rfl, s2⟩ ⟨rfl, rfl⟩
      refine ⟨_, rfl, _, rfl, a, ns, _, rfl, s2.seq hS, by omega, by omega, fun r H3 hr3 s3 R3 => ?_⟩
      have hrH : H r = none := s2.free hr3
      refine ⟨3, rfl, by decide, by decide, for_it walk_range (fun j σ H4 => ∃ (v3 : Option V), σ = [some (.ref a), some (.int (0 + (i : Int))), some (.ref r), v3] ∧ Same H H4 ∧ RngAt H4 r) ⟨_, rfl, s2.trans s3, R3⟩ (fun _ _ _ _ _ => True.intro) ?_ ?_⟩
      · rintro j y σ H4 H4' hj ⟨v3, rfl, s4, R4⟩ ⟨rfl, rfl⟩
        refine ⟨_, rfl, r, rfl, R4, fun H5 s5 R5 => ⟨true, rfl, iteF ?_⟩⟩
        exact ⟨_, rfl, fun b o hb => s5 b o (ne_of_none hb hrH) (s4 b o hb), R5⟩
      · rintro σ H4 ⟨v3, rfl, s4, R4⟩
        exact ⟨_, _, _, rfl, s4⟩
    · rintro σ H2 ⟨v1, v2, v3, rfl, s2⟩
      exact kk H2
end
end Q
set_option Elab.async false
set_option maxRecDepth 100000
set_option maxHeartbeats 4000000
namespace Q
open PySem L2 QR QM
theorem all_mk {l : PySem.W.OpenLaw} {w : World} {K : PySem.W.Frag} {h : Heap} {mg : Str → Option Value} {fa : Addr} (X : K.In h) (G : h.Ns mainGlobals mg) (hfa : mg "law" = some (.ref fa))
    {fa0 fa1 fa2 fa3 fa4 fa5 fa6 fa7 fa8 fa9 fa10 fa11 fa12 fa13 fa14 fa15 fa16 S fI DI fp0 op0 fp1 op1 fp2 op2 fm0 fm1 fm2 fm3 fm4 fm5 fm6 fm7 fm8 fm9 am : Addr}
    {oda0 ana0 : Option Addr} {sla0 : Array (Option Value)} {oca0 kVa0 dca0 pma0 cda0 cta0 : Value}
    {oda1 ana1 : Option Addr} {sla1 : Array (Option Value)} {oca1 kVa1 dca1 pma1 cda1 cta1 : Value}
    {oda2 ana2 : Option Addr} {sla2 : Array (Option Value)} {oca2 kVa2 dca2 pma2 cda2 cta2 : Value}
    {oda3 ana3 : Option Addr} {sla3 : Array (Option Value)} {oca3 kVa3 dca3 pma3 cda3 cta3 : Value}
    {oda4 ana4 : Option Addr} {sla4 : Array (Option Value)} {oca4 kVa4 dca4 pma4 cda4 cta4 : Value}
    {oda5 ana5 : Option Addr} {sla5 : Array (Option Value)} {oca5 kVa5 dca5 pma5 cda5 cta5 : Value}
    {oda6 ana6 : Option Addr} {sla6 : Array (Option Value)} {oca6 kVa6 dca6 pma6 cda6 cta6 : Value}
    {oda7 ana7 : Option Addr} {sla7 : Array (Option Value)} {oca7 kVa7 dca7 pma7 cda7 cta7 : Value}
    {oda8 ana8 : Option Addr} {sla8 : Array (Option Value)} {oca8 kVa8 dca8 pma8 cda8 cta8 : Value}
    {oda9 ana9 : Option Addr} {sla9 : Array (Option Value)} {oca9 kVa9 dca9 pma9 cda9 cta9 : Value}
    {oda10 ana10 : Option Addr} {sla10 : Array (Option Value)} {oca10 kVa10 dca10 pma10 cda10 cta10 : Value}
    {oda11 ana11 : Option Addr} {sla11 : Array (Option Value)} {oca11 kVa11 dca11 pma11 cda11 cta11 : Value}
    {oda12 ana12 : Option Addr} {sla12 : Array (Option Value)} {oca12 kVa12 dca12 pma12 cda12 cta12 : Value}
    {oda13 ana13 : Option Addr} {sla13 : Array (Option Value)} {oca13 kVa13 dca13 pma13 cda13 cta13 : Value}
    {oda14 ana14 : Option Addr} {sla14 : Array (Option Value)} {oca14 kVa14 dca14 pma14 cda14 cta14 : Value}
    {oda15 ana15 : Option Addr} {sla15 : Array (Option Value)} {oca15 kVa15 dca15 pma15 cda15 cta15 : Value}
    {oda16 ana16 : Option Addr} {sla16 : Array (Option Value)} {oca16 kVa16 dca16 pma16 cda16 cta16 : Value}
    {odI anI : Option Addr} {slI : Array (Option Value)} {ocI kVI dcI pmI cdI ctI : Value} {oI : Obj} {tI : Tok} {nI : Nat}
    {rsp0 : List Value}
    {odp0 anp0 : Option Addr} {slp0 : Array (Option Value)} {ocp0 kVp0 dcp0 pmp0 cdp0 ctp0 : Value}
    {rsp1 : List Value}
    {odp1 anp1 : Option Addr} {slp1 : Array (Option Value)} {ocp1 kVp1 dcp1 pmp1 cdp1 ctp1 : Value}
    {rsp2 : List Value}
    {odp2 anp2 : Option Addr} {slp2 : Array (Option Value)} {ocp2 kVp2 dcp2 pmp2 cdp2 ctp2 : Value}
    {odm0 anm0 : Option Addr} {slm0 : Array (Option Value)} {ocm0 kVm0 dcm0 pmm0 cdm0 ctm0 : Value}
    {odm1 anm1 : Option Addr} {slm1 : Array (Option Value)} {ocm1 kVm1 dcm1 pmm1 cdm1 ctm1 : Value}
    {odm2 anm2 : Option Addr} {slm2 : Array (Option Value)} {ocm2 kVm2 dcm2 pmm2 cdm2 ctm2 : Value}
    {odm3 anm3 : Option Addr} {slm3 : Array (Option Value)} {ocm3 kVm3 dcm3 pmm3 cdm3 ctm3 : Value}
    {odm4 anm4 : Option Addr} {slm4 : Array (Option Value)} {ocm4 kVm4 dcm4 pmm4 cdm4 ctm4 : Value}
    {odm5 anm5 : Option Addr} {slm5 : Array (Option Value)} {ocm5 kVm5 dcm5 pmm5 cdm5 ctm5 : Value}
    {odm6 anm6 : Option Addr} {slm6 : Array (Option Value)} {ocm6 kVm6 dcm6 pmm6 cdm6 ctm6 : Value}
    {odm7 anm7 : Option Addr} {slm7 : Array (Option Value)} {ocm7 kVm7 dcm7 pmm7 cdm7 ctm7 : Value}
    {odm8 anm8 : Option Addr} {slm8 : Array (Option Value)} {ocm8 kVm8 dcm8 pmm8 cdm8 ctm8 : Value}
    {odm9 anm9 : Option Addr} {slm9 : Array (Option Value)} {ocm9 kVm9 dcm9 pmm9 cdm9 ctm9 : Value}
    {fo ro : Option Value}
    {tl ts tn : Tok} {om : Obj} {t1 t2 t3 t4 t5 t6 : Tok} {nm : Nat}
    (ga0 : PySem.W.nsIn K mainGlobals "is_integer" = some (some (.ref fa0)))
    (la0 : K.lookup fa0 = some ⟨oca0, oda0, .func (PySem.W.fnOf "is_integer" "is_integer" (defArgs sIsInteger) (defBody sIsInteger) (defScope sIsInteger) .none kVa0 dca0 pma0 ana0 cda0 cta0), sla0⟩)
    (ca0 : PySem.W.codeIn K cda0 "is_integer" = true)
    (ka0 : PySem.W.keepIn K (.ref fa0) = true)
    (ga1 : PySem.W.nsIn K mainGlobals "is_number" = some (some (.ref fa1)))
    (la1 : K.lookup fa1 = some ⟨oca1, oda1, .func (PySem.W.fnOf "is_number" "is_number" (defArgs sIsNumber) (defBody sIsNumber) (defScope sIsNumber) .none kVa1 dca1 pma1 ana1 cda1 cta1), sla1⟩)
    (ca1 : PySem.W.codeIn K cda1 "is_number" = true)
    (ka1 : PySem.W.keepIn K (.ref fa1) = true)
    (ga2 : PySem.W.nsIn K mainGlobals "is_name" = some (some (.ref fa2)))
    (la2 : K.lookup fa2 = some ⟨oca2, oda2, .func (PySem.W.fnOf "is_name" "is_name" (defArgs sIsName) (defBody sIsName) (defScope sIsName) .none kVa2 dca2 pma2 ana2 cda2 cta2), sla2⟩)
    (ca2 : PySem.W.codeIn K cda2 "is_name" = true)
    (ka2 : PySem.W.keepIn K (.ref fa2) = true)
    (ga3 : PySem.W.nsIn K mainGlobals "is_world" = some (some (.ref fa3)))
    (la3 : K.lookup fa3 = some ⟨oca3, oda3, .func (PySem.W.fnOf "is_world" "is_world" (defArgs sIsWorld) (defBody sIsWorld) (defScope sIsWorld) .none kVa3 dca3 pma3 ana3 cda3 cta3), sla3⟩)
    (ca3 : PySem.W.codeIn K cda3 "is_world" = true)
    (ka3 : PySem.W.keepIn K (.ref fa3) = true)
    (ga4 : PySem.W.nsIn K mainGlobals "is_sum" = some (some (.ref fa4)))
    (la4 : K.lookup fa4 = some ⟨oca4, oda4, .func (PySem.W.fnOf "is_sum" "is_sum" (defArgs sIsSum) (defBody sIsSum) (defScope sIsSum) .none kVa4 dca4 pma4 ana4 cda4 cta4), sla4⟩)
    (ca4 : PySem.W.codeIn K cda4 "is_sum" = true)
    (ka4 : PySem.W.keepIn K (.ref fa4) = true)
    (ga5 : PySem.W.nsIn K mainGlobals "want_modulus" = some (some (.ref fa5)))
    (la5 : K.lookup fa5 = some ⟨oca5, oda5, .func (PySem.W.fnOf "want_modulus" "want_modulus" (defArgs sWantModulus) (defBody sWantModulus) (defScope sWantModulus) .none kVa5 dca5 pma5 ana5 cda5 cta5), sla5⟩)
    (ca5 : PySem.W.codeIn K cda5 "want_modulus" = true)
    (ka5 : PySem.W.keepIn K (.ref fa5) = true)
    (ga6 : PySem.W.nsIn K mainGlobals "_law_rng" = some (some (.ref fa6)))
    (la6 : K.lookup fa6 = some ⟨oca6, oda6, .func (PySem.W.fnOf "_law_rng" "_law_rng" (defArgs sLRng) (defBody sLRng) (defScope sLRng) .none kVa6 dca6 pma6 ana6 cda6 cta6), sla6⟩)
    (ca6 : PySem.W.codeIn K cda6 "_law_rng" = true)
    (ka6 : PySem.W.keepIn K (.ref fa6) = true)
    (ga7 : PySem.W.nsIn K mainGlobals "_law_draw" = some (some (.ref fa7)))
    (la7 : K.lookup fa7 = some ⟨oca7, oda7, .func (PySem.W.fnOf "_law_draw" "_law_draw" (defArgs sLDraw) (defBody sLDraw) (defScope sLDraw) .none kVa7 dca7 pma7 ana7 cda7 cta7), sla7⟩)
    (ca7 : PySem.W.codeIn K cda7 "_law_draw" = true)
    (ka7 : PySem.W.keepIn K (.ref fa7) = true)
    (ga8 : PySem.W.nsIn K mainGlobals "_law_some_names" = some (some (.ref fa8)))
    (la8 : K.lookup fa8 = some ⟨oca8, oda8, .func (PySem.W.fnOf "_law_some_names" "_law_some_names" (defArgs sLSomeNames) (defBody sLSomeNames) (defScope sLSomeNames) .none kVa8 dca8 pma8 ana8 cda8 cta8), sla8⟩)
    (ca8 : PySem.W.codeIn K cda8 "_law_some_names" = true)
    (ka8 : PySem.W.keepIn K (.ref fa8) = true)
    (ga9 : PySem.W.nsIn K mainGlobals "_law_drawn" = some (some (.ref fa9)))
    (la9 : K.lookup fa9 = some ⟨oca9, oda9, .func (PySem.W.fnOf "_law_drawn" "_law_drawn" (defArgs sLDrawn) (defBody sLDrawn) (defScope sLDrawn) .none kVa9 dca9 pma9 ana9 cda9 cta9), sla9⟩)
    (ca9 : PySem.W.codeIn K cda9 "_law_drawn" = true)
    (ka9 : PySem.W.keepIn K (.ref fa9) = true)
    (ga10 : PySem.W.nsIn K mainGlobals "_law_added" = some (some (.ref fa10)))
    (la10 : K.lookup fa10 = some ⟨oca10, oda10, .func (PySem.W.fnOf "_law_added" "_law_added" (defArgs sLAdded) (defBody sLAdded) (defScope sLAdded) .none kVa10 dca10 pma10 ana10 cda10 cta10), sla10⟩)
    (ca10 : PySem.W.codeIn K cda10 "_law_added" = true)
    (ka10 : PySem.W.keepIn K (.ref fa10) = true)
    (ga11 : PySem.W.nsIn K mainGlobals "_law_replaced" = some (some (.ref fa11)))
    (la11 : K.lookup fa11 = some ⟨oca11, oda11, .func (PySem.W.fnOf "_law_replaced" "_law_replaced" (defArgs sLReplaced) (defBody sLReplaced) (defScope sLReplaced) .none kVa11 dca11 pma11 ana11 cda11 cta11), sla11⟩)
    (ca11 : PySem.W.codeIn K cda11 "_law_replaced" = true)
    (ka11 : PySem.W.keepIn K (.ref fa11) = true)
    (ga12 : PySem.W.nsIn K mainGlobals "_law_value" = some (some (.ref fa12)))
    (la12 : K.lookup fa12 = some ⟨oca12, oda12, .func (PySem.W.fnOf "_law_value" "_law_value" (defArgs sLValue) (defBody sLValue) (defScope sLValue) .none kVa12 dca12 pma12 ana12 cda12 cta12), sla12⟩)
    (ca12 : PySem.W.codeIn K cda12 "_law_value" = true)
    (ka12 : PySem.W.keepIn K (.ref fa12) = true)
    (ga13 : PySem.W.nsIn K mainGlobals "_law_tells" = some (some (.ref fa13)))
    (la13 : K.lookup fa13 = some ⟨oca13, oda13, .func (PySem.W.fnOf "_law_tells" "_law_tells" (defArgs sLTells) (defBody sLTells) (defScope sLTells) .none kVa13 dca13 pma13 ana13 cda13 cta13), sla13⟩)
    (ca13 : PySem.W.codeIn K cda13 "_law_tells" = true)
    (ka13 : PySem.W.keepIn K (.ref fa13) = true)
    (ga14 : PySem.W.nsIn K mainGlobals "_law_right" = some (some (.ref fa14)))
    (la14 : K.lookup fa14 = some ⟨oca14, oda14, .func (PySem.W.fnOf "_law_right" "_law_right" (defArgs sLRight) (defBody sLRight) (defScope sLRight) .none kVa14 dca14 pma14 ana14 cda14 cta14), sla14⟩)
    (ca14 : PySem.W.codeIn K cda14 "_law_right" = true)
    (ka14 : PySem.W.keepIn K (.ref fa14) = true)
    (ga15 : PySem.W.nsIn K mainGlobals "_law_values_right" = some (some (.ref fa15)))
    (la15 : K.lookup fa15 = some ⟨oca15, oda15, .func (PySem.W.fnOf "_law_values_right" "_law_values_right" (defArgs sLValuesRight) (defBody sLValuesRight) (defScope sLValuesRight) .none kVa15 dca15 pma15 ana15 cda15 cta15), sla15⟩)
    (ca15 : PySem.W.codeIn K cda15 "_law_values_right" = true)
    (ka15 : PySem.W.keepIn K (.ref fa15) = true)
    (ga16 : PySem.W.nsIn K mainGlobals "law" = some (some (.ref fa16)))
    (la16 : K.lookup fa16 = some ⟨oca16, oda16, .func (PySem.W.fnOf "law" "law" (defArgs sLaw) (defBody sLaw) (defScope sLaw) .none kVa16 dca16 pma16 ana16 cda16 cta16), sla16⟩)
    (ca16 : PySem.W.codeIn K cda16 "law" = true)
    (ka16 : PySem.W.keepIn K (.ref fa16) = true)
    (gS : PySem.W.nsIn K mainGlobals "Sum" = some (some (.ref S)))
    (pg : PySem.W.plainGet K S Str.empty = true)
    (hd : PySem.W.hasDictIn K S = true)
    (po : PySem.W.plainOver K S = true)
    (sa : PySem.W.findIn K (.ref S) "__setattr__" = some (some (.builtin "object.__setattr__")))
    (mk : PySem.W.makesIn K S = true)
    (kc : PySem.W.keepIn K (.ref S) = true)
    (nM : PySem.W.findIn K (.ref S) "own_modulus" = some none)
    (nW : PySem.W.findIn K (.ref S) "own_weights" = some none)
    (nC : PySem.W.findIn K (.ref S) "own_constant" = some none)
    (q1 : PySem.W.findIn K (.ref S) "__class__" = some (some (.builtin "object.__class__")))
    (q2 : PySem.W.specialIn K (.builtin "object.__class__") "__get__" = some (some (.builtin "getset_descriptor.__get__")))
    (q3 : PySem.W.takesIn K (.builtin "object.__class__") = some true)
    (q4 : PySem.W.mroIn K S (.type "object") = some true)
    (sf : PySem.W.selfFirst K S = true)
    (aI : PySem.W.findIn K (.ref S) "__init__" = some (some (.ref fI)))
    (iI : PySem.W.isFn K (.ref fI) = true)
    (lI : K.lookup fI = some ⟨ocI, odI, .func (PySem.W.fnOf "__init__" "Sum.__init__" (defArgs sInit) (defBody sInit) (defScope sInit) (.ref DI) kVI dcI pmI anI cdI ctI), slI⟩)
    (cI : PySem.W.codeIn K cdI "Sum.__init__" = true)
    (kI : PySem.W.keepIn K (.ref fI) = true)
    (dI : K.lookup DI = some oI)
    (eI : oI.data = .seq ([Value.int 0 tI] : List Value).toArray nI)
    (app0 : PySem.W.findIn K (.ref S) "modulus" = some (some (.ref op0)))
    (bpp0 : PySem.W.specialIn K (.ref op0) "__get__" = some (some (.builtin "property.__get__")))
    (tpp0 : PySem.W.takesIn K (.ref op0) = some true)
    (rpp0 : PySem.W.recIn K op0 "property" = some (.ref fp0 :: rsp0))
    (lp0 : K.lookup fp0 = some ⟨ocp0, odp0, .func (PySem.W.fnOf "modulus" "Sum.modulus" (defArgs sModulus) (defBody sModulus) (defScope sModulus) .none kVp0 dcp0 pmp0 anp0 cdp0 ctp0), slp0⟩)
    (cp0 : PySem.W.codeIn K cdp0 "Sum.modulus" = true)
    (kp0 : PySem.W.keepIn K (.ref fp0) = true)
    (app1 : PySem.W.findIn K (.ref S) "constant" = some (some (.ref op1)))
    (bpp1 : PySem.W.specialIn K (.ref op1) "__get__" = some (some (.builtin "property.__get__")))
    (tpp1 : PySem.W.takesIn K (.ref op1) = some true)
    (rpp1 : PySem.W.recIn K op1 "property" = some (.ref fp1 :: rsp1))
    (lp1 : K.lookup fp1 = some ⟨ocp1, odp1, .func (PySem.W.fnOf "constant" "Sum.constant" (defArgs sConstant) (defBody sConstant) (defScope sConstant) .none kVp1 dcp1 pmp1 anp1 cdp1 ctp1), slp1⟩)
    (cp1 : PySem.W.codeIn K cdp1 "Sum.constant" = true)
    (kp1 : PySem.W.keepIn K (.ref fp1) = true)
    (app2 : PySem.W.findIn K (.ref S) "is_constant" = some (some (.ref op2)))
    (bpp2 : PySem.W.specialIn K (.ref op2) "__get__" = some (some (.builtin "property.__get__")))
    (tpp2 : PySem.W.takesIn K (.ref op2) = some true)
    (rpp2 : PySem.W.recIn K op2 "property" = some (.ref fp2 :: rsp2))
    (lp2 : K.lookup fp2 = some ⟨ocp2, odp2, .func (PySem.W.fnOf "is_constant" "Sum.is_constant" (defArgs sIsConstant) (defBody sIsConstant) (defScope sIsConstant) .none kVp2 dcp2 pmp2 anp2 cdp2 ctp2), slp2⟩)
    (cp2 : PySem.W.codeIn K cdp2 "Sum.is_constant" = true)
    (kp2 : PySem.W.keepIn K (.ref fp2) = true)
    (amm0 : PySem.W.findIn K (.ref S) "weights" = some (some (.ref fm0)))
    (imm0 : PySem.W.isFn K (.ref fm0) = true)
    (lm0 : K.lookup fm0 = some ⟨ocm0, odm0, .func (PySem.W.fnOf "weights" "Sum.weights" (defArgs sWeights) (defBody sWeights) (defScope sWeights) .none kVm0 dcm0 pmm0 anm0 cdm0 ctm0), slm0⟩)
    (cm0 : PySem.W.codeIn K cdm0 "Sum.weights" = true)
    (km0 : PySem.W.keepIn K (.ref fm0) = true)
    (amm1 : PySem.W.findIn K (.ref S) "names" = some (some (.ref fm1)))
    (imm1 : PySem.W.isFn K (.ref fm1) = true)
    (lm1 : K.lookup fm1 = some ⟨ocm1, odm1, .func (PySem.W.fnOf "names" "Sum.names" (defArgs sNames) (defBody sNames) (defScope sNames) .none kVm1 dcm1 pmm1 anm1 cdm1 ctm1), slm1⟩)
    (cm1 : PySem.W.codeIn K cdm1 "Sum.names" = true)
    (km1 : PySem.W.keepIn K (.ref fm1) = true)
    (amm2 : PySem.W.findIn K (.ref S) "weight" = some (some (.ref fm2)))
    (imm2 : PySem.W.isFn K (.ref fm2) = true)
    (lm2 : K.lookup fm2 = some ⟨ocm2, odm2, .func (PySem.W.fnOf "weight" "Sum.weight" (defArgs sWeight) (defBody sWeight) (defScope sWeight) .none kVm2 dcm2 pmm2 anm2 cdm2 ctm2), slm2⟩)
    (cm2 : PySem.W.codeIn K cdm2 "Sum.weight" = true)
    (km2 : PySem.W.keepIn K (.ref fm2) = true)
    (amm3 : PySem.W.findIn K (.ref S) "want_alike" = some (some (.ref fm3)))
    (imm3 : PySem.W.isFn K (.ref fm3) = true)
    (lm3 : K.lookup fm3 = some ⟨ocm3, odm3, .func (PySem.W.fnOf "want_alike" "Sum.want_alike" (defArgs sWantAlike) (defBody sWantAlike) (defScope sWantAlike) .none kVm3 dcm3 pmm3 anm3 cdm3 ctm3), slm3⟩)
    (cm3 : PySem.W.codeIn K cdm3 "Sum.want_alike" = true)
    (km3 : PySem.W.keepIn K (.ref fm3) = true)
    (amm4 : PySem.W.findIn K (.ref S) "__add__" = some (some (.ref fm4)))
    (imm4 : PySem.W.isFn K (.ref fm4) = true)
    (lm4 : K.lookup fm4 = some ⟨ocm4, odm4, .func (PySem.W.fnOf "__add__" "Sum.__add__" (defArgs sAdd) (defBody sAdd) (defScope sAdd) .none kVm4 dcm4 pmm4 anm4 cdm4 ctm4), slm4⟩)
    (cm4 : PySem.W.codeIn K cdm4 "Sum.__add__" = true)
    (km4 : PySem.W.keepIn K (.ref fm4) = true)
    (amm5 : PySem.W.findIn K (.ref S) "__neg__" = some (some (.ref fm5)))
    (imm5 : PySem.W.isFn K (.ref fm5) = true)
    (lm5 : K.lookup fm5 = some ⟨ocm5, odm5, .func (PySem.W.fnOf "__neg__" "Sum.__neg__" (defArgs sNeg) (defBody sNeg) (defScope sNeg) .none kVm5 dcm5 pmm5 anm5 cdm5 ctm5), slm5⟩)
    (cm5 : PySem.W.codeIn K cdm5 "Sum.__neg__" = true)
    (km5 : PySem.W.keepIn K (.ref fm5) = true)
    (amm6 : PySem.W.findIn K (.ref S) "__sub__" = some (some (.ref fm6)))
    (imm6 : PySem.W.isFn K (.ref fm6) = true)
    (lm6 : K.lookup fm6 = some ⟨ocm6, odm6, .func (PySem.W.fnOf "__sub__" "Sum.__sub__" (defArgs sSub) (defBody sSub) (defScope sSub) .none kVm6 dcm6 pmm6 anm6 cdm6 ctm6), slm6⟩)
    (cm6 : PySem.W.codeIn K cdm6 "Sum.__sub__" = true)
    (km6 : PySem.W.keepIn K (.ref fm6) = true)
    (amm7 : PySem.W.findIn K (.ref S) "__mul__" = some (some (.ref fm7)))
    (imm7 : PySem.W.isFn K (.ref fm7) = true)
    (lm7 : K.lookup fm7 = some ⟨ocm7, odm7, .func (PySem.W.fnOf "__mul__" "Sum.__mul__" (defArgs sMul) (defBody sMul) (defScope sMul) .none kVm7 dcm7 pmm7 anm7 cdm7 ctm7), slm7⟩)
    (cm7 : PySem.W.codeIn K cdm7 "Sum.__mul__" = true)
    (km7 : PySem.W.keepIn K (.ref fm7) = true)
    (amm8 : PySem.W.findIn K (.ref S) "at" = some (some (.ref fm8)))
    (imm8 : PySem.W.isFn K (.ref fm8) = true)
    (lm8 : K.lookup fm8 = some ⟨ocm8, odm8, .func (PySem.W.fnOf "at" "Sum.at" (defArgs sAt) (defBody sAt) (defScope sAt) .none kVm8 dcm8 pmm8 anm8 cdm8 ctm8), slm8⟩)
    (cm8 : PySem.W.codeIn K cdm8 "Sum.at" = true)
    (km8 : PySem.W.keepIn K (.ref fm8) = true)
    (amm9 : PySem.W.findIn K (.ref S) "put" = some (some (.ref fm9)))
    (imm9 : PySem.W.isFn K (.ref fm9) = true)
    (lm9 : K.lookup fm9 = some ⟨ocm9, odm9, .func (PySem.W.fnOf "put" "Sum.put" (defArgs sPut) (defBody sPut) (defScope sPut) .none kVm9 dcm9 pmm9 anm9 cdm9 ctm9), slm9⟩)
    (cm9 : PySem.W.codeIn K cdm9 "Sum.put" = true)
    (km9 : PySem.W.keepIn K (.ref fm9) = true)
    (rmul : PySem.W.findIn K (.ref S) "__rmul__" = some none)
    (imul : PySem.W.findIn K (.type "int") "__mul__" = some fo)
    (irmul : PySem.W.findIn K (.type "int") "__rmul__" = some ro)
    (isub : PySem.W.subIn K (.type "int") (.ref S) = some false)
    (letters : PySem.W.nsIn K mainGlobals "LETTERS" = some (some (.str lettersS tl)))
    (signs : PySem.W.nsIn K mainGlobals "NAME_SIGNS" = some (some (.str signsS ts)))
    (longest : PySem.W.nsIn K mainGlobals "LONGEST_NAME" = some (some (.int 12 tn)))
    (mod1 : PySem.W.nsIn K mainGlobals "MODULI" = some (some (.ref am)))
    (mod2 : K.lookup am = some om)
    (mod3 : om.cls = .type "tuple")
    (mod4 : om.data = .seq #[Value.int 2 t1, Value.int 3 t2, Value.int 5 t3, Value.int 7 t4, Value.int 11 t5, Value.int 13 t6] nm)
    (z_isinstance : PySem.W.nsIn K mainGlobals "isinstance" = some none)
    (z_int : PySem.W.nsIn K mainGlobals "int" = some none)
    (z_bool : PySem.W.nsIn K mainGlobals "bool" = some none)
    (z_str : PySem.W.nsIn K mainGlobals "str" = some none)
    (z_len : PySem.W.nsIn K mainGlobals "len" = some none)
    (z_all : PySem.W.nsIn K mainGlobals "all" = some none)
    (z_dict : PySem.W.nsIn K mainGlobals "dict" = some none)
    (z_list : PySem.W.nsIn K mainGlobals "list" = some none)
    (z_sorted : PySem.W.nsIn K mainGlobals "sorted" = some none)
    (z_max : PySem.W.nsIn K mainGlobals "max" = some none)
    (z_min : PySem.W.nsIn K mainGlobals "min" = some none)
    (z_abs : PySem.W.nsIn K mainGlobals "abs" = some none)
    (z_divmod : PySem.W.nsIn K mainGlobals "divmod" = some none)
    (z_range : PySem.W.nsIn K mainGlobals "range" = some none)
    (z_sum : PySem.W.nsIn K mainGlobals "sum" = some none) :
    ∃ fd : FuncData, (∀ (s : Shared) (v : Value), BindsTo s fd ⟨[v], []⟩ [("_law_script", v)]) ∧ ∀ base : Heap, K.In base → base.Ns mainGlobals mg → FnOk l.prog w K mg base CX0 10 fa fd ["_law_script"] (spLaw K) := by
  have e := hfa.symm.trans (PySem.W.mg_of X G ga16)
  cases e
  have Fa0 := fun_mk (st := sIsInteger) la0 ca0 ka0
  have ba0 := Fa0.binds (ps := ["value"]) fun _ _ _ _ _ _ us hl => match us, hl with | [_], _ => rfl
  have Fa1 := fun_mk (st := sIsNumber) la1 ca1 ka1
  have ba1 := Fa1.binds (ps := ["value", "modulus"]) fun _ _ _ _ _ _ us hl => match us, hl with | [_, _], _ => rfl
  have Fa2 := fun_mk (st := sIsName) la2 ca2 ka2
  have ba2 := Fa2.binds (ps := ["value"]) fun _ _ _ _ _ _ us hl => match us, hl with | [_], _ => rfl
  have Fa3 := fun_mk (st := sIsWorld) la3 ca3 ka3
  have ba3 := Fa3.binds (ps := ["value", "modulus"]) fun _ _ _ _ _ _ us hl => match us, hl with | [_, _], _ => rfl
  have Fa4 := fun_mk (st := sIsSum) la4 ca4 ka4
  have ba4 := Fa4.binds (ps := ["value", "modulus"]) fun _ _ _ _ _ _ us hl => match us, hl with | [_, _], _ => rfl
  have Fa5 := fun_mk (st := sWantModulus) la5 ca5 ka5
  have ba5 := Fa5.binds (ps := ["value"]) fun _ _ _ _ _ _ us hl => match us, hl with | [_], _ => rfl
  have Fa6 := fun_mk (st := sLRng) la6 ca6 ka6
  have ba6 := Fa6.binds (ps := ["_law_script", "_law_k"]) fun _ _ _ _ _ _ us hl => match us, hl with | [_, _], _ => rfl
  have Fa7 := fun_mk (st := sLDraw) la7 ca7 ka7
  have ba7 := Fa7.binds (ps := ["_law_rng_here", "_law_many"]) fun _ _ _ _ _ _ us hl => match us, hl with | [_, _], _ => rfl
  have Fa8 := fun_mk (st := sLSomeNames) la8 ca8 ka8
  have ba8 := Fa8.binds (ps := ["_law_rng_here", "_law_many"]) fun _ _ _ _ _ _ us hl => match us, hl with | [_, _], _ => rfl
  have Fa9 := fun_mk (st := sLDrawn) la9 ca9 ka9
  have ba9 := Fa9.binds (ps := ["_law_rng_here", "_law_names", "_law_q"]) fun _ _ _ _ _ _ us hl => match us, hl with | [_, _, _], _ => rfl
  have Fa10 := fun_mk (st := sLAdded) la10 ca10 ka10
  have ba10 := Fa10.binds (ps := ["_law_one", "_law_other", "_law_by", "_law_q"]) fun _ _ _ _ _ _ us hl => match us, hl with | [_, _, _, _], _ => rfl
  have Fa11 := fun_mk (st := sLReplaced) la11 ca11 ka11
  have ba11 := Fa11.binds (ps := ["_law_model", "_law_sums", "_law_q"]) fun _ _ _ _ _ _ us hl => match us, hl with | [_, _, _], _ => rfl
  have Fa12 := fun_mk (st := sLValue) la12 ca12 ka12
  have ba12 := Fa12.binds (ps := ["_law_model", "_law_world", "_law_q"]) fun _ _ _ _ _ _ us hl => match us, hl with | [_, _, _], _ => rfl
  have Fa13 := fun_mk (st := sLTells) la13 ca13 ka13
  have ba13 := Fa13.binds (ps := ["_law_one", "_law_model", "_law_q"]) fun _ _ _ _ _ _ us hl => match us, hl with | [_, _, _], _ => rfl
  have Fa14 := fun_mk (st := sLRight) la14 ca14 ka14
  have ba14 := Fa14.binds (ps := ["_law_rng_here"]) fun _ _ _ _ _ _ us hl => match us, hl with | [_], _ => rfl
  have Fa15 := fun_mk (st := sLValuesRight) la15 ca15 ka15
  have ba15 := Fa15.binds (ps := ["_law_rng_here", "_law_names", "_law_pairs", "_law_q"]) fun _ _ _ _ _ _ us hl => match us, hl with | [_, _, _, _], _ => rfl
  have Fa16 := fun_mk (st := sLaw) la16 ca16 ka16
  have ba16 := Fa16.binds (ps := ["_law_script"]) fun _ _ _ _ _ _ us hl => match us, hl with | [_], _ => rfl
  have Fp0 := fun_mk (st := sModulus) lp0 cp0 kp0
  have bp0 := Fp0.binds (ps := ["self"]) fun _ _ _ _ _ _ us hl => match us, hl with | [_], _ => rfl
  have Fp1 := fun_mk (st := sConstant) lp1 cp1 kp1
  have bp1 := Fp1.binds (ps := ["self"]) fun _ _ _ _ _ _ us hl => match us, hl with | [_], _ => rfl
  have Fp2 := fun_mk (st := sIsConstant) lp2 cp2 kp2
  have bp2 := Fp2.binds (ps := ["self"]) fun _ _ _ _ _ _ us hl => match us, hl with | [_], _ => rfl
  have Fm0 := fun_mk (st := sWeights) lm0 cm0 km0
  have bm0 := Fm0.binds (ps := ["self"]) fun _ _ _ _ _ _ us hl => match us, hl with | [_], _ => rfl
  have Fm1 := fun_mk (st := sNames) lm1 cm1 km1
  have bm1 := Fm1.binds (ps := ["self"]) fun _ _ _ _ _ _ us hl => match us, hl with | [_], _ => rfl
  have Fm2 := fun_mk (st := sWeight) lm2 cm2 km2
  have bm2 := Fm2.binds (ps := ["self", "name"]) fun _ _ _ _ _ _ us hl => match us, hl with | [_, _], _ => rfl
  have Fm3 := fun_mk (st := sWantAlike) lm3 cm3 km3
  have bm3 := Fm3.binds (ps := ["self", "other"]) fun _ _ _ _ _ _ us hl => match us, hl with | [_, _], _ => rfl
  have Fm4 := fun_mk (st := sAdd) lm4 cm4 km4
  have bm4 := Fm4.binds (ps := ["self", "other"]) fun _ _ _ _ _ _ us hl => match us, hl with | [_, _], _ => rfl
  have Fm5 := fun_mk (st := sNeg) lm5 cm5 km5
  have bm5 := Fm5.binds (ps := ["self"]) fun _ _ _ _ _ _ us hl => match us, hl with | [_], _ => rfl
  have Fm6 := fun_mk (st := sSub) lm6 cm6 km6
  have bm6 := Fm6.binds (ps := ["self", "other"]) fun _ _ _ _ _ _ us hl => match us, hl with | [_, _], _ => rfl
  have Fm7 := fun_mk (st := sMul) lm7 cm7 km7
  have bm7 := Fm7.binds (ps := ["self", "number"]) fun _ _ _ _ _ _ us hl => match us, hl with | [_, _], _ => rfl
  have Fm8 := fun_mk (st := sAt) lm8 cm8 km8
  have bm8 := Fm8.binds (ps := ["self", "world"]) fun _ _ _ _ _ _ us hl => match us, hl with | [_, _], _ => rfl
  have Fm9 := fun_mk (st := sPut) lm9 cm9 km9
  have bm9 := Fm9.binds (ps := ["self", "sums"]) fun _ _ _ _ _ _ us hl => match us, hl with | [_, _], _ => rfl
  have FI : FunD K "__init__" "Sum.__init__" (defArgs sInit) (defBody sInit) (defScope sInit) [.int 0] [] fI _ := ⟨⟨ocI, odI, .ref DI, kVI, dcI, pmI, anI, cdI, ctI, slI, rfl, lI, cI, .inr ⟨by simp, DI, oI, [Value.int 0 tI], nI, rfl, dI, eI, .cons ⟨tI, rfl⟩ .nil⟩, .inl rfl⟩, kI⟩
  have bI4 := FI.binds1 (ps := psInit) 4 1 (by simp) rfl fun _ _ _ _ _ _ _ us its hl hi => match us, its, hl, hi with | [_, _, _, _], [_], _, _ => ⟨_, rfl, rfl⟩
  have bI3 := FI.binds1 (ps := psInit) 3 0 (by simp) rfl fun _ _ _ _ _ _ _ us its hl hi => match us, its, hl, hi with | [_, _, _], [_], _, _ => ⟨_, rfl, rfl⟩
  obtain ⟨ds, hv, bI4⟩ := bI4
  cases hv
  have T : T4 K mg := {
    isInteger := ⟨fa0, _, Fa0, ba0⟩,
    gIsInteger := PySem.W.mg_of X G ga0,
    isNumber := ⟨fa1, _, Fa1, ba1⟩,
    gIsNumber := PySem.W.mg_of X G ga1,
    isName := ⟨fa2, _, Fa2, ba2⟩,
    gIsName := PySem.W.mg_of X G ga2,
    isWorld := ⟨fa3, _, Fa3, ba3⟩,
    gIsWorld := PySem.W.mg_of X G ga3,
    isSum := ⟨fa4, _, Fa4, ba4⟩,
    gIsSum := PySem.W.mg_of X G ga4,
    wantModulus := ⟨fa5, _, Fa5, ba5⟩,
    gWantModulus := PySem.W.mg_of X G ga5,
    rng := ⟨fa6, _, Fa6, ba6⟩,
    gRng := PySem.W.mg_of X G ga6,
    draw := ⟨fa7, _, Fa7, ba7⟩,
    gDraw := PySem.W.mg_of X G ga7,
    someNames := ⟨fa8, _, Fa8, ba8⟩,
    gSomeNames := PySem.W.mg_of X G ga8,
    drawn := ⟨fa9, _, Fa9, ba9⟩,
    gDrawn := PySem.W.mg_of X G ga9,
    added := ⟨fa10, _, Fa10, ba10⟩,
    gAdded := PySem.W.mg_of X G ga10,
    replaced := ⟨fa11, _, Fa11, ba11⟩,
    gReplaced := PySem.W.mg_of X G ga11,
    value := ⟨fa12, _, Fa12, ba12⟩,
    gValue := PySem.W.mg_of X G ga12,
    tells := ⟨fa13, _, Fa13, ba13⟩,
    gTells := PySem.W.mg_of X G ga13,
    right := ⟨fa14, _, Fa14, ba14⟩,
    gRight := PySem.W.mg_of X G ga14,
    valuesRight := ⟨fa15, _, Fa15, ba15⟩,
    gValuesRight := PySem.W.mg_of X G ga15,
    B := ⟨PySem.W.mg_none_of X G z_isinstance, PySem.W.mg_none_of X G z_int, PySem.W.mg_none_of X G z_bool, PySem.W.mg_none_of X G z_str, PySem.W.mg_none_of X G z_len, PySem.W.mg_none_of X G z_all, PySem.W.mg_none_of X G z_dict, PySem.W.mg_none_of X G z_list, PySem.W.mg_none_of X G z_sorted, PySem.W.mg_none_of X G z_max, PySem.W.mg_none_of X G z_min, PySem.W.mg_none_of X G z_abs, PySem.W.mg_none_of X G z_divmod, PySem.W.mg_none_of X G z_range, PySem.W.mg_none_of X G z_sum⟩,
    C := ⟨⟨_, PySem.W.mg_of X G letters⟩, ⟨_, PySem.W.mg_of X G signs⟩, ⟨_, PySem.W.mg_of X G longest⟩, am, PySem.W.mg_of X G mod1, fun H => .inr ⟨om, _, nm, mod2, mod3, mod4, by show 6 ≤ sizeLine; decide, .cons ⟨_, rfl⟩ (.cons ⟨_, rfl⟩ (.cons ⟨_, rfl⟩ (.cons ⟨_, rfl⟩ (.cons ⟨_, rfl⟩ (.cons ⟨_, rfl⟩ .nil)))))⟩⟩,
    S := S,
    gS := PySem.W.mg_of X G gS,
    cl := ⟨pg, hd, po, sa⟩,
    nM := nM,
    nW := nW,
    nC := nC,
    ha := q1,
    hn := q2,
    htk := q3,
    hm := q4,
    sf := sf,
    fI := fI,
    fdI := _,
    FI := FI,
    MI := ⟨mk, aI, iI, kc⟩,
    bI := bI4,
    bI0 := bI3,
    modulus := { f := fp0, fd := _, F := Fp0, b := bp0, p := op0, pr := ⟨app0, bpp0, tpp0, _, rpp0⟩ },
    constant := { f := fp1, fd := _, F := Fp1, b := bp1, p := op1, pr := ⟨app1, bpp1, tpp1, _, rpp1⟩ },
    isConstant := { f := fp2, fd := _, F := Fp2, b := bp2, p := op2, pr := ⟨app2, bpp2, tpp2, _, rpp2⟩ },
    weights := { f := fm0, fd := _, F := Fm0, b := bm0, m := ⟨amm0, imm0, km0⟩ },
    names := { f := fm1, fd := _, F := Fm1, b := bm1, m := ⟨amm1, imm1, km1⟩ },
    weight := { f := fm2, fd := _, F := Fm2, b := bm2, m := ⟨amm2, imm2, km2⟩ },
    wantAlike := { f := fm3, fd := _, F := Fm3, b := bm3, m := ⟨amm3, imm3, km3⟩ },
    add := { f := fm4, fd := _, F := Fm4, b := bm4, m := ⟨amm4, imm4, km4⟩ },
    neg := { f := fm5, fd := _, F := Fm5, b := bm5, m := ⟨amm5, imm5, km5⟩ },
    sub := { f := fm6, fd := _, F := Fm6, b := bm6, m := ⟨amm6, imm6, km6⟩ },
    mul := { f := fm7, fd := _, F := Fm7, b := bm7, m := ⟨amm7, imm7, km7⟩ },
    at_ := { f := fm8, fd := _, F := Fm8, b := bm8, m := ⟨amm8, imm8, km8⟩ },
    put := { f := fm9, fd := _, F := Fm9, b := bm9, m := ⟨amm9, imm9, km9⟩ },
    rmul := rmul,
    imul := ⟨fo, imul⟩,
    irmul := ⟨ro, irmul⟩,
    isub := isub }
  exact ⟨_, fun s v => .of_eq rfl, fun base _ _ => ok_law T ⟨fa, _, Fa16, ba16⟩⟩
theorem walk {l : PySem.W.OpenLaw} {q : Program} {loose : List Str} {XP : (Str → Option Value) → Heap → Prop} {YP : World → Heap → Prop} {d : DefRec} {K : Params → PySem.W.Frag} (hn : l.most = some 63) (hdf : d.params.defaults = [])
    (hY : ∀ (w : World) (h : Heap), YP w h → (K w.params).In h)
    (F : ∀ (w : World) (mg : Str → Option Value) (fa : Addr) (h : Heap), (K w.params).In h → h.Ns mainGlobals mg → mg d.name = some (.ref fa) →
      ∃ fd : FuncData, (∀ (s : Shared) (u : Value), BindsTo s fd ⟨[u], []⟩ [("_law_script", u)]) ∧ ∀ base : Heap, (K w.params).In base → base.Ns mainGlobals mg → FnOk l.prog w (K w.params) mg base CX0 10 fa fd ["_law_script"] (spLaw (K w.params))) :
    PySem.W.WalkO q loose XP YP l.row.toRowW d [] (fun f vs => PySem.call f vs) :=
  L2.walk_of (n := 63) (k := 10) (x := "_law_script") (CX := fun _ => CX0) (sp := fun w => spLaw (K w.params)) hn (by decide) hdf ⟨rfl, by decide, by decide⟩ hY F (fun _ _ a ns hl _ hS => ⟨a, ns, rfl, hS, hl, fun _ => rfl⟩) fun _ _ _ _ _ z => z
end Q
set_option Elab.async false
set_option maxRecDepth 100000
open PySem PySem.W PyProof.Rows
set_option maxRecDepth 100000 in
set_option maxHeartbeats 0 in
theorem PySem.Challenge.cw_quietsums_k11_sums_by_numbers_holds : PySem.Challenge.rw_quietsums_k11_sums_by_numbers.Holds := by
  w_on; o_law; k_head; (case hw => w_witness2)
  k_fill
  refine Q.walk (l := PySem.Challenge.rw_quietsums_k11_sums_by_numbers) rfl rfl (fun w h Y => PySem.W.kIn_of Y) ?F
  case F =>
    intro w mg fa h KX G hmg
    refine' Q.all_mk KX G hmg ?x_ga0 ?x_la0 ?x_ca0 ?x_ka0 ?x_ga1 ?x_la1 ?x_ca1 ?x_ka1 ?x_ga2 ?x_la2 ?x_ca2 ?x_ka2 ?x_ga3 ?x_la3 ?x_ca3 ?x_ka3 ?x_ga4 ?x_la4 ?x_ca4 ?x_ka4 ?x_ga5 ?x_la5 ?x_ca5 ?x_ka5 ?x_ga6 ?x_la6 ?x_ca6 ?x_ka6 ?x_ga7 ?x_la7 ?x_ca7 ?x_ka7 ?x_ga8 ?x_la8 ?x_ca8 ?x_ka8 ?x_ga9 ?x_la9 ?x_ca9 ?x_ka9 ?x_ga10 ?x_la10 ?x_ca10 ?x_ka10 ?x_ga11 ?x_la11 ?x_ca11 ?x_ka11 ?x_ga12 ?x_la12 ?x_ca12 ?x_ka12 ?x_ga13 ?x_la13 ?x_ca13 ?x_ka13 ?x_ga14 ?x_la14 ?x_ca14 ?x_ka14 ?x_ga15 ?x_la15 ?x_ca15 ?x_ka15 ?x_ga16 ?x_la16 ?x_ca16 ?x_ka16 ?x_gS ?x_pg ?x_hd ?x_po ?x_sa ?x_mk ?x_kc ?x_nM ?x_nW ?x_nC ?x_q1 ?x_q2 ?x_q3 ?x_q4 ?x_sf ?x_aI ?x_iI ?x_lI ?x_cI ?x_kI ?x_dI ?x_eI ?x_app0 ?x_bpp0 ?x_tpp0 ?x_rpp0 ?x_lp0 ?x_cp0 ?x_kp0 ?x_app1 ?x_bpp1 ?x_tpp1 ?x_rpp1 ?x_lp1 ?x_cp1 ?x_kp1 ?x_app2 ?x_bpp2 ?x_tpp2 ?x_rpp2 ?x_lp2 ?x_cp2 ?x_kp2 ?x_amm0 ?x_imm0 ?x_lm0 ?x_cm0 ?x_km0 ?x_amm1 ?x_imm1 ?x_lm1 ?x_cm1 ?x_km1 ?x_amm2 ?x_imm2 ?x_lm2 ?x_cm2 ?x_km2 ?x_amm3 ?x_imm3 ?x_lm3 ?x_cm3 ?x_km3 ?x_amm4 ?x_imm4 ?x_lm4 ?x_cm4 ?x_km4 ?x_amm5 ?x_imm5 ?x_lm5 ?x_cm5 ?x_km5 ?x_amm6 ?x_imm6 ?x_lm6 ?x_cm6 ?x_km6 ?x_amm7 ?x_imm7 ?x_lm7 ?x_cm7 ?x_km7 ?x_amm8 ?x_imm8 ?x_lm8 ?x_cm8 ?x_km8 ?x_amm9 ?x_imm9 ?x_lm9 ?x_cm9 ?x_km9 ?x_rmul ?x_imul ?x_irmul ?x_isub ?x_letters ?x_signs ?x_longest ?x_mod1 ?x_mod2 ?x_mod3 ?x_mod4 ?x_z_isinstance ?x_z_int ?x_z_bool ?x_z_str ?x_z_len ?x_z_all ?x_z_dict ?x_z_list ?x_z_sorted ?x_z_max ?x_z_min ?x_z_abs ?x_z_divmod ?x_z_range ?x_z_sum
    (case x_ga0 => k_is)
    (case x_la0 => k_is)
    (case x_ca0 => k_is)
    (case x_ka0 => k_is)
    (case x_ga1 => k_is)
    (case x_la1 => k_is)
    (case x_ca1 => k_is)
    (case x_ka1 => k_is)
    (case x_ga2 => k_is)
    (case x_la2 => k_is)
    (case x_ca2 => k_is)
    (case x_ka2 => k_is)
    (case x_ga3 => k_is)
    (case x_la3 => k_is)
    (case x_ca3 => k_is)
    (case x_ka3 => k_is)
    (case x_ga4 => k_is)
    (case x_la4 => k_is)
    (case x_ca4 => k_is)
    (case x_ka4 => k_is)
    (case x_ga5 => k_is)
    (case x_la5 => k_is)
    (case x_ca5 => k_is)
    (case x_ka5 => k_is)
    (case x_ga6 => k_is)
    (case x_la6 => k_is)
    (case x_ca6 => k_is)
    (case x_ka6 => k_is)
    (case x_ga7 => k_is)
    (case x_la7 => k_is)
    (case x_ca7 => k_is)
    (case x_ka7 => k_is)
    (case x_ga8 => k_is)
    (case x_la8 => k_is)
    (case x_ca8 => k_is)
    (case x_ka8 => k_is)
    (case x_ga9 => k_is)
    (case x_la9 => k_is)
    (case x_ca9 => k_is)
    (case x_ka9 => k_is)
    (case x_ga10 => k_is)
    (case x_la10 => k_is)
    (case x_ca10 => k_is)
    (case x_ka10 => k_is)
    (case x_ga11 => k_is)
    (case x_la11 => k_is)
    (case x_ca11 => k_is)
    (case x_ka11 => k_is)
    (case x_ga12 => k_is)
    (case x_la12 => k_is)
    (case x_ca12 => k_is)
    (case x_ka12 => k_is)
    (case x_ga13 => k_is)
    (case x_la13 => k_is)
    (case x_ca13 => k_is)
    (case x_ka13 => k_is)
    (case x_ga14 => k_is)
    (case x_la14 => k_is)
    (case x_ca14 => k_is)
    (case x_ka14 => k_is)
    (case x_ga15 => k_is)
    (case x_la15 => k_is)
    (case x_ca15 => k_is)
    (case x_ka15 => k_is)
    (case x_ga16 => k_is)
    (case x_la16 => k_is)
    (case x_ca16 => k_is)
    (case x_ka16 => k_is)
    (case x_gS => k_is)
    (case x_pg => k_is)
    (case x_hd => k_is)
    (case x_po => k_is)
    (case x_sa => k_is)
    (case x_mk => k_is)
    (case x_kc => k_is)
    (case x_nM => k_is)
    (case x_nW => k_is)
    (case x_nC => k_is)
    (case x_q1 => k_is)
    (case x_q2 => k_is)
    (case x_q3 => k_is)
    (case x_q4 => k_is)
    (case x_sf => k_is)
    (case x_aI => k_is)
    (case x_iI => k_is)
    (case x_lI => k_is)
    (case x_cI => k_is)
    (case x_kI => k_is)
    (case x_dI => k_is)
    (case x_eI => rfl)
    (case x_app0 => k_is)
    (case x_bpp0 => k_is)
    (case x_tpp0 => k_is)
    (case x_rpp0 => k_is)
    (case x_lp0 => k_is)
    (case x_cp0 => k_is)
    (case x_kp0 => k_is)
    (case x_app1 => k_is)
    (case x_bpp1 => k_is)
    (case x_tpp1 => k_is)
    (case x_rpp1 => k_is)
    (case x_lp1 => k_is)
    (case x_cp1 => k_is)
    (case x_kp1 => k_is)
    (case x_app2 => k_is)
    (case x_bpp2 => k_is)
    (case x_tpp2 => k_is)
    (case x_rpp2 => k_is)
    (case x_lp2 => k_is)
    (case x_cp2 => k_is)
    (case x_kp2 => k_is)
    (case x_amm0 => k_is)
    (case x_imm0 => k_is)
    (case x_lm0 => k_is)
    (case x_cm0 => k_is)
    (case x_km0 => k_is)
    (case x_amm1 => k_is)
    (case x_imm1 => k_is)
    (case x_lm1 => k_is)
    (case x_cm1 => k_is)
    (case x_km1 => k_is)
    (case x_amm2 => k_is)
    (case x_imm2 => k_is)
    (case x_lm2 => k_is)
    (case x_cm2 => k_is)
    (case x_km2 => k_is)
    (case x_amm3 => k_is)
    (case x_imm3 => k_is)
    (case x_lm3 => k_is)
    (case x_cm3 => k_is)
    (case x_km3 => k_is)
    (case x_amm4 => k_is)
    (case x_imm4 => k_is)
    (case x_lm4 => k_is)
    (case x_cm4 => k_is)
    (case x_km4 => k_is)
    (case x_amm5 => k_is)
    (case x_imm5 => k_is)
    (case x_lm5 => k_is)
    (case x_cm5 => k_is)
    (case x_km5 => k_is)
    (case x_amm6 => k_is)
    (case x_imm6 => k_is)
    (case x_lm6 => k_is)
    (case x_cm6 => k_is)
    (case x_km6 => k_is)
    (case x_amm7 => k_is)
    (case x_imm7 => k_is)
    (case x_lm7 => k_is)
    (case x_cm7 => k_is)
    (case x_km7 => k_is)
    (case x_amm8 => k_is)
    (case x_imm8 => k_is)
    (case x_lm8 => k_is)
    (case x_cm8 => k_is)
    (case x_km8 => k_is)
    (case x_amm9 => k_is)
    (case x_imm9 => k_is)
    (case x_lm9 => k_is)
    (case x_cm9 => k_is)
    (case x_km9 => k_is)
    (case x_rmul => k_is)
    (case x_imul => k_is)
    (case x_irmul => k_is)
    (case x_isub => k_is)
    (case x_letters => k_is)
    (case x_signs => k_is)
    (case x_longest => k_is)
    (case x_mod1 => k_is)
    (case x_mod2 => k_is)
    (case x_mod3 => rfl)
    (case x_mod4 => rfl)
    (case x_z_isinstance => k_is)
    (case x_z_int => k_is)
    (case x_z_bool => k_is)
    (case x_z_str => k_is)
    (case x_z_len => k_is)
    (case x_z_all => k_is)
    (case x_z_dict => k_is)
    (case x_z_list => k_is)
    (case x_z_sorted => k_is)
    (case x_z_max => k_is)
    (case x_z_min => k_is)
    (case x_z_abs => k_is)
    (case x_z_divmod => k_is)
    (case x_z_range => k_is)
    (case x_z_sum => k_is)
