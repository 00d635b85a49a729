import PyProof.Rows.All
import Wide.All
import OpenK.AllK
import Wide.FinOn
import HandS.ForMost
import HandS.Property
import HandS.IsInst
import HandS.DictComp
import HandS.ListItems
import HandS.DictTup
import HandS.Finally
import HandS.Style
import HandS.WideBits
import HandS.Defaults
import KE.KOpsOwn
import KE.SortData
import HandS.Walk
import HandS.ExcInit
import HandS.ExcField
import HandS.ClsMeth
import HandS.TryElse
import HandS.FStr
import HandS.Replace
import KE.KCallOwn
import PyProof.ListStr
import PyProof.StrReplace2
import HandS.ReplaceLit
import PyProof.NeKinds
import HandS.DictEq
import HandS.DeepEq
import KE.KEqNest
import PyProof.Rows.StrCase
import HandS.ReplaceList
import PySem.Challenge.RW_quietsums_k12_texts_of_sums
import HandS.WordsExc
import HandS.ExcIs
set_option Elab.async false
set_option maxRecDepth 100000
set_option maxHeartbeats 4000000
namespace QR
open PySem PySem.Spec PyProof.Rows L2
section
variable {X : Cx} {CX : CXT} {n : Nat} {C f : Addr} {fd : FuncData} {ps : List Str} {sp : Sp} {E : XK}

theorem cmpback_of {Q : Value → Shared → Prop} {u : Value} {s : Shared} (h : u ≠ .notImplemented) (q : Q u s) : PySem.W.CmpBack Q u s := by
  unfold PySem.W.CmpBack
  cases u <;> first | exact q | exact absurd rfl h
theorem relv_ni {v : V} {u : Value} (r : RelV v u) : u ≠ .notImplemented := by
  intro e
  subst e
  cases v <;> first | (obtain ⟨t, z⟩ := r; cases z) | cases r

/-- a + b, a - b of two instances of one class with the operator's own def -/
def rOwn2 (C : Addr) (sp : Sp) (E : XK) : R2 := fun x y H Q => ∃ a b dx dy fs gs, x = .ref a ∧ y = .ref b ∧ H a = some (.ins C dx fs) ∧ H b = some (.ins C dy gs) ∧ sp [.ref a, .ref b] H Q E
theorem op_own2 {op : Operator} (F : FnOk X.prog X.w X.K X.mg X.base CX n f fd ps sp) (hr : Room n X.A) (hsf : PySem.W.selfFirst X.K C = true)
    (hs : PySem.W.findIn X.K (.ref C) (PySem.dunder op.info.2) = some (some (.ref f))) (hf : PySem.W.isFn X.K (.ref f) = true) (hb : Binds X.K fd ps []) (hx : Passes CX X E) :
    OpR X (binaryOp op) (rOwn2 C sp E) := by
  intro pins s σ H x y v u Q I rx ry h
  obtain ⟨a, b, dx, dy, fs, gs, rfl, rfl, ha, hb', q⟩ := h
  cases rx
  cases ry
  obtain ⟨mA, J, _⟩ := ins_get I.hok ha
  obtain ⟨mB, J', _⟩ := ins_get I.hok hb'
  obtain ⟨od, J, _⟩ := J.look
  obtain ⟨od', J', _⟩ := J'.look
  obtain ⟨m, hF⟩ := I.fr
  refine PySem.W.binop_K hF I.ok.mod.kin J J'.type hsf hs hf ?_
  refine wpAny_mono (run_fn (dvs := []) (ds := []) F hr hb .nil hx I (vs := [.ref a, .ref b]) (us := [.ref a, .ref b]) (.cons rfl (.cons rfl .nil)) q) (fun w s' z => ?_) fun _ _ z => z
  obtain ⟨v', H', I', rv, q'⟩ := z
  exact cmpback_of (relv_ni rv) ⟨v', H', I', rv, q'⟩

/-- a * n: an instance with an int -/
def rOwnI (C : Addr) (sp : Sp) (E : XK) : R2 := fun x y H Q => ∃ a dx fs i, x = .ref a ∧ y = .int i ∧ H a = some (.ins C dx fs) ∧ sp [.ref a, .int i] H Q E
theorem op_ownI {op : Operator} {rc fo ro : Option Value} (F : FnOk X.prog X.w X.K X.mg X.base CX n f fd ps sp) (hr : Room n X.A) (hsf : PySem.W.selfFirst X.K C = true)
    (hs : PySem.W.findIn X.K (.ref C) (PySem.dunder op.info.2) = some (some (.ref f))) (hf : PySem.W.isFn X.K (.ref f) = true)
    (hrr : PySem.W.findIn X.K (.ref C) (dunderR op.info.2) = some rc) (hp : rc = none ∨ ∃ g : Addr, rc = some (.ref g))
    (h1 : PySem.W.findIn X.K (.type "int") (PySem.dunder op.info.2) = some fo) (h2 : PySem.W.findIn X.K (.type "int") (dunderR op.info.2) = some ro) (hsub : PySem.W.subIn X.K (.type "int") (.ref C) = some false)
    (hb : Binds X.K fd ps []) (hx : Passes CX X E) :
    OpR X (binaryOp op) (rOwnI C sp E) := by
  intro pins s σ H x y v u Q I rx ry h
  obtain ⟨a, dx, fs, i, rfl, rfl, ha, q⟩ := h
  cases rx
  obtain ⟨t, rfl⟩ := ry
  obtain ⟨mA, J, _⟩ := ins_get I.hok ha
  obtain ⟨od, J, _⟩ := J.look
  obtain ⟨m, hF⟩ := I.fr
  refine PySem.W.ksp_binT hF I.ok.mod.kin J (T := "int") rfl hsf hs hf hrr hp h1 h2 hsub ?_
  refine wpAny_mono (run_fn (dvs := []) (ds := []) F hr hb .nil hx I (vs := [.ref a, .int i]) (us := [.ref a, .int i t]) (.cons rfl (.cons ⟨t, rfl⟩ .nil)) q) (fun w s' z => ?_) fun _ _ z => z
  obtain ⟨v', H', I', rv, q'⟩ := z
  exact cmpback_of (relv_ni rv) ⟨v', H', I', rv, q'⟩

/-- -a -/
def rOwnN (C : Addr) (sp : Sp) (E : XK) : V → Hp → VK → Prop := fun x H Q => ∃ a dx fs, x = .ref a ∧ H a = some (.ins C dx fs) ∧ sp [.ref a] H Q E
theorem un_own (F : FnOk X.prog X.w X.K X.mg X.base CX n f fd ps sp) (hr : Room n X.A)
    (hs : PySem.W.findIn X.K (.ref C) "__neg__" = some (some (.ref f))) (hf : PySem.W.isFn X.K (.ref f) = true) (hb : Binds X.K fd ps []) (hx : Passes CX X E) :
    UnR X (unaryOp .USub) (rOwnN C sp E) := by
  intro pins s σ H x v Q I rx h
  obtain ⟨a, dx, fs, rfl, ha, q⟩ := h
  cases rx
  obtain ⟨mA, J, _⟩ := ins_get I.hok ha
  obtain ⟨od, J, _⟩ := J.look
  obtain ⟨m, hF⟩ := I.fr
  refine PySem.W.ksp_neg hF I.ok.mod.kin J hs hf ?_
  exact run_fn (dvs := []) (ds := []) F hr hb .nil hx I (vs := [.ref a]) (us := [.ref a]) (.cons rfl .nil) q

/-- the value of e, a thing that may be written, is locked from now on -/
def tFrz (te : TE) : TE := fun σ H Q => te σ H fun x H1 => ∃ d u, x = .ref d ∧ H1 d = some u ∧ Mut (some u) ∧ ∀ od, Q x (upd H1 d (.frz od u))
theorem pe_frz {e : Expr} {te : TE} (he : PE X e te) : PE X e (tFrz te) := by
  refine ⟨fun pins s σ H Q I h => ?_⟩
  refine thn (he.run pins s σ H _ I h) fun u s1 ⟨x, H1, I1, rx, d, o, ex, hd, mu, q⟩ => ?_
  obtain ⟨od, I2⟩ := I1.lock hd mu
  exact ⟨x, _, I2, rx, q od⟩

/-- two dicts of ints and texts compared: equal if they have the same pairs, unlike if their sizes differ -/
def rEqDL : R2 := fun x y H Q => ∃ a b ks ls, x = .ref a ∧ y = .ref b ∧ H a = some (.dK ks) ∧ H b = some (.dK ls) ∧ (ks.length = ls.length → ∀ p ∈ ks, valV ls p.1 = some p.2 ∧ flatB p.2 = true) ∧ Q (.bl (decide (ks.length = ls.length))) H
theorem op_eqDL (hu : X.A.units < cLine) : OpR X (compareOp .Eq) rEqDL := by
  intro pins s σ H x y v u Q I rx ry h
  obtain ⟨a, b, ks, ls, rfl, rfl, ea, eb, hp, q⟩ := h
  obtain rfl : v = Value.ref a := rx
  obtain rfl : u = Value.ref b := ry
  obtain ⟨_, ya, va, ra, da⟩ := (show ObjOk X.prog X.w H s.heap a (.dK ks) from I.hok a _ ea)
  obtain ⟨_, yb, vb, rb, db⟩ := (show ObjOk X.prog X.w H s.heap b (.dK ls) from I.hok b _ eb)
  have l1 : ks.length = va.length := ra.length
  have l2 : ls.length = vb.length := rb.length
  have e : (va.length == vb.length && true) = decide (ks.length = ls.length) := by
    rw [Bool.and_true, l1, l2]
    by_cases h : va.length = vb.length
    · rw [h]; simp
    · rw [decide_eq_false h]; simpa using h
  exact PySem.W.keq_eq (knd := mixKind X.prog X.w) (r := true) ya yb da db hu (fun hl => hits_all rb ra (hp (by omega))) (fin_bl I q e.symm)
end
end QR
set_option Elab.async false
set_option maxRecDepth 100000
set_option maxHeartbeats 4000000
namespace QR
open PySem PySem.Spec PyProof.Rows L2
/-- a dict from texts to ints, as pairs of the layer -/
def dk (ws : List (Str × Int)) : List (Key × V) := ws.map fun p => (Sum.inr p.1, V.int p.2)
def stLe (x y : Str) : Prop := x.cps.toList ≤ y.cps.toList
section
variable {X : Cx}
/-- d.items() as a value, d with int and text keys -/
def rItemsK : V → List V → Hp → VK → Prop := fun x xs H Q => ∃ (a : Addr) (kvs : List (Key × V)), x = .ref a ∧ xs = [] ∧ H a = some (.dK kvs) ∧ ∀ p, H p = none → Q (.ref p) (upd H p (DX.itemsO p a))
theorem mt_itemsK : MtR X "dict.items" rItemsK := by
  intro pins s σ H x xs v us Q I rx rxs h
  obtain ⟨a, kvs, rfl, rfl, ha, q⟩ := h
  cases rx
  cases rxs
  obtain ⟨hz, hd, vs, kv, o, es, ep, ho, hx, hdat, _⟩ := I.hok a _ ha
  refine DT.callItems (es := es) (ep := ep) hd ⟨o, ho, hx, hdat⟩ ?_
  have hf : H s.heap.objs.size = none := I.hok.fresh (Nat.le_refl _)
  exact ⟨.ref s.heap.objs.size, upd H s.heap.objs.size (DX.itemsO s.heap.objs.size a), I.laid (t' := s.toks) (fun b u e => Heap.get?_push_of_some _ e) (Nat.le_refl _) (DX.itemsO_ok (Heap.get?_push_size _ rfl)), rfl, q _ hf⟩
/-- sorted(view) of such a dict, texts to ints -/
def rSortItK : List V → Hp → VK → Prop := fun vs H Q => ∃ (p a : Addr) (ws : List (Str × Int)), vs = [.ref p] ∧ H p = some (DX.itemsO p a) ∧ H a = some (.dK (dk ws)) ∧
  ∀ (H' : Hp) (l : Addr) (zs : List (Addr × Str × Int)), (∀ b o, H b = some o → H' b = some o) → (zs.map (·.2)).Perm ws → (zs.map (·.2)).Pairwise (fun e f => stLe e.1 f.1) → H l = none → H' l = some (.lst (zs.map fun z => V.ref z.1)) →
    (∀ z ∈ zs, H' z.1 = some (.tup [.str z.2.1, .int z.2.2])) → Q (.ref l) H'
abbrev enc1 (z : Addr × Str × Int) : PyData := .tuple [.str z.2.1, .int z.2.2]
theorem enc1_le {x y : Addr × Str × Int} (h : PySem.W.dataLe false enc1 x y = true) : stLe x.2.1 y.2.1 := by
  have e : (!PySem.W.dataLt (enc1 y) (enc1 x)) = true := h
  rw [PySem.W.dataLt_pair (by simp [PySem.W.alike]) (by simp [PySem.W.alike])] at e
  unfold stLe
  by_cases q : PyData.eqv (.str y.2.1) (.str x.2.1) = true
  · have q' : y.2.1 = x.2.1 := by simpa [PyData.eqv] using q
    rw [q']
    exact List.le_refl _
  · rw [if_neg q, PySem.W.dataLt_str] at e
    have e2 : ¬ (y.2.1.cps.toList < x.2.1.cps.toList) := by simpa using e
    exact List.not_lt.mp e2
theorem zs_each {as : List Addr} : ∀ {ws : List (Str × Int)}, as.length = ws.length → PySem.W.EachIs (fun v (b : Addr × Str × Int) => v = Value.ref b.1) (as.map Value.ref) (as.zip ws) := by
  induction as with
  | nil => intro ws _; exact .nil
  | cons a as ih =>
    intro ws h
    cases ws with
    | nil => cases h
    | cons w ws => exact .cons rfl (ih (Nat.succ.inj h))
theorem each_get {α β : Type} {R : α → β → Prop} {S : α → β → Prop} : ∀ {as : List α} {bs : List β}, PySem.W.EachIs R as bs → (∀ (j : Nat) a b, as[j]? = some a → bs[j]? = some b → R a b → S a b) → PySem.W.EachIs S as bs
  | _, _, .nil, _ => .nil
  | _, _, .cons r t, h => .cons (h 0 _ _ rfl rfl r) (each_get t fun j a b ha hb => h (j + 1) a b ha hb)
theorem each_map {R : Value → Addr × Str × Int → Prop} (hR : ∀ v b, R v b → v = Value.ref b.1) : ∀ {as : List Value} {bs : List (Addr × Str × Int)}, PySem.W.EachIs R as bs → as = bs.map fun b => Value.ref b.1
  | _, _, .nil => rfl
  | _, _, .cons r t => by
    rw [List.map_cons, ← each_map hR t, hR _ _ r]
theorem pairs_get {P : Program} {w : World} : ∀ {es : List DictEntry} {kvs : List (Key × Value)}, Pairs (mixKind P w) es kvs → ∀ {j : Nat} {e : DictEntry}, es[j]? = some e → ∃ kv : Key × Value, kvs[j]? = some kv ∧ keyIs kv.1 e.key = true ∧ e.val = kv.2
  | _, _, .nil, j, e, h => by simp at h
  | _, _, .cons h1 h2 t, 0, e, h => by
    have q := Option.some.inj h
    subst q
    exact ⟨_, rfl, h1, h2⟩
  | _, _, .cons h1 h2 t, j + 1, e, h => pairs_get t h
theorem cr_sortItK (hc : X.calm = true) (hu : X.A.units + 64 < cLine) : CallR X (.builtin "sorted") rSortItK := by
  intro pins s σ H xs us Q I r h
  obtain ⟨p, a, ws, rfl, hp, ha, q⟩ := h
  obtain rfl := Vals.ref1 r
  have view : s.heap.IsItemsView p a := (show ObjOk X.prog X.w H s.heap p (DX.itemsO p a) from I.hok p _ hp).1
  obtain ⟨hz, hd, vs, kv, o, es, ep, ho, hx, hdat, hks, hpr, hnd⟩ := I.hok a _ ha
  have l1 : (dk ws).length = vs.length := Paired.length kv
  have l1' : (dk ws).length = ws.length := by unfold dk; rw [List.length_map]
  have l2 : es.toList.length = vs.length := hpr.length
  have l2' : es.size = vs.length := by rw [← l2]; simp
  have hh : X.A.handled = none := I.ok.hd hc
  refine DT.sortedI (es := es) (ep := ep) hh view ⟨o, ho, hx, hdat⟩ (by omega) fun h' tk as hk hlt hl hG => ?_
  have lak : as.length = ws.length := by omega
  have nd : as.Nodup := List.Pairwise.imp (fun h => Nat.ne_of_lt h) hG.rise
  -- the pairs that were made
  have pr : ∀ (j : Nat) (b : Addr) (e : Str × Int), as[j]? = some b → ws[j]? = some e → ∃ t u, h'.get? b = some { cls := .type "tuple", data := .seq #[Value.str e.1 t, Value.int e.2 u] } := by
    intro j b e hj he
    obtain ⟨en, h1, h2⟩ := hG.pairs j b hj
    have h1' : es.toList[j]? = some en := by rw [Array.getElem?_toList]; exact h1
    obtain ⟨kv1, g1, g2, g3⟩ := pairs_get hpr h1'
    have g0 : (dk ws)[j]? = some (Sum.inr e.1, V.int e.2) := by unfold dk; rw [List.getElem?_map, he]; rfl
    obtain ⟨y, f1, f2, f3⟩ := LiI.paired_get kv g0
    rw [g1] at f1
    cases f1
    rw [← f2] at g2
    obtain ⟨t, et⟩ := relV_key g2
    obtain ⟨u, eu⟩ := f3
    rw [g3, eu, et] at h2
    exact ⟨t, u, h2⟩
  have hob : (h'.push { cls := .type "list", data := .seq (as.map Value.ref).toArray }).get? h'.objs.size = some (seqObj "list" (as.map Value.ref).toArray 0) := Heap.get?_push_size _ rfl
  have kb : ∀ b o, s.heap.get? b = some o → (h'.push { cls := .type "list", data := .seq (as.map Value.ref).toArray }).get? b = some o := fun b o e => Heap.get?_push_of_some _ (hk b o e)
  have ne0 : ∀ b o, h'.get? b = some o → b ≠ h'.objs.size := fun b o e => Nat.ne_of_lt (Heap.lt_size e)
  generalize hh2 : h'.push { cls := .type "list", data := .seq (as.map Value.ref).toArray } = h2 at hob kb ⊢
  have ka : ∀ b o, h'.get? b = some o → h2.get? b = some o := fun b o e => by rw [← hh2]; exact Heap.get?_push_of_some _ e
  have each := zs_each lak
  refine PySem.W.list_sort_data (s := { s with heap := h2, toks := tk }) (vs := as.map Value.ref) (bs := as.zip ws) (enc := enc1) hob each ?_ ?_ ?_ ?_ ?_ ?_
  · refine each_get each fun j v b hj hb e => ?_
    obtain ⟨h3, h4⟩ := List.getElem?_zip_eq_some.mp hb
    obtain ⟨t, u, g⟩ := pr j b.1 b.2 h3 h4
    subst e
    refine ⟨[], .tuple (ka _ _ g) rfl rfl ?_, by simp⟩
    exact .cons (.str _ _) (.cons (.int _ _) .nil)
  · exact PySem.W.AllAlike.of fun b b' => by simp [PySem.W.alike, PySem.W.alikeAll]
  · exact PySem.W.Sortable.tuples fun b => ⟨_, _, rfl⟩
  · rw [List.length_zip, lak, Nat.min_self]; omega
  · intro b _
    show X.A.units + 1 + 1 + (enc1 b).depth < cLine
    have : (enc1 b).depth ≤ 2 := by simp [enc1, PyData.depth, PyData.depthAll]
    omega
  · intro out hlen hout
    show EP X pins σ Q (.ref h'.objs.size) { s with heap := sortedHeap h2 h'.objs.size (as.map Value.ref) out.toArray, toks := tk }
    generalize hzs : (as.zip ws).mergeSort (PySem.W.dataLe false enc1) = zs at hout
    have pz : zs.Perm (as.zip ws) := by rw [← hzs]; exact List.mergeSort_perm _ _
    have idx : ∀ z ∈ zs, ∃ j : Nat, as[j]? = some z.1 ∧ ws[j]? = some z.2 := by
      intro z' hz'
      obtain ⟨j, hj⟩ := List.mem_iff_getElem?.mp (pz.mem_iff.mp hz')
      exact ⟨j, List.getElem?_zip_eq_some.mp hj⟩
    have hout' : out = zs.map fun z => Value.ref z.1 := each_map (fun _ _ e => e) hout
    have hperm : (zs.map (·.2)).Perm ws := by
      have e := pz.map (·.2)
      have m2 : (as.zip ws).map (·.2) = ws := List.map_snd_zip (by rw [lak]; exact Nat.le_refl _)
      rw [m2] at e
      exact e
    have hsort : (zs.map (·.2)).Pairwise (fun e f => stLe e.1 f.1) := by
      have o3 := PySem.W.sort_pairwise (le := PySem.W.dataLe false enc1) (PySem.W.sortLe_total _ _ _) (as.zip ws)
      rw [hzs] at o3
      rw [List.pairwise_map]
      exact List.Pairwise.imp (fun {x y} h => enc1_le h) o3
    have kF : ∀ b o, b ≠ h'.objs.size → h2.get? b = some o → (sortedHeap h2 h'.objs.size (as.map Value.ref) out.toArray).get? b = some o := fun b o hb e => (PyProof.Rows.sortedHeap_old hb (Heap.lt_size e)).trans e
    have kS : ∀ b o, s.heap.get? b = some o → (sortedHeap h2 h'.objs.size (as.map Value.ref) out.toArray).get? b = some o := fun b o e => kF b o (ne0 _ _ (hk b o e)) (kb b o e)
    obtain ⟨eF, heF⟩ := PyProof.Rows.sortedHeap_at (vs := as.map Value.ref) (out := out.toArray) hob
    have I1 : Inv X pins σ H { s with heap := sortedHeap h2 h'.objs.size (as.map Value.ref) out.toArray, toks := tk } := I.kept (t' := tk) kS
    have hn0 : H h'.objs.size = none := I.hok.fresh (Nat.le_of_lt hlt)
    have hlz : zs.length = ws.length := by have e := hperm.length_eq; rw [List.length_map] at e; exact e
    have hlen : (zs.map fun z => V.ref z.1).length ≤ sizeLine := by rw [List.length_map]; omega
    have rv : Vals (zs.map fun z => V.ref z.1) out := by
      rw [hout']
      exact vals_maps (fun z : Addr × Str × Int => V.ref z.1) (fun z => Value.ref z.1) zs fun _ _ => rfl
    have I2 : Inv X pins σ (upd H h'.objs.size (.lst (zs.map fun z => V.ref z.1))) { s with heap := sortedHeap h2 h'.objs.size (as.map Value.ref) out.toArray, toks := tk } :=
      I1.take (h' := sortedHeap h2 h'.objs.size (as.map Value.ref) out.toArray) (t' := tk) (fun b ob _ e => e) (I.fpOk (Nat.le_of_lt hlt) hn0) ⟨hlen, out, eF, rv, heF⟩
    obtain ⟨H2, I3, g, qt⟩ := DX.takeT (P := fun b vs => ∃ (j : Nat) (e : Str × Int), as[j]? = some b ∧ ws[j]? = some e ∧ vs = [V.str e.1, V.int e.2]) I as _ I2 nd fun b hb => by
      obtain ⟨j, hj⟩ := List.mem_iff_getElem?.mp hb
      have hjl : j < ws.length := by rw [← lak]; exact (List.getElem?_eq_some_iff.mp hj).1
      have he : ws[j]? = some ws[j] := List.getElem?_eq_getElem hjl
      obtain ⟨t, u, hg⟩ := pr j b _ hj he
      have hbl : s.heap.objs.size ≤ b := Nat.le_of_lt (hG.above b hb)
      refine ⟨hbl, ?_, [V.str ws[j].1, V.int ws[j].2], ⟨j, ws[j], hj, he, rfl⟩, fun H3 => ⟨(by show 2 ≤ sizeLine; decide), [Value.str ws[j].1 t, Value.int ws[j].2 u], .cons ⟨t, rfl⟩ (.cons ⟨u, rfl⟩ .nil), ⟨_, kF _ _ (ne0 _ _ hg) (ka _ _ hg), rfl, 0, rfl⟩⟩⟩
      rw [upd_ne (ne0 _ _ hg)]
      exact I.hok.fresh hbl
    have gr : ∀ b o, H b = some o → H2 b = some o := fun b o e => g b o (by rw [upd_ne (ne_of_none e hn0)]; exact e)
    refine ⟨.ref h'.objs.size, H2, I3, rfl, q H2 h'.objs.size zs gr hperm hsort hn0 (g _ _ upd_same) fun z' hz' => ?_⟩
    obtain ⟨i, i1, i2⟩ := idx z' hz'
    obtain ⟨vs, ⟨j, e, j1, j2, ev⟩, hH⟩ := qt z'.1 (List.mem_of_getElem? i1)
    have eij : i = j := (List.getElem?_inj (List.getElem?_eq_some_iff.mp i1).1 nd).mp (i1.trans j1.symm)
    subst eij
    have ee : e = z'.2 := Option.some.inj (j2.symm.trans i2)
    rw [ev, ee] at hH
    exact hH
end
end QR
set_option Elab.async false
set_option maxRecDepth 100000
set_option maxHeartbeats 1000000
namespace QM
open PySem L2 QR
/-! ### dicts from texts to ints: plain lists of pairs -/
abbrev Ws := List (Str × Int)
def lk (ws : Ws) (n : Str) : Option Int := (ws.find? fun p => decide (p.1 = n)).map (·.2)
def wt (ws : Ws) (n : Str) : Int := (lk ws n).getD 0
def putS (ws : Ws) (n : Str) (v : Int) : Ws := if (ws.any fun p => decide (p.1 = n)) = true then ws.map (fun p => if p.1 = n then (p.1, v) else p) else ws ++ [(n, v)]
theorem lk_nil {n : Str} : lk [] n = none := rfl
theorem lk_cons (p : Str × Int) (r : Ws) (n : Str) : lk (p :: r) n = if p.1 = n then some p.2 else lk r n := by
  unfold lk
  rw [List.find?_cons]
  by_cases e : p.1 = n <;> simp [e]
theorem wt_nil {n : Str} : wt [] n = 0 := rfl
theorem wt_cons (p : Str × Int) (r : Ws) (n : Str) : wt (p :: r) n = if p.1 = n then p.2 else wt r n := by
  unfold wt
  rw [lk_cons]
  by_cases e : p.1 = n <;> simp [e]
theorem dk_nil : dk [] = [] := rfl
theorem dk_cons (p : Str × Int) (r : Ws) : dk (p :: r) = (Sum.inr p.1, V.int p.2) :: dk r := rfl
theorem dk_len (ws : Ws) : (dk ws).length = ws.length := by unfold dk; rw [List.length_map]
theorem dk_append (a b : Ws) : dk (a ++ b) = dk a ++ dk b := by unfold dk; rw [List.map_append]
theorem key_inr (a b : Str) : ((Sum.inr a : Key) = Sum.inr b) ↔ a = b := ⟨fun h => Sum.inr.inj h, fun h => by rw [h]⟩
theorem valV_dk (n : Str) : ∀ ws : Ws, valV (dk ws) (Sum.inr n : Key) = (lk ws n).map V.int
  | [] => rfl
  | p :: r => by
    rw [dk_cons, lk_cons]
    by_cases e : p.1 = n
    · rw [if_pos e, valV_pos (show (Sum.inr p.1 : Key) = Sum.inr n by rw [e])]; rfl
    · rw [if_neg e, valV_neg (show ¬ (Sum.inr p.1 : Key) = Sum.inr n from fun z => e (Sum.inr.inj z)), valV_dk n r]
theorem any_dk (n : Str) (ws : Ws) : ((dk ws).any fun kv => decide (kv.1 = (Sum.inr n : Key))) = (ws.any fun p => decide (p.1 = n)) := by
  unfold dk
  rw [List.any_map]
  congr 1
  funext p
  show decide ((Sum.inr p.1 : Key) = Sum.inr n) = decide (p.1 = n)
  by_cases e : p.1 = n
  · rw [decide_eq_true e, decide_eq_true (by rw [e])]
  · rw [decide_eq_false e, decide_eq_false (fun z => e (Sum.inr.inj z))]
theorem putK_dk (ws : Ws) (n : Str) (v : Int) : putK (dk ws) (Sum.inr n : Key) (V.int v) = dk (putS ws n v) := by
  unfold putK putS
  rw [any_dk]
  by_cases a : (ws.any fun p => decide (p.1 = n)) = true
  · rw [if_pos a, if_pos a]
    unfold dk
    rw [List.map_map, List.map_map]
    refine List.map_congr_left fun p _ => ?_
    show (if (Sum.inr p.1 : Key) = Sum.inr n then ((Sum.inr p.1 : Key), V.int v) else (Sum.inr p.1, V.int p.2)) = _
    by_cases e : p.1 = n
    · rw [if_pos (by rw [e])]; simp [e]
    · rw [if_neg (fun z => e (Sum.inr.inj z))]; simp [e]
  · rw [if_neg a, if_neg a, dk_append]; rfl
theorem lk_some_mem : ∀ {ws : Ws} {n : Str} {v : Int}, lk ws n = some v → (n, v) ∈ ws
  | [], n, v, h => by cases h
  | p :: r, n, v, h => by
    rw [lk_cons] at h
    by_cases e : p.1 = n
    · rw [if_pos e] at h
      have z := Option.some.inj h
      rw [← e, ← z]; exact List.mem_cons_self
    · rw [if_neg e] at h
      exact List.mem_cons_of_mem _ (lk_some_mem h)
theorem lk_none_iff : ∀ {ws : Ws} {n : Str}, lk ws n = none ↔ ¬ n ∈ ws.map (·.1)
  | [], n => by simp [lk_nil]
  | p :: r, n => by
    rw [lk_cons]
    by_cases e : p.1 = n
    · rw [if_pos e]; simp [e]
    · rw [if_neg e, lk_none_iff]
      simp only [List.map_cons, List.mem_cons]
      constructor
      · rintro h (z | z)
        · exact e z.symm
        · exact h z
      · exact fun h z => h (Or.inr z)
theorem mem_lk : ∀ {ws : Ws} {p : Str × Int}, (ws.map (·.1)).Nodup → p ∈ ws → lk ws p.1 = some p.2
  | [], p, _, h => by cases h
  | a :: r, p, hn, h => by
    have hn' := List.nodup_cons.mp hn
    rw [lk_cons]
    rcases List.mem_cons.mp h with e | e
    · rw [e, if_pos rfl]
    · have : a.1 ≠ p.1 := fun z => hn'.1 (by show a.1 ∈ _; rw [z]; exact List.mem_map_of_mem e)
      rw [if_neg this]
      exact mem_lk hn'.2 e
theorem mem_wt {ws : Ws} {p : Str × Int} (hn : (ws.map (·.1)).Nodup) (h : p ∈ ws) : wt ws p.1 = p.2 := by unfold wt; rw [mem_lk hn h]; rfl
theorem wt_not {ws : Ws} {n : Str} (h : ¬ n ∈ ws.map (·.1)) : wt ws n = 0 := by unfold wt; rw [lk_none_iff.mpr h]; rfl
theorem wt_mem {ws : Ws} {n : Str} (h : wt ws n ≠ 0) : (n, wt ws n) ∈ ws := by
  unfold wt at h ⊢
  cases e : lk ws n with
  | none => rw [e] at h; exact absurd rfl h
  | some v => exact lk_some_mem e
theorem any_iff {ws : Ws} {n : Str} : (ws.any fun p => decide (p.1 = n)) = true ↔ n ∈ ws.map (·.1) := by
  rw [List.any_eq_true]
  constructor
  · rintro ⟨p, hp, e⟩; exact List.mem_map.mpr ⟨p, hp, of_decide_eq_true e⟩
  · intro h
    obtain ⟨p, hp, e⟩ := List.mem_map.mp h
    exact ⟨p, hp, decide_eq_true e⟩
theorem putS_old {ws : Ws} {n : Str} {v : Int} (h : n ∈ ws.map (·.1)) : putS ws n v = ws.map (fun p => if p.1 = n then (p.1, v) else p) := by unfold putS; rw [if_pos (any_iff.mpr h)]
theorem putS_new {ws : Ws} {n : Str} {v : Int} (h : ¬ n ∈ ws.map (·.1)) : putS ws n v = ws ++ [(n, v)] := by unfold putS; rw [if_neg (fun z => h (any_iff.mp z))]
theorem putS_keys_old {ws : Ws} {n : Str} {v : Int} (h : n ∈ ws.map (·.1)) : (putS ws n v).map (·.1) = ws.map (·.1) := by
  rw [putS_old h, List.map_map]
  refine List.map_congr_left fun p _ => ?_
  show (if p.1 = n then (p.1, v) else p).1 = p.1
  by_cases e : p.1 = n <;> simp [e]
theorem putS_keys_new {ws : Ws} {n : Str} {v : Int} (h : ¬ n ∈ ws.map (·.1)) : (putS ws n v).map (·.1) = ws.map (·.1) ++ [n] := by
  rw [putS_new h, List.map_append]; rfl
theorem putS_nd {ws : Ws} {n : Str} {v : Int} (h : (ws.map (·.1)).Nodup) : ((putS ws n v).map (·.1)).Nodup := by
  by_cases hm : n ∈ ws.map (·.1)
  · rw [putS_keys_old hm]; exact h
  · rw [putS_keys_new hm]; exact nd_snoc h hm
theorem putS_mem {ws : Ws} {n : Str} {v : Int} {p : Str × Int} (h : p ∈ putS ws n v) : p = (n, v) ∨ p ∈ ws := by
  by_cases hm : n ∈ ws.map (·.1)
  · rw [putS_old hm] at h
    obtain ⟨a, ha, e⟩ := List.mem_map.mp h
    by_cases q : a.1 = n
    · rw [if_pos q] at e; left; rw [← e, q]
    · rw [if_neg q] at e; right; rw [← e]; exact ha
  · rw [putS_new hm] at h
    rcases List.mem_append.mp h with h | h
    · exact Or.inr h
    · exact Or.inl (List.mem_singleton.mp h)
theorem lk_map (n m : Str) (v : Int) : ∀ ws : Ws, lk (ws.map fun p => if p.1 = n then (p.1, v) else p) m = if m = n then (lk ws m).map (fun _ => v) else lk ws m
  | [] => by simp [lk_nil]
  | p :: r => by
    rw [List.map_cons, lk_cons, lk_cons, lk_map n m v r]
    by_cases e : p.1 = n
    · by_cases e2 : m = n
      · simp [e, e2]
      · have : ¬ n = m := fun z => e2 z.symm
        simp [e, e2, this]
    · by_cases e2 : m = n
      · have : ¬ p.1 = m := fun z => e (z.trans e2)
        simp [e, e2]
      · simp [e, e2]
theorem lk_append (a b : Ws) (m : Str) : lk (a ++ b) m = (lk a m).or (lk b m) := by
  induction a with
  | nil => simp [lk_nil]
  | cons p r ih =>
    rw [List.cons_append, lk_cons, lk_cons, ih]
    by_cases e : p.1 = m <;> simp [e]
theorem lk_put (ws : Ws) (n m : Str) (v : Int) : lk (putS ws n v) m = if m = n then some v else lk ws m := by
  by_cases hm : n ∈ ws.map (·.1)
  · rw [putS_old hm, lk_map]
    by_cases e : m = n
    · rw [if_pos e, if_pos e, e]
      cases q : lk ws n with
      | none => exact absurd hm (lk_none_iff.mp q)
      | some x => rfl
    · rw [if_neg e, if_neg e]
  · rw [putS_new hm, lk_append]
    by_cases e : m = n
    · rw [if_pos e, e, lk_none_iff.mpr hm, lk_cons]; simp
    · have : ¬ n = m := fun z => e z.symm
      rw [if_neg e, lk_cons, if_neg this, lk_nil]; simp
theorem wt_put (ws : Ws) (n m : Str) (v : Int) : wt (putS ws n v) m = if m = n then v else wt ws m := by
  unfold wt
  rw [lk_put]
  by_cases e : m = n <;> simp [e]
/-! ### dict(pairs) -/
theorem merge_nd : ∀ (more acc : Ws), ((acc ++ more).map (·.1)).Nodup → mergeK (dk acc) (dk more) = dk (acc ++ more)
  | [], acc, _ => by rw [List.append_nil]; rfl
  | p :: r, acc, h => by
    have e : acc ++ p :: r = (acc ++ [p]) ++ r := by simp
    have h1 : ¬ p.1 ∈ acc.map (·.1) := by
      intro hm
      rw [List.map_append, List.map_cons] at h
      have := (List.nodup_append.mp h).2.2
      exact this p.1 hm p.1 List.mem_cons_self rfl
    show mergeK (putK (dk acc) (Sum.inr p.1) (V.int p.2)) (dk r) = _
    rw [putK_dk, putS_new h1, e]
    exact merge_nd r (acc ++ [p]) (by rw [← e]; exact h)
theorem merge_all (more : Ws) (h : (more.map (·.1)).Nodup) : mergeK [] (dk more) = dk more := by
  have e := merge_nd more [] (by simpa using h)
  rw [List.nil_append] at e
  exact e
/-! ### what a dict of weights is: different keys among N, numbers from lo to q - 1 -/
structure Dct (lo q : Int) (N : List Str) (ws : Ws) : Prop where
  nd : (ws.map (·.1)).Nodup
  mem : ∀ p ∈ ws, p.1 ∈ N ∧ lo ≤ p.2 ∧ p.2 < q
theorem Dct.nil {lo q : Int} {N : List Str} : Dct lo q N [] := ⟨List.nodup_nil, fun p h => by cases h⟩
theorem Dct.len {lo q : Int} {N : List Str} {ws : Ws} (h : Dct lo q N ws) : ws.length ≤ N.length := by
  have e : ws.length = (ws.map (·.1)).length := by rw [List.length_map]
  rw [e]
  refine h.nd.length_le_of_subset fun n hn => ?_
  obtain ⟨p, hp, e⟩ := List.mem_map.mp hn
  rw [← e]; exact (h.mem p hp).1
theorem Dct.put {lo q : Int} {N : List Str} {ws : Ws} (h : Dct lo q N ws) {n : Str} {v : Int} (hn : n ∈ N) (h1 : lo ≤ v) (h2 : v < q) : Dct lo q N (putS ws n v) := by
  refine ⟨putS_nd h.nd, fun p hp => ?_⟩
  rcases putS_mem hp with e | e
  · rw [e]; exact ⟨hn, h1, h2⟩
  · exact h.mem p e
theorem Dct.weak {q : Int} {N : List Str} {ws : Ws} (h : Dct 1 q N ws) : Dct 0 q N ws := ⟨h.nd, fun p hp => ⟨(h.mem p hp).1, by have := (h.mem p hp).2.1; omega, (h.mem p hp).2.2⟩⟩
theorem Dct.wt0 {lo q : Int} {N : List Str} {ws : Ws} (h : Dct lo q N ws) (h0 : 0 ≤ lo) (hq : 0 < q) (n : Str) : 0 ≤ wt ws n ∧ wt ws n < q := by
  by_cases e : wt ws n = 0
  · rw [e]; exact ⟨Int.le_refl _, hq⟩
  · have := (h.mem _ (wt_mem e)).2
    exact ⟨Int.le_trans h0 this.1, this.2⟩
theorem Dct.perm {lo q : Int} {N : List Str} {ws vs : Ws} (h : Dct lo q N ws) (p : vs.Perm ws) : Dct lo q N vs := ⟨(p.map (·.1)).symm.nodup h.nd, fun x hx => h.mem x (p.mem_iff.mp hx)⟩
theorem wt_perm {ws vs : Ws} (h : (ws.map (·.1)).Nodup) (p : vs.Perm ws) (n : Str) : wt vs n = wt ws n := by
  have hv : (vs.map (·.1)).Nodup := (p.map (·.1)).symm.nodup h
  by_cases e : n ∈ vs.map (·.1)
  · obtain ⟨x, hx, rfl⟩ := List.mem_map.mp e
    rw [mem_wt hv hx, mem_wt h (p.mem_iff.mp hx)]
  · rw [wt_not e, wt_not (fun z => e ((p.map (·.1)).mem_iff.mpr z))]
theorem mem_iff_wt {q : Int} {N : List Str} {ws : Ws} (h : Dct 1 q N ws) (p : Str × Int) : p ∈ ws ↔ wt ws p.1 = p.2 ∧ p.2 ≠ 0 := by
  constructor
  · intro hp
    refine ⟨mem_wt h.nd hp, ?_⟩
    have := (h.mem p hp).2.1; omega
  · rintro ⟨h1, h2⟩
    have := wt_mem (ws := ws) (n := p.1) (by rw [h1]; exact h2)
    rw [h1] at this
    exact this
theorem nd_of_keys {ws : Ws} (h : (ws.map (·.1)).Nodup) : ws.Nodup := by
  rw [List.nodup_iff_pairwise_ne] at h ⊢
  rw [List.pairwise_map] at h
  exact h.imp fun {a b} z e => z (by rw [e])
/-- two such dicts with the same weights have the same pairs -/
theorem Dct.same {q q' : Int} {N N' : List Str} {ws vs : Ws} (h : Dct 1 q N ws) (h' : Dct 1 q' N' vs) (e : ∀ n, wt ws n = wt vs n) : ws.Perm vs := by
  rw [List.perm_ext_iff_of_nodup (nd_of_keys h.nd) (nd_of_keys h'.nd)]
  intro p
  rw [mem_iff_wt h, mem_iff_wt h', e]
/-! ### texts in order -/
def stLt (x y : Str) : Prop := x.cps.toList < y.cps.toList
theorem str_ext {x y : Str} (h : x.cps.toList = y.cps.toList) : x = y := PySem.W.str_of_cps h
theorem stLe_antisymm {x y : Str} (h1 : stLe x y) (h2 : stLe y x) : x = y := str_ext (List.le_antisymm h1 h2)
theorem stLt_of {x y : Str} (h : stLe x y) (ne : x ≠ y) : stLt x y := by
  unfold stLt
  rcases Classical.em (x.cps.toList < y.cps.toList) with z | z
  · exact z
  · exact absurd (stLe_antisymm h (List.not_lt.mp z)) ne
theorem stLt.le {x y : Str} (h : stLt x y) : stLe x y := List.le_of_lt h
theorem stLt.ne {x y : Str} (h : stLt x y) : x ≠ y := fun e => by subst e; exact List.lt_irrefl _ h
/-! ### sums: sorted names, weights from 1 to q - 1 -/
structure Canon (q : Int) (N : List Str) (ws : Ws) : Prop where
  srt : ws.Pairwise fun a b => stLt a.1 b.1
  d : Dct 1 q N ws
theorem Canon.uniq {q q' : Int} {N N' : List Str} {ws vs : Ws} (h : Canon q N ws) (h' : Canon q' N' vs) (e : ∀ n, wt ws n = wt vs n) : ws = vs := by
  refine List.Perm.eq_of_pairwise (le := fun a b => stLt a.1 b.1) (fun a b _ _ h1 h2 => ?_) h.srt h'.srt (h.d.same h'.d e)
  exact absurd (stLe_antisymm h1.le h2.le) h1.ne
theorem canon_sorted {q : Int} {N : List Str} {ws : Ws} (h : Dct 1 q N ws) (s : ws.Pairwise fun a b => stLe a.1 b.1) : Canon q N ws := by
  refine ⟨?_, h⟩
  have nd := h.nd
  rw [List.nodup_iff_pairwise_ne, List.pairwise_map] at nd
  exact (s.and nd).imp fun {a b} z => stLt_of z.1 z.2
theorem rising_le : ∀ (l : List Str) (p : Str), PyProof.Rows.risingS p l = true → (∀ x ∈ l, stLe p x) ∧ l.Pairwise stLe
  | [], _, _ => ⟨(fun x h => by cases h), List.Pairwise.nil⟩
  | x :: r, p, h => by
    unfold PyProof.Rows.risingS at h
    rw [Bool.and_eq_true] at h
    obtain ⟨h1, h2⟩ := h
    obtain ⟨a, b⟩ := rising_le r x h2
    have hp : stLe p x := by
      unfold stLe
      refine List.not_lt.mp fun z => ?_
      rw [PyProof.Rows.ltCps_eq, decide_eq_true z] at h1
      cases h1
    exact ⟨fun y hy => (List.mem_cons.mp hy).elim (fun e => by rw [e]; exact hp) fun e => List.le_trans hp (a y e), List.pairwise_cons.mpr ⟨a, b⟩⟩
theorem sorted_le {l : List Str} (h : PyProof.Rows.sortedS l = true) : l.Pairwise stLe := by
  cases l with
  | nil => exact List.Pairwise.nil
  | cons x r => exact List.pairwise_cons.mpr (rising_le r x h)
/-- the sorted names of a sum's model are the sum's names -/
theorem sorted_names {q q' : Int} {N N' : List Str} {ws kvs : Ws} {ys : List Str} (h : Canon q N ws) (h' : Dct 1 q' N' kvs) (e : ∀ n, wt ws n = wt kvs n) (p : ys.Perm (kvs.map (·.1))) (s : ys.Pairwise stLe) : ys = ws.map (·.1) := by
  have p2 : (ws.map (·.1)).Perm (kvs.map (·.1)) := (h.d.same h' e).map _
  refine List.Perm.eq_of_pairwise (le := stLe) (fun a b _ _ h1 h2 => stLe_antisymm h1 h2) s ?_ (p.trans p2.symm)
  rw [List.pairwise_map]
  exact h.srt.imp fun z => z.le
end QM
set_option Elab.async false
set_option maxRecDepth 100000
set_option maxHeartbeats 4000000
namespace QR
open PySem L2
theorem Same.new {H : Hp} {p : Addr} {o : HO} (h : H p = none) : Same H (upd H p o) := fun b u e => by rw [upd_ne (ne_of_none e h)]; exact e
/-- a change of what H does not know -/
theorem Same.mut {H H' : Hp} {p : Addr} {o : HO} (s : Same H H') (h : H p = none) : Same H (upd H' p o) := fun b u e => by rw [upd_ne (ne_of_none e h)]; exact s b u e
theorem Same.tup {K : PySem.W.Frag} {H H' : Hp} {a : Addr} {xs : List V} (e : Same H H') (h : SqT K H a xs) : SqT K H' a xs := by
  rcases h with (h | ⟨o, h⟩) | h
  · exact .inl (.inl (e _ _ h))
  · exact .inl (.inr ⟨o, e _ _ h⟩)
  · exact .inr h
theorem sz_le {n : Nat} (h : n ≤ 100000) : n ≤ sizeLine := Nat.le_trans h (by decide)
theorem sz_lt {n : Nat} (h : n < 100000) : n < sizeLine := Nat.lt_of_lt_of_le h (by decide)
theorem filterMap_succ {α : Type} (f : Nat → Option α) (i : Nat) : (List.range (i + 1)).filterMap f = (List.range i).filterMap f ++ (f i).toList := by
  rw [List.range_succ, List.filterMap_append]
  cases e : f i <;> simp [e]
theorem filterMap_len {α : Type} (f : Nat → Option α) (i : Nat) : ((List.range i).filterMap f).length ≤ i := by
  have := List.length_filterMap_le f (List.range i)
  rw [List.length_range] at this
  exact this
section
variable {J : It} {n : Nat} {G : Hp → Prop} {Y : Nat → Hp → V → Hp → Prop} {g : TG} {tt : TT} {te tk tv : TE} {vs : List Nat} {σ : L2.St} {H1 : Hp} {D : Addr} {Qd : Hp → Prop}
/-- [e for target in iter if ..] that leaves what stood before as it was: f i is what the i-th turn gives -/
theorem lc_filter (w : Walk J n G Y) (f : Nat → Option V) (hG : ∀ H, Same H1 H → G H) (hD : H1 D = none) (hn : n ≤ 100000)
    (hs : ∀ i x H H', i < n → Same H1 H → Y i H x H' → ∀ (P : V → Hp → Prop) (P0 : Hp → Prop), (∀ y H4, f i = some y → Same H H4 → P y H4) → (∀ H3, f i = none → Same H H3 → P0 H3) →
      g x (wipe σ vs) H' fun σ2 H2 => wipe σ2 vs = wipe σ vs ∧ tt σ2 H2 fun b H3 => if b = true then te σ2 H3 P else P0 H3)
    (hd : ∀ H, Same H1 H → H D = some (.lst ((List.range n).filterMap f)) → Qd H) :
    ∃ W : Nat → Nat → Hp → Prop, (∃ m, W 0 m (upd H1 D (.lst []))) ∧ ∀ i m H, W i m H →
      (J.stop i H ∧ Qd H) ∨ (J.go i H ∧ ∃ Nx : Hp → Prop, (∀ H', Nx H' → ∃ m', m' < m ∧ W (i + 1) m' H') ∧ ∀ x H', J.yld i H x H' → g x (wipe σ vs) H' fun σ2 H2 => wipe σ2 vs = wipe σ vs ∧ tt σ2 H2 fun b H3 =>
        if b = true then te σ2 H3 fun y H4 => ∃ acc, H4 D = some (.lst acc) ∧ acc.length < sizeLine ∧ Nx (upd H4 D (.lst (acc ++ [y]))) else Nx H3) := by
  refine lc_it w (fun i H => Same H1 H ∧ H D = some (.lst ((List.range i).filterMap f))) ⟨Same.new hD, upd_same⟩ (fun i H _ p => hG H p.1) (fun i x H H' hi p y => ?_) fun H p => hd H p.1 p.2
  refine hs i x H H' hi p.1 y _ _ (fun v H4 q1 q2 => ⟨_, q2 _ _ p.2, sz_lt (Nat.lt_of_le_of_lt (filterMap_len f i) (Nat.lt_of_lt_of_le hi hn)), ?_, ?_⟩) (fun H3 q1 q2 => ⟨p.1.trans q2, ?_⟩)
  · exact Same.mut (p.1.trans q2) hD
  · rw [upd_same, filterMap_succ, q1]; rfl
  · rw [filterMap_succ, q1, q2 _ _ p.2]; simp
/-- without tests: ys item by item -/
theorem lc_map (w : Walk J n G Y) (ys : List V) (hl : ys.length = n) (hG : ∀ H, Same H1 H → G H) (hD : H1 D = none) (hn : n ≤ 100000)
    (hs : ∀ i x H H', i < n → Same H1 H → Y i H x H' → ∀ (P : V → Hp → Prop), (∀ y H4, ys[i]? = some y → Same H H4 → P y H4) →
      g x (wipe σ vs) H' fun σ2 H2 => wipe σ2 vs = wipe σ vs ∧ te σ2 H2 P)
    (hd : ∀ H, Same H1 H → H D = some (.lst ys) → Qd H) :
    ∃ W : Nat → Nat → Hp → Prop, (∃ m, W 0 m (upd H1 D (.lst []))) ∧ ∀ i m H, W i m H →
      (J.stop i H ∧ Qd H) ∨ (J.go i H ∧ ∃ Nx : Hp → Prop, (∀ H', Nx H' → ∃ m', m' < m ∧ W (i + 1) m' H') ∧ ∀ x H', J.yld i H x H' → g x (wipe σ vs) H' fun σ2 H2 => wipe σ2 vs = wipe σ vs ∧ tYes σ2 H2 fun b H3 =>
        if b = true then te σ2 H3 fun y H4 => ∃ acc, H4 D = some (.lst acc) ∧ acc.length < sizeLine ∧ Nx (upd H4 D (.lst (acc ++ [y]))) else Nx H3) := by
  refine lc_it w (fun i H => Same H1 H ∧ H D = some (.lst (ys.take i))) ⟨Same.new hD, upd_same⟩ (fun i H _ p => hG H p.1) (fun i x H H' hi p y => ?_) fun H p => hd H p.1 (by rw [p.2, ← hl, List.take_length])
  refine hs i x H H' hi p.1 y _ (fun v H4 q1 q2 => ⟨_, q2 _ _ p.2, sz_lt ?_, ?_, ?_⟩)
  · rw [List.length_take]; omega
  · exact Same.mut (p.1.trans q2) hD
  · rw [upd_same, List.take_add_one, q1]; rfl
/-- a dict comprehension over any walk: Pv by the turn and the heap (the new dict at D within) -/
theorem dc_it (w : Walk J n G Y) (Pv : Nat → Hp → Prop) (h0 : Pv 0 (upd H1 D (.dK []))) (hG : ∀ i H, i ≤ n → Pv i H → G H)
    (hs : ∀ i x H H', i < n → Pv i H → Y i H x H' → g x (wipe σ vs) H' fun σ2 H2 => wipe σ2 vs = wipe σ vs ∧ tt σ2 H2 fun b H3 =>
      if b = true then tk σ2 H3 fun y H4 => tv σ2 H4 fun z H5 => ∃ kvs k, y = kV k ∧ H5 D = some (.dK kvs) ∧ kvs.length < sizeLine ∧ Pv (i + 1) (upd H5 D (.dK (putK kvs k z))) else Pv (i + 1) H3) (hd : ∀ H, Pv n H → Qd H) :
    ∃ W : Nat → Nat → Hp → Prop, (∃ m, W 0 m (upd H1 D (.dK []))) ∧ ∀ i m H, W i m H →
      (J.stop i H ∧ Qd H) ∨ (J.go i H ∧ ∃ Nx : Hp → Prop, (∀ H', Nx H' → ∃ m', m' < m ∧ W (i + 1) m' H') ∧ ∀ x H', J.yld i H x H' → g x (wipe σ vs) H' fun σ2 H2 => wipe σ2 vs = wipe σ vs ∧ tt σ2 H2 fun b H3 =>
        if b = true then tk σ2 H3 fun y H4 => tv σ2 H4 fun z H5 => ∃ kvs k, y = kV k ∧ H5 D = some (.dK kvs) ∧ kvs.length < sizeLine ∧ Nx (upd H5 D (.dK (putK kvs k z))) else Nx H3) := by
  refine ⟨fun i m H => m = n - i ∧ i ≤ n ∧ Pv i H, ⟨n, by simp, Nat.zero_le _, h0⟩, ?_⟩
  rintro i m H ⟨rfl, hi, p⟩
  have q := hG i H hi p
  by_cases hlt : i < n
  · refine .inr ⟨w.goes i H hlt q, Pv (i + 1), fun H' p' => ⟨n - (i + 1), by omega, rfl, hlt, p'⟩, fun x H' y => hs i x H H' hlt p (w.yields i H x H' hlt q y)⟩
  · have e : i = n := by omega
    subst e
    exact .inl ⟨w.stops H q, hd H p⟩
end
end QR
set_option Elab.async false
set_option maxRecDepth 100000
set_option maxHeartbeats 1000000
namespace QM
open PySem L2 QR
theorem nd_filter {α : Type} (p : α → Bool) {l : List α} (h : l.Nodup) : (l.filter p).Nodup := by
  rw [List.nodup_iff_pairwise_ne] at h ⊢
  exact List.Pairwise.filter _ h
/-! ### what Sum.__init__ keeps -/
def mkW (R : Ws) (ys : List Str) : Ws := (ys.filter fun n => decide (wt R n ≠ 0)).map fun n => (n, wt R n)
theorem mkW_nil (R : Ws) : mkW R [] = [] := rfl
theorem mkW_snoc (R : Ws) (ys : List Str) (n : Str) : mkW R (ys ++ [n]) = if wt R n ≠ 0 then mkW R ys ++ [(n, wt R n)] else mkW R ys := by
  unfold mkW
  rw [List.filter_append, List.map_append]
  by_cases e : wt R n = 0 <;> simp [e]
theorem mkW_keys (R : Ws) (ys : List Str) : (mkW R ys).map (·.1) = ys.filter fun n => decide (wt R n ≠ 0) := by
  unfold mkW
  rw [List.map_map]
  exact List.map_id' _
theorem mkW_not {R : Ws} {ys : List Str} {n : Str} (h : ¬ n ∈ ys) : ¬ n ∈ (mkW R ys).map (·.1) := by
  rw [mkW_keys]
  exact fun z => h (List.mem_filter.mp z).1
theorem mkW_len (R : Ws) (ys : List Str) : (mkW R ys).length ≤ ys.length := by
  unfold mkW
  rw [List.length_map]
  exact List.length_filter_le _ _
theorem mkW_dct {q : Int} {N : List Str} {R : Ws} (h : Dct 0 q N R) {ys : List Str} (hn : ys.Nodup) : Dct 1 q N (mkW R ys) := by
  refine ⟨?_, fun p hp => ?_⟩
  · rw [mkW_keys]; exact nd_filter _ hn
  · unfold mkW at hp
    obtain ⟨n, hn, rfl⟩ := List.mem_map.mp hp
    have h0 : wt R n ≠ 0 := of_decide_eq_true (List.mem_filter.mp hn).2
    have := h.mem _ (wt_mem h0)
    exact ⟨this.1, by have := this.2.1; show 1 ≤ wt R n; omega, this.2.2⟩
theorem mkW_wt {R : Ws} {ys : List Str} (hn : ys.Nodup) (hm : ∀ n, n ∈ R.map (·.1) → n ∈ ys) (n : Str) : wt (mkW R ys) n = wt R n := by
  have hnd : ((mkW R ys).map (·.1)).Nodup := by rw [mkW_keys]; exact nd_filter _ hn
  by_cases e : wt R n = 0
  · rw [e]
    refine wt_not fun z => ?_
    rw [mkW_keys] at z
    exact of_decide_eq_true (List.mem_filter.mp z).2 e
  · have h1 : n ∈ ys := hm n (List.mem_map_of_mem (f := (·.1)) (wt_mem e))
    have h2 : (n, wt R n) ∈ mkW R ys := by
      unfold mkW
      exact List.mem_map.mpr ⟨n, List.mem_filter.mpr ⟨h1, decide_eq_true e⟩, rfl⟩
    exact mem_wt hnd h2
theorem mkW_canon {q : Int} {N : List Str} {R : Ws} (h : Dct 0 q N R) {ys : List Str} (p : ys.Perm (R.map (·.1))) (s : ys.Pairwise stLe) : Canon q N (mkW R ys) ∧ ∀ n, wt (mkW R ys) n = wt R n := by
  have hn : ys.Nodup := p.symm.nodup h.nd
  refine ⟨canon_sorted (mkW_dct h hn) ?_, mkW_wt hn fun n z => p.mem_iff.mpr z⟩
  have s2 : ((mkW R ys).map (·.1)).Pairwise stLe := by rw [mkW_keys]; exact List.Pairwise.filter _ s
  rw [List.pairwise_map] at s2
  exact s2
theorem lk_of_mem {R : Ws} {n : Str} (h : n ∈ R.map (·.1)) : lk R n = some (wt R n) := by
  unfold wt
  cases e : lk R n with
  | none => exact absurd h (lk_none_iff.mp e)
  | some v => rfl
theorem valV_of_mem {R : Ws} {n : Str} (h : n ∈ R.map (·.1)) : valV (dk R) (Sum.inr n : Key) = some (V.int (wt R n)) := by rw [valV_dk, lk_of_mem h]; rfl
theorem putK_snoc {R : Ws} {n : Str} {v : Int} (h : ¬ n ∈ R.map (·.1)) : putK (dk R) (Sum.inr n : Key) (V.int v) = dk (R ++ [(n, v)]) := by rw [putK_dk, putS_new h]
theorem dk_keys (R : Ws) : (dk R).map (·.1) = (R.map (·.1)).map Sum.inr := by unfold dk; rw [List.map_map, List.map_map]; rfl
end QM
set_option Elab.async false
set_option maxRecDepth 100000
set_option maxHeartbeats 1000000
namespace QM
open PySem L2 QR
/-! ### multiples -/
def mulW (ws : Ws) (k q : Int) : Ws := ws.map fun p => (p.1, p.2 * k % q)
theorem mulW_keys (ws : Ws) (k q : Int) : (mulW ws k q).map (·.1) = ws.map (·.1) := by unfold mulW; rw [List.map_map]; rfl
theorem mulW_len (ws : Ws) (k q : Int) : (mulW ws k q).length = ws.length := by unfold mulW; rw [List.length_map]
theorem mulW_snoc (ws : Ws) (p : Str × Int) (k q : Int) : mulW (ws ++ [p]) k q = mulW ws k q ++ [(p.1, p.2 * k % q)] := by unfold mulW; rw [List.map_append]; rfl
theorem mulW_dct {lo q : Int} {N : List Str} {ws : Ws} (h : Dct lo q N ws) (hq : 0 < q) (k : Int) : Dct 0 q N (mulW ws k q) := by
  refine ⟨by rw [mulW_keys]; exact h.nd, fun p hp => ?_⟩
  unfold mulW at hp
  obtain ⟨x, hx, rfl⟩ := List.mem_map.mp hp
  exact ⟨(h.mem x hx).1, Int.emod_nonneg _ (by omega), Int.emod_lt_of_pos _ hq⟩
theorem mulW_wt (k q : Int) (n : Str) : ∀ ws : Ws, wt (mulW ws k q) n = wt ws n * k % q
  | [] => by simp [mulW, wt_nil]
  | p :: r => by
    show wt ((p.1, p.2 * k % q) :: mulW r k q) n = _
    rw [wt_cons, wt_cons, mulW_wt k q n r]
    by_cases e : p.1 = n <;> simp [e]
/-! ### sums -/
def addW (q : Int) (acc vs : Ws) : Ws := vs.foldl (fun a p => putS a p.1 ((wt a p.1 + p.2) % q)) acc
theorem addW_snoc (q : Int) (acc vs : Ws) (p : Str × Int) : addW q acc (vs ++ [p]) = putS (addW q acc vs) p.1 ((wt (addW q acc vs) p.1 + p.2) % q) := by unfold addW; rw [List.foldl_append]; rfl
theorem addW_dct {q : Int} {N : List Str} (hq : 0 < q) : ∀ {vs acc : Ws}, Dct 0 q N acc → (∀ p ∈ vs, p.1 ∈ N) → Dct 0 q N (addW q acc vs)
  | [], acc, h, _ => h
  | p :: r, acc, h, hv => by
    show Dct 0 q N (addW q (putS acc p.1 ((wt acc p.1 + p.2) % q)) r)
    exact addW_dct hq (h.put (hv p List.mem_cons_self) (Int.emod_nonneg _ (by omega)) (Int.emod_lt_of_pos _ hq)) fun x hx => hv x (List.mem_cons_of_mem _ hx)
theorem addW_wt {q : Int} {N : List Str} (hq : 0 < q) (n : Str) : ∀ {vs acc : Ws}, Dct 0 q N acc → (vs.map (·.1)).Nodup → (∀ p ∈ vs, p.1 ∈ N) → wt (addW q acc vs) n = (wt acc n + wt vs n) % q
  | [], acc, h, _, _ => by
    show wt acc n = _
    rw [wt_nil, Int.add_zero, Int.emod_eq_of_lt (h.wt0 (Int.le_refl _) hq n).1 (h.wt0 (Int.le_refl _) hq n).2]
  | p :: r, acc, h, hn, hv => by
    have hn' := List.nodup_cons.mp hn
    show wt (addW q (putS acc p.1 ((wt acc p.1 + p.2) % q)) r) n = _
    rw [addW_wt hq n (h.put (hv p List.mem_cons_self) (Int.emod_nonneg _ (by omega)) (Int.emod_lt_of_pos _ hq)) hn'.2 fun x hx => hv x (List.mem_cons_of_mem _ hx), wt_put, wt_cons]
    by_cases e : p.1 = n
    · have h0 : wt r n = 0 := wt_not (by rw [← e]; exact hn'.1)
      rw [if_pos e.symm, if_pos e, h0, Int.add_zero, Int.emod_emod_of_dvd _ (Int.dvd_refl q), e]
    · rw [if_neg (fun z => e z.symm), if_neg e]
theorem take_snoc {α : Type} {l : List α} {i : Nat} {x : α} (h : l[i]? = some x) : l.take (i + 1) = l.take i ++ [x] := by rw [List.take_add_one, h]; rfl
end QM
set_option Elab.async false
set_option maxRecDepth 100000
set_option maxHeartbeats 4000000
namespace QR
open PySem PySem.Spec PyProof.Rows L2
section
variable {X : Cx}
/-- y = {k: v for ..} -/
theorem ps_setDc {i : Nat} {y : Str} {py : Pos} {kx vx tg iter : Expr} {ifs : List Expr} {scope : Scope} {own : List (Str × Nat)} {pos spos : Pos} {wi : TI} {g : TG} {tt : TT} {tk tv : TE} (hc : X.calm = true) (hN : X.N.Nodup) (hy : X.N[i]? = some y) (hyl : X.env.scope.names.lookup y = some .local)
    (hsw : swapsWith (.DictComp kx vx [⟨tg, iter, ifs, 0⟩] scope pos) (some (.Name y py)) spos.line X.env = pure true) (hi : PI X tg iter wi) (ok : BlkOk X.N X.env.scope scope own)
    (hg : ∀ (s : Shared) (H : Hp) (C : Addr) (cl : List (Str × Addr)) (fp : List Addr), PG (X.blk s H scope (compEnvC scope cl C X.env) fp) tg g) (ht : ∀ (s : Shared) (H : Hp) (C : Addr) (cl : List (Str × Addr)) (fp : List Addr), PTs (X.blk s H scope (compEnvC scope cl C X.env) fp) ifs tt)
    (hk : ∀ (s : Shared) (H : Hp) (C : Addr) (cl : List (Str × Addr)) (fp : List Addr), PE (X.blk s H scope (compEnvC scope cl C X.env) fp) kx tk)
    (he : ∀ (s : Shared) (H : Hp) (C : Addr) (cl : List (Str × Addr)) (fp : List Addr), PE (X.blk s H scope (compEnvC scope cl C X.env) fp) vx tv) (hs : ∀ x, foldedSetIterable iter X.env x = pure x := by intro _; rfl) :
    PS X (.Assign [.Name y py] (.DictComp kx vx [⟨tg, iter, ifs, 0⟩] scope pos) spos) (tAsg (tDc wi g tt tk tv (own.map (·.2))) (gName i)) := by
  refine ⟨fun pins s σ H D I h => ?_⟩
  rw [exec_Assign_Name_used _ _ _ _ hsw]
  refine wpAny_bind (wpAny_standAt (wpAny_bind ?_))
  show wpAny _ X.A (do let _ ← comprehension (.DictComp kx vx [⟨tg, iter, ifs, 0⟩] scope pos) scope X.env (firstIterPos [⟨tg, iter, ifs, 0⟩] pos) newDict false (eval iter X.env) (some (assign (.Name y py) X.env))) _ _ s
  have h : tDc wi g tt tk tv (own.map (·.2)) σ H (fun x H1 => gName i x σ H1 D.nx) := h
  refine wpAny_bind (thn (dc_core (Qf := fun _ s' => SP X pins D .next s') hc hN I hi ok hg ht hk he hs h fun L C s' m H' I' q hn f => ?_) fun _ s' hq => wpAny_pure (wpAny_pure hq))
  show wpAny _ _ (assign (.Name y py) X.env (.ref L)) _ _ _
  refine wpAny_assign_Name (store_ok2 (v := V.ref L) I' hN hy (.inl hyl) rfl (fun s2 I2 ⟨a, sb, ha⟩ => ?_) (.inr hyl))
  obtain ⟨f0, f1, f2, f3, f4, f5⟩ := f
  have haC : C ≠ a := by
    rcases ha with z | z
    · rw [z]; exact f1
    · exact fun e => f4 y a z e.symm
  refine ⟨m, hn.sameBut sb haC, fun h3 sb3 => ?_⟩
  exact ⟨_, H', I2.turned (t' := s2.toks) (fun b o hb e => (sb3.2 b hb).trans e) f0 f1 f3 f4 f5, q⟩
theorem sw_trueD {kx vx : Expr} {gs : List Comprehension} {scope : Scope} {pos py : Pos} {y : Str} {l : Nat} {env : Env} (hk : env.scope.kind = .function) (hy : env.scope.names.lookup y = some .local) (hl : (py.line == pos.line) = true)
    (ha : (scope.names.any fun (n, k) => n == y && (k == .local || k == .cell)) = false) : swapsWith (.DictComp kx vx gs scope pos) (some (.Name y py)) l env = pure true := by
  have ky : env.kindOf y = some .local := hy
  have hb : env.blockKind = .function := by unfold Env.blockKind; rw [hk]; rfl
  unfold swapsWith
  simp only [hb, ky, ha, Expr.pos, hl]
  rfl
end
end QR
set_option Elab.async false
set_option maxRecDepth 100000
set_option maxHeartbeats 4000000
namespace QR
open PySem PySem.Spec PyProof.Rows L2
section
variable {X : Cx} {CX : CXT} {n : Nat} {C f : Addr} {fd : FuncData} {ps : List Str} {sp : Sp} {E : XK} {e : Expr} {es : List Expr} {ta : TA} {tc : TE} {p p1 p2 pos : Pos}
/-- Base.__init__(self, ..), Base a class of the program under ValueError -/
theorem pe_cinit {pl : Sem Bool} {c : Str} {B : Addr} {mc : Value} (hg : Gl X c) (hm : X.mg c = some (.ref B)) (rd : ClX.CRead X.K B mc) (fc : PySem.W.findCls X.K (.ref B) mc "__init__" = some (.val (.builtin "ValueError.__init__"))) (ha : PA X (e :: es) ta)
    (hdb : (c == ("__debug__" : Str)) = false := by decide)
    (hev : eval (.Call (.Attribute (.Name c p1) "__init__" p2) (e :: es) [] pos) X.env = (do let o1 ← eval (.Name c p1) X.env; standAt p2.atName; let (g1, g2) ← holding [o1] (getMethod o1 "__init__" pl); callWith pos g1 g2 (backTo pos (starEach (e :: es) X.env)) (backToKw pos (keywordEach [] X.env))) := by rfl)
    (hst : starEach (e :: es) X.env = (false, eval e X.env) :: starEach es X.env := by rfl) (hpl : (backTo pos (starEach es X.env)).any (·.1) = false := by rfl) :
    PE X (.Call (.Attribute (.Name c p1) "__init__" p2) (e :: es) [] pos) (tVeI X.K ta) := by
  refine ⟨fun pins s σ H Q I h => ?_⟩
  refine PySem.W.methodCall_KW (ld_glob I hg hm ?_ hdb) hev
  refine PySem.W.method_cls (I.tok _).kIn rd.ga (PySem.W.cls_value (I.tok _).kIn rd.rd fc (by decide +kernel) ?_)
  refine PyProof.Rows.callWith_method1 (thn (ha.run pos pins _ σ H _ ((I.tok _).tok _) h) fun us s1 z => ?_) hst hpl
  obtain ⟨vs, H1, I1, r1, a, C1, ws, rfl, hl, T, ea, q⟩ := z
  cases r1 with
  | @cons _ u0 _ ur ra rr =>
    obtain rfl : u0 = Value.ref a := ra
    refine oinit_ok T I1 ea ?_ fun s' J => ⟨.non, H1, J, rfl, q⟩
    rw [← Paired.length rr, sizeLine_eq]
    omega
/-- cls(e, ..), cls a local that holds the class at C -/
def tMakeV (C : Addr) (sp : Sp) (dvs : List V) (E : XK) (tc : TE) (t : TA) : TE := fun σ H Q => tc σ H fun v H0 => v = .ref C ∧ tMake C sp dvs E t σ H0 Q
theorem pe_makeV {x : Str} {k : Nat} {dvs : List V} {ds : List Value} (M : Mk X.K C f) (F : FnOk X.prog X.w X.K X.mg X.base CX k f fd ps sp) (hr : Room (k + 1) X.A) (hv : PE X (.Name x p) tc) (hb : Binds X.K fd ps ds) (hd : Vals dvs ds) (hx : Passes CX X E)
    (ha : PA X (e :: es) ta) (hst : starEach (e :: es) X.env = (false, eval e X.env) :: starEach es X.env := by rfl) (hpl : (backTo pos (starEach es X.env)).any (·.1) = false := by rfl) :
    PE X (.Call (.Name x p) (e :: es) [] pos) (tMakeV C sp dvs E tc ta) := by
  refine ⟨fun pins s σ H Q I h => ?_⟩
  refine wpAny_Call_Name_kw (thn (hv.run pins s σ H _ I h) fun v s0 z => ?_)
  obtain ⟨x0, H0, I0, rv, rfl, h⟩ := z
  obtain rfl : v = Value.ref C := rv
  refine PySem.W.callWith_K (h₀ := X.base) I0.ok.mod.kin M.kp (thn (ha.run pos pins s0 σ H0 _ I0 h) fun us s1 z1 => ?_) hst hpl
  obtain ⟨vs, H1, I1, r, q⟩ := z1
  exact ⟨I1.kIn, run_make M F hr hb hd hx I1 r q⟩
/-- str(o), o an instance with its own __str__ -/
def rStrOwn (C : Addr) (sp : Sp) (E : XK) : List V → Hp → VK → Prop := fun xs H Q => ∃ a dx fs, xs = [.ref a] ∧ H a = some (.ins C dx fs) ∧ sp [.ref a] H (fun v H1 => (∃ y, v = .str y) ∧ Q v H1) E
theorem cr_strOwn (F : FnOk X.prog X.w X.K X.mg X.base CX n f fd ps sp) (hr : Room (n + 2) X.A) (hs : PySem.W.findIn X.K (.ref C) "__str__" = some (some (.ref f))) (hf : PySem.W.isFn X.K (.ref f) = true) (hb : Binds X.K fd ps []) (hx : Passes CX X E) :
    CallR X (.type "str") (rStrOwn C sp E) := by
  intro pins s σ H xs us Q I r h
  obtain ⟨a, dx, fs, rfl, ha, q⟩ := h
  rw [Vals.ref1 r]
  obtain ⟨mA, J, _⟩ := ins_get I.hok ha
  obtain ⟨od, J, _⟩ := J.look
  have hr2 : Room n X.A.in1.in1 := hr.in1.in1
  refine PySem.W.kso_call (show X.A.in1.in1.units < cLine from hr2.units0) I.kIn J hs hf ?_
  have r2 : Vals [V.ref a] [Value.ref a] := .cons rfl .nil
  have hl : [Value.ref a].length = ps.length := by rw [← r2.length]; exact F.len _ _ _ _ q
  refine wpAny_call (codeAny_mono (F.run X.A.in1.in1 X.stack s H ⟨[.ref a], []⟩ [.ref a] [.ref a] _ E hr2 I.env0.in1.in1 (by have := hb s [.ref a] I.kIn (by simpa using hl); simpa using this) r2 q) fun r s' hq => ?_)
  cases r with
  | error er => exact hx pins σ H s er s' I hq
  | ok fl =>
    cases fl with
    | ret u =>
      obtain ⟨v', H', I', rv, ⟨y, rfl⟩, q'⟩ := I.after hq
      obtain ⟨t, rfl⟩ := rv
      exact ⟨.str y, H', I', ⟨t, rfl⟩, q'⟩
    | next => exact False.elim hq
    | brk => exact False.elim hq
    | cont => exact False.elim hq
/-- a text times an int -/
theorem op_mulS : OpR X (binaryOp .Mult) (fun x y H Q => ∃ (a : Str) (k : Int), x = .str a ∧ y = .int k ∧ MulOk a k ∧ Q (.str (Txt.mul a k)) H) := by
  intro pins s σ H x y v u Q I rx ry h
  obtain ⟨a, k, rfl, rfl, ok, q⟩ := h
  obtain ⟨t, rfl⟩ := rx
  obtain ⟨t', rfl⟩ := ry
  exact PySem.SB.mul ok fun t2 k2 => ⟨.str _, H, I.tok k2, ⟨t2, rfl⟩, q⟩
end
end QR
set_option Elab.async false
set_option maxRecDepth 100000
set_option maxHeartbeats 4000000
namespace QR
open PySem PySem.Spec PyProof.Rows L2
theorem vals_of_get : ∀ {xs : List V} {us : List Value}, xs.length = us.length → (∀ (i : Nat) x u, xs[i]? = some x → us[i]? = some u → RelV x u) → Vals xs us
  | [], [], _, _ => .nil
  | [], _ :: _, h, _ => by cases h
  | _ :: _, [], h, _ => by cases h
  | x :: xs, u :: us, h, k => .cons (k 0 x u rfl rfl) (vals_of_get (by simpa using h) fun i a b ha hb => k (i + 1) a b (by simpa using ha) (by simpa using hb))
section
variable {X : Cx}
/-- list(a text) -/
theorem cr_listS (hc : X.calm = true) : CallR X (.type "list") (fun xs H Q => ∃ a : Str, xs = [.str a] ∧ a.cps.size ≤ sizeLine ∧ ∀ p, H p = none → Q (.ref p) (upd H p (.lst (a.cps.toList.map fun c => V.str ⟨#[c]⟩)))) := by
  intro pins s σ H xs us Q I r h
  obtain ⟨a, rfl, hz, q⟩ := h
  obtain ⟨u, rfl, t, rfl⟩ := vals1 r
  refine call_list_str (I.ok.hd hc) a t (fun h' tk acc c' hk hS hacc => ?_) hz
  have hp := I.hok.fresh (Nat.le_refl _)
  have hl : acc.toList.length = a.cps.toList.length := by rw [Array.length_toList, hacc.1, Array.length_toList]
  refine ⟨.ref s.heap.objs.size, _, I.laid (a := s.heap.objs.size) (o := .lst (a.cps.toList.map fun c => V.str ⟨#[c]⟩)) (t' := tk) hk (Nat.le_refl _) ⟨by rw [List.length_map, Array.length_toList]; exact hz, acc.toList, c', ?_, by rw [Array.toArray_toList]; exact hS⟩, rfl, q _ hp⟩
  refine vals_of_get (by rw [List.length_map, hl]) fun i x u hx hu => ?_
  obtain ⟨c, w, e1, rfl⟩ := hacc.2 i u (by rw [← Array.getElem?_toList]; exact hu)
  rw [List.getElem?_map, Array.getElem?_toList, e1] at hx
  cases hx
  exact ⟨w, rfl⟩
theorem argBest_txt (num : Nat → List Nat) : ∀ k, argBest (fun i j => decide (num j < num i)) k ≤ k ∧ ∀ j, j ≤ k → ¬ num (argBest (fun i j => decide (num j < num i)) k) < num j
  | 0 => ⟨Nat.le_refl _, fun j hj => by
      have e : j = 0 := by omega
      rw [e]; exact List.lt_irrefl _⟩
  | k + 1 => by
    obtain ⟨h1, h2⟩ := argBest_txt num k
    simp only [argBest]
    by_cases hc : num (argBest (fun i j => decide (num j < num i)) k) < num (k + 1)
    · rw [if_pos (by simpa using hc)]
      refine ⟨Nat.le_refl _, fun j hj z => ?_⟩
      by_cases e : j = k + 1
      · rw [e] at z; exact List.lt_irrefl _ z
      · exact h2 j (by omega) (List.lt_trans hc z)
    · rw [if_neg (by simpa using hc)]
      refine ⟨by omega, fun j hj => ?_⟩
      by_cases e : j = k + 1
      · rw [e]; exact hc
      · exact h2 j (by omega)
/-- max(d), d a dict with keys that are texts -/
def rMaxK : List V → Hp → VK → Prop := fun xs H Q => ∃ (a : Addr) (kvs : List (Key × V)) (ks : List Str), xs = [.ref a] ∧ Rd H a (.dK kvs) ∧ kvs.map (·.1) = ks.map Sum.inr ∧ 0 < ks.length ∧
  ∀ m, m ∈ ks → (∀ y ∈ ks, ¬ m.cps.toList < y.cps.toList) → Q (.str m) H
theorem cr_maxK (hc : X.calm = true) : CallR X (.builtin "max") rMaxK := by
  intro pins s σ H xs us Q I r h
  obtain ⟨a, kvs, ks, rfl, hd, hks, h0, q⟩ := h
  rw [Vals.ref1 r]
  obtain ⟨z, lo, vs, rel, dd⟩ := dk_rd I.hok hd
  obtain ⟨ep, hat⟩ := dd.dictAt
  have hkeys : vs.map (·.1) = ks.map Sum.inr := rel.keys.symm.trans hks
  have hl : vs.length = ks.length := by
    have e := congrArg List.length hkeys
    rwa [List.length_map, List.length_map] at e
  have key : ∀ (i : Nat) (v : Value), (∃ k x, vs[i]? = some (k, x) ∧ (mixKind X.prog X.w).is k v = true) → ∃ t, v = .str (ks.getD i ⟨#[]⟩) t := fun i v ⟨k, x, e1, e2⟩ => by
    have e3 : (vs.map (·.1))[i]? = some k := by rw [List.getElem?_map, e1]; rfl
    rw [hkeys, List.getElem?_map] at e3
    cases e4 : ks[i]? with
    | none => rw [e4] at e3; cases e3
    | some y =>
      rw [e4] at e3
      cases e3
      rw [mixKind_is] at e2
      rw [List.getD_eq_getElem?_getD, e4]
      exact relV_key e2
  refine call_max_walk (wpAny_pyIter_dict (knd := mixKind X.prog X.w) lo hat ?_)
  have ha : a < s.heap.objs.size := hat.lt_size
  refine ⟨s.heap.objs.size, [s.heap.objs.size, a], [s.heap.objs.size], vs.length, _, _, fun i j => decide ((ks.getD j ⟨#[]⟩).cps.toList < (ks.getD i ⟨#[]⟩).cps.toList), rfl,
    Walks.dictKeys (show X.A.in1.handled = none from I.ok.hd hc) _ a (Nat.ne_of_lt ha) vs ep, ⟨⟨_, Heap.get?_push_size _ rfl, rfl, rfl⟩, hat.push _⟩, fun b hb => ?_, by omega, fun i j vi vj s' Q' E' hi hj hq => ?_, fun v h' tk hv hk => ?_⟩
  · show b < (s.heap.push _).objs.size
    rw [size_push']
    rcases List.mem_cons.mp hb with z | z
    · rw [z]; exact Nat.lt_succ_self _
    · rw [List.mem_singleton.mp z]; exact Nat.lt_succ_of_lt ha
  · obtain ⟨t, rfl⟩ := key i vi hi
    obtain ⟨u, rfl⟩ := key j vj hj
    exact richCompare_gives (op := .Gt) (typeIs_str s' _ t) (typeIs_str s' _ u) F.slot_str_gt F.entry_str_gt (F.args_str_gt_2 _ _) (gives_str_gt _ _ t u) (fun x => nomatch x) hq
  · obtain ⟨t, rfl⟩ := key _ v hv
    obtain ⟨m1, m2⟩ := argBest_txt (fun i => (ks.getD i ⟨#[]⟩).cps.toList) (vs.length - 1)
    have hk2 : ∀ b o, s.heap.get? b = some o → h'.get? b = some o := fun b o e => hk b o (fun z => by rw [List.mem_singleton.mp z] at e; exact absurd (Heap.lt_size e) (Nat.lt_irrefl _)) (Heap.get?_push_of_some _ e)
    generalize hg : argBest (fun i j => decide ((ks.getD j ⟨#[]⟩).cps.toList < (ks.getD i ⟨#[]⟩).cps.toList)) (vs.length - 1) = g at m1 m2 hv
    have gm : ks.getD g ⟨#[]⟩ ∈ ks := by
      rw [List.getD_eq_getElem?_getD, List.getElem?_eq_getElem (show g < ks.length by omega)]
      exact List.getElem_mem _
    refine ⟨.str _, H, I.kept (t' := tk) hk2, ⟨t, rfl⟩, q _ gm fun y hy => ?_⟩
    obtain ⟨j, hj, e⟩ := List.mem_iff_getElem.mp hy
    have z := m2 j (by omega)
    have e3 : ks.getD j ⟨#[]⟩ = y := by rw [List.getD_eq_getElem?_getD, List.getElem?_eq_getElem hj, ← e]; rfl
    rw [e3] at z
    exact z
end
end QR
set_option Elab.async false
set_option maxRecDepth 100000
set_option maxHeartbeats 4000000
namespace QR
open PySem PySem.Spec PyProof.Rows L2
/-- no exception is let by -/
abbrev noX : WX := fun _ _ _ _ => False
section
variable {X : Cx} {x n : Str} {c : Value} {i : Nat} {body suite orelse : List Stmt} {b0 : Stmt} {np pos ph : Pos} {tb : WX → TS} {ts : Addr → Value → Option Addr → TS} {to : TS}
/-- the exception v of a try's body lands in its one clause 'except x as n', which takes it -/
theorem lands_as {pins pn : List (Addr × Obj)} {D : Ends} {v : Value} {sr : Shared} {xe : Value → Shared → Prop} (ok : X.Ok) (hstk : X.stack = X.env :: X.outer) (hfrm : X.env.frame = some X.env.locals) (hN : X.N.Nodup) (hi : X.N[i]? = some n) (hln : X.env.kindOf n = some .local) (hc : Names X x c)
    (hsu : ∀ (a : Addr) (oe : Obj) (cls : Value) (d : Option Addr) (pn : List (Addr × Obj)), Zc cls d oe → (∃ vs, oe.data = .fields vs) → PSs (X.suite a ((a, oe) :: pn)) (b0 :: suite) (ts a cls d))
    (hx : XE (X.tr pn xe) (wAs X.K c i ts noX D) v sr) (hpn : pn = X.pn ++ pins) :
    wpAny (model X.prog X.w) X.A (noteFrame v X.env) (fun _ sa => wpAny (model X.prog X.w) X.A (setFlight v none) (fun _ sb => wpAny (model X.prog X.w) X.A (handleBy v X.env [.ExceptHandler (some (.Name x np)) (some n) (b0 :: suite) ph]) (SP X pins D) X.xe sb) X.xe sa) X.xe sr := by
  subst hpn
  obtain ⟨ea, ground, sI, pI, σ1, H1, cls, dd, rfl, It, hground, hup, hsky, hfree, hos, hbare, t, ht, hyes, hno⟩ := hx
  cases t with
  | false => exact (hno rfl).elim
  | true =>
    have I1 : Inv X pins σ1 H1 sI := Inv.ofTry It ok
    have frs1 : X.A.frames = some (X.env :: X.outer) := ok.frames.trans (congrArg some hstk)
    have hsky1 : Sky ground (X.env :: X.outer) ea (Zc cls dd) X.env.locals sr.heap := by rw [← hstk]; exact hsky
    refine Sky.land Zc.steady frs1 hfrm hsky1 fun ha fla upa => ?_
    have Ia : Inv X pins σ1 H1 { sr with heap := ha } := Inv.landed I1 hground fla.1 (hup.trans upa) hos hbare
    obtain ⟨oa, va, hoa, hza, hda⟩ := fla.there
    have apart : ea ∉ frs (X.env :: X.outer) := fun hm => by
      obtain ⟨_, o2, e2, nofld⟩ := fla.2.2.1.mem hm
      have e3 := hoa.symm.trans e2
      cases e3
      exact nofld _ hda
    have notLoc : ea ≠ X.env.locals := fun z => apart (List.mem_filterMap.mpr ⟨X.env, List.mem_cons_self, hfrm.trans (congrArg some z.symm)⟩)
    have notFs : ea ∉ X.fs := fun hm => by
      obtain ⟨e1, he1, q1⟩ := List.mem_filterMap.mp hm
      exact apart (List.mem_filterMap.mpr ⟨e1, List.mem_cons_of_mem _ he1, q1⟩)
    have Sa := Inv.suite Ia hoa hda hfree notLoc notFs
    refine wpAny_handleBy_cons (codeAny_handlers_test ?_) (fun q => nomatch q)
    have ofCls : PySem.W.Looks (model X.prog X.w) ha (typeOf (.ref ea)) cls := fun _ _ _ _ k1 q1 => wpAny_typeOf_ref (k1 _ _ hoa) (by rw [hza.1]; exact q1)
    have isOne := PySem.W.exm_one (M := model X.prog X.w) Ia.kIn ofCls ht
    have named : ∀ {Q1 E1 : Value → Shared → Prop}, Q1 c { sr with heap := ha } → wpAny (model X.prog X.w) (X.A.mark (some (.ref ea))) (eval (.Name x np) X.env) Q1 E1 { sr with heap := ha } := fun {Q1 E1} q1 => by
      obtain ⟨g1, g2, g3 | ⟨g3, g4, g5⟩⟩ := hc
      · exact ld_glob (X := X.suite ea ((ea, oa) :: (X.pn ++ pins))) Sa g1 g3 q1 g2
      · exact ld_blt (X := X.suite ea ((ea, oa) :: (X.pn ++ pins))) Sa g1 g3 g4 q1 g5 g2
    refine named (isOne.here (codeAny_handlers_suite_as (HandSPX.lands_againZ fla fun hb flb upb => ?_)))
    have Ib : Inv X pins σ1 H1 { sr with heap := hb } := Inv.landed I1 hground flb.1 ((hup.trans upa).trans upb) hos hbare
    obtain ⟨ob, vb, hob, hzb, hdb⟩ := flb.there
    have Sb := Inv.suite Ib hob hdb hfree notLoc notFs
    refine store_ok (X := X.suite ea ((ea, ob) :: (X.pn ++ pins))) (v := .ref ea) Sb hN hi (.inl hln) rfl (fun sc Sc => ?_) (.inr hln)
    refine wpAny_mono ((hsu ea ob cls dd (X.pn ++ pins) hzb ⟨_, hdb⟩).run [] sc _ H1 _ Sc (hyes rfl ea hfree)) (fun fl sd hsp => ?_) fun _ _ z => z.elim
    cases fl with
    | next =>
      obtain ⟨σ2, H2, S2, q2⟩ := hsp
      exact gone_ok (Inv.unsuite S2 ok) hN hi hln fun se Je => ⟨_, _, Je, q2⟩
    | brk =>
      obtain ⟨σ2, H2, S2, q2⟩ := hsp
      exact gone_ok (Inv.unsuite S2 ok) hN hi hln fun se Je => ⟨_, _, Je, q2⟩
    | cont =>
      obtain ⟨σ2, H2, S2, q2⟩ := hsp
      exact gone_ok (Inv.unsuite S2 ok) hN hi hln fun se Je => ⟨_, _, Je, q2⟩
    | ret w =>
      obtain ⟨v2, σ2, H2, S2, r2, q2⟩ := hsp
      exact gone_ok (Inv.unsuite S2 ok) hN hi hln fun se Je => ⟨_, _, _, Je, r2, q2⟩
/-- try: body / except x as n: suite / else: orelse -/
theorem ps_try_asE (hstk : X.stack = X.env :: X.outer) (hfrm : X.env.frame = some X.env.locals) (hN : X.N.Nodup) (hi : X.N[i]? = some n) (hln : X.env.kindOf n = some .local) (hc : Names X x c)
    (hb : ∀ (W : WX) (pn : List (Addr × Obj)) (xe : Value → Shared → Prop), Takes (X.tr pn xe) W → PassesOwn (model X.prog X.w) X.A X.env xe → PSs (X.tr pn xe) body (tb W))
    (hsu : ∀ (a : Addr) (oe : Obj) (cls : Value) (d : Option Addr) (pn : List (Addr × Obj)), Zc cls d oe → (∃ vs, oe.data = .fields vs) → PSs (X.suite a ((a, oe) :: pn)) (b0 :: suite) (ts a cls d)) (he : PSs X orelse to) :
    PS X (.Try body [.ExceptHandler (some (.Name x np)) (some n) (b0 :: suite) ph] orelse [] pos) (fun D σ H => tb (wAs X.K c i ts noX D) { D with nx := to D } σ H) := by
  refine ⟨fun pins s σ H D I h => ?_⟩
  have ok := I.ok
  refine wpAny_Try_except ?_
  have run := (hb (wAs X.K c i ts noX D) (X.pn ++ pins) _ (fun v sr hx => lands_as (np := np) (ph := ph) ok hstk hfrm hN hi hln hc hsu hx rfl) PassesOwn.looking).run [] s σ H { D with nx := to D } (I.toTry _) h
  refine wpAny_mono run (fun fl s1 hsp => ?_) fun _ _ z => z
  cases fl with
  | next =>
    obtain ⟨σ1, H1, J1, q1⟩ := hsp
    exact he.run pins s1 σ1 H1 D (Inv.ofTry J1 ok) q1
  | brk =>
    obtain ⟨σ1, H1, J1, q1⟩ := hsp
    exact ⟨σ1, H1, Inv.ofTry J1 ok, q1⟩
  | cont =>
    obtain ⟨σ1, H1, J1, q1⟩ := hsp
    exact ⟨σ1, H1, Inv.ofTry J1 ok, q1⟩
  | ret w =>
    obtain ⟨v1, σ1, H1, J1, r1, q1⟩ := hsp
    exact ⟨v1, σ1, H1, Inv.ofTry J1 ok, r1, q1⟩
end
end QR
set_option Elab.async false
set_option maxRecDepth 100000
set_option maxHeartbeats 4000000
namespace QR
open PySem PySem.Spec PyProof.Rows L2
section
variable {X : Cx}
/-- a token is out behind e -/
def PE1 (X : Cx) (e : Expr) (t : TE) : Prop := ∀ (pins : List (Addr × Obj)) (s : Shared) (σ : L2.St) (H : Hp) (Q : VK), Inv X pins σ H s → t σ H Q → wpAny (model X.prog X.w) X.A (eval e X.env) (fun v s1 => 1 ≤ s1.toks ∧ EP X pins σ Q v s1) X.xe s
abbrev rJoin (K : PySem.W.Frag) : V → List V → Hp → VK → Prop := fun x xs H Q => ∃ a p, ∃ ys : List Str, x = .str a ∧ xs = [.ref p] ∧ (SqL K H p (ys.map V.str) ∨ SqT K H p (ys.map V.str)) ∧ (ys.map (·.length)).sum + ys.length * a.length ≤ 16777216 ∧ Q (.str (Txt.join a ys)) H
theorem pe1_join {c : Str} {j : Nat} {p1 apos pos : Pos} {e : Expr} {te : TE} (he : PE X e te) (hs : starEach [e] X.env = [(false, eval e X.env)] := by rfl)
    (hbase : attributeBase (.Constant (.str c) j p1) "join" X.env (eval (.Constant (.str c) j p1) X.env) = eval (.Constant (.str c) j p1) X.env := by rfl) (hline : (apos.endLine == pos.line) = true := by rfl) :
    PE1 X (.Call (.Attribute (.Constant (.str c) j p1) "join" apos) [e] [] pos) (tM1 (rJoin X.K) (tC (.str c)) te) := by
  intro pins s σ H Q I h
  obtain ⟨_, h⟩ := h
  refine PySem.Call_method1 hbase hs hline (Calls.Constant_str ?_)
  refine ⟨"str", _, F.plainAttrs_str, F.slot_str_join, F.type_str_join, typeIs_str _ _ _, (fun _ e => nomatch e), ?_⟩
  refine wpAny_mono (wpAny_toks_of (n := 1) (Q := EP X pins σ Q) (E := X.xe) (show 1 ≤ s.toks + 1 by omega) (Calls.callWith_builtin rfl (Calls.evalArgs_plain (Calls.spliced_cons ?_)))) (fun _ _ z => z) fun _ _ z => z.2
  refine thn (he.run pins { s with toks := s.toks + 1 } σ H _ (I.tok _) h) fun u s2 z => ?_
  obtain ⟨y, H2, I2, r2, q2⟩ := z
  exact Calls.spliced_nil (mt_join pins s2 σ H2 (.str c) [y] (.str c s.toks) [u] Q I2 ⟨_, rfl⟩ (.cons r2 .nil) q2)
theorem pss_set1 {i : Nat} {x : Str} {e : Expr} {te : TE} {rest : List Stmt} {u : TS} {pos' pos : Pos} (hN : X.N.Nodup) (hi : X.N[i]? = some x) (hx : Loc X.env.scope x) (he : PE1 X e te) (h2 : PSsT X rest u)
    (hs : swapsWith e (some (.Name x pos')) pos.line X.env = pure false := by rfl) (hf : X.fn x = true ∨ X.env.scope.names.lookup x = some .local := by first | exact .inl rfl | exact .inr rfl | assumption) :
    PSs X (.Assign [.Name x pos'] e pos :: rest) (tSeq (tAsg te (gName i)) u) := by
  refine ⟨fun pins s σ H D I h => ?_⟩
  refine wpAny_execs_cons (wpAny_Assign_Name (thn (he pins s σ H _ I h) fun v s1 z => ?_) hs)
  obtain ⟨h1, y, H1, I1, r1, q1⟩ := z
  refine wpAny_mono (wpAny_toks_of (n := 1) h1 (store_ok (Q := fun _ s2 => Inv X pins (σ.set i (some y)) H1 s2) I1 hN hi hx r1 (fun _ I2 => I2) hf)) (fun _ s2 q => ?_) fun _ _ z => z.2
  exact h2 pins s2 _ H1 D q.1 q.2 q1
theorem pet_call {CX : CXT} {k : Nat} {f : Addr} {fd : FuncData} {ps : List Str} {sp : Sp} {dvs : List V} {ds : List Value} {E : XK} {x : Str} {p pos : Pos} {e : Expr} {es : List Expr} {t : TA}
    (Fk : FnOk X.prog X.w X.K X.mg X.base CX k f fd ps sp) (hr : Room k X.A) (hg : Gl X x) (hm : X.mg x = some (.ref f)) (hk : PySem.W.keepIn X.K (.ref f) = true) (hb : Binds X.K fd ps ds) (hd : Vals dvs ds) (hx : Passes CX X E)
    (ha : PAT X (e :: es) t) (hdb : (x == ("__debug__" : Str)) = false := by decide) (hst : starEach (e :: es) X.env = (false, eval e X.env) :: starEach es X.env := by rfl) (hpl : (backTo pos (starEach es X.env)).any (·.1) = false := by rfl) :
    PET X (.Call (.Name x p) (e :: es) [] pos) (tCall sp dvs E t) := by
  intro pins s σ H Q h0 I h
  refine wpAny_Call_Name_kw (ld_glob I hg hm ?_ hdb)
  refine PySem.W.callWith_K (h₀ := X.base) I.ok.mod.kin hk (thn (ha pos pins s σ H _ h0 I h) fun us s1 z => ?_) hst hpl
  obtain ⟨vs, H1, I1, r, q⟩ := z
  exact ⟨I1.kIn, run_fn Fk hr hb hd hx I1 r q⟩
end
/-! ### a def that hands back an item of a list: which value, raw -/
section
variable {P : Program} {w : World} {K : PySem.W.Frag} {mg : Str → Option Value} {base : Heap}
/-- what such a def promises of raw values -/
def ItemRun (P : Program) (w : World) (K : PySem.W.Frag) (mg : Str → Option Value) (base : Heap) (k : Nat) (f : Addr) (fd : FuncData) (ps N : List Str) (i : Nat) (tix : TE) : Prop :=
  ∀ (A : Around) (outer : List Env) (s : Shared) (H : Hp) (args : Args) (us : List Value) (vs : List V) (l : Addr) (o : Obj) (its : List Value) (n : Nat) (xs : List V) (Q : VK), Room k A → Env0 P w K mg base A outer s H → BindsTo s fd args (ps.zip us) → Vals vs us → vs.length = ps.length →
    (start N vs)[i]? = some (some (.ref l)) → o = { cls := .type "list", data := .seq its.toArray n } →
    tix (start N vs) H (fun v H' => ∃ j : Nat, v = .int (j : Nat) ∧ j < its.length ∧ j < 2 ^ 62 ∧ H' l = some (.frz o (.lst xs)) ∧ ∀ x, xs[j]? = some x → Q x H') →
    codeAny (model P w) A (.call (.ref f) args) (fun r s' => ∃ u ∈ its, r = .ok (.ret u) ∧ CE outer P w H s Q u s') s
theorem item_run {k i : Nat} {f : Addr} {fd : FuncData} {x qual a1 : Str} {st : Stmt} {N ps : List Str} {ix : Expr} {tix : TE} {p1 p2 p3 : Pos} (F : L2.Fun K x qual st f fd) (S : FnScope N ps (defScope st)) (hbd : defBody st = [.Return (some (.Subscript (.Name a1 p1) ix p2)) p3])
    (hN : N[i]? = some a1) (hv : Vis (defScope st) a1) (hd : (a1 == ("__debug__" : Str)) = false) (hcd1 : (a1 == ("__classdict__" : Str)) = false) (hp : PlainIx ix)
    (hix : ∀ (cdv : Value) (A : Around) (outer : List Env) (s : Shared) (H : Hp), Room k (A.deeper (envOfC qual (defScope st) s.heap.objs.size f cdv)) → PE (cxOf CX0 P w K mg base N qual (defScope st) f cdv A outer s H (fun _ _ _ => False)) ix tix) :
    ItemRun P w K mg base (k + 1) f fd ps N i tix := by
  intro A outer s H args us vs l o its n xs Q hr e0 hb r hl hσ ho h
  obtain ⟨oc, od, kV, doc, pm, an, cdv, ct, osl, rfl, lk, hcd⟩ := F.ex
  have hK : K.In s.heap := e0.mod.kin.keeps fun b ob e => (e0.bs b ob e).1
  have hlim : s.heap.NoLimit := e0.mod.nolimit.keeps fun b ob e => (e0.bs b ob e).1
  have kinds : ∀ q ∈ ps.zip us, (defScope st).names.lookup q.1 = some .local ∨ ((defScope st).names.lookup q.1 = some .cell ∧ ((cellsFrom (s.heap.objs.size + 1) (defScope st).names []).lookup q.1).isSome = true) := fun ⟨m, v⟩ hm => by
    rcases S.par m (List.of_mem_zip hm).1 with z | z
    · exact .inl z
    · exact .inr ⟨z, PySem.W.cellsFrom_some _ _ _ (.inl z)⟩
  refine codeAny_call_function hr.depth (hK _ _ lk) rfl S.co S.gen rfl (PySem.W.codeRec_of hK hcd) (hb _ _ _ _ (wpAny_newFunctionEnv_cells S.kind kinds fun env he s1 hin => ?_))
  subst he
  refine ⟨hlim.keeps hin.toInCall.keep, codeAny_func ?_⟩
  have I : Inv (cxOf CX0 P w K mg base N qual (defScope st) f cdv A outer s H (fun _ _ _ => False)) [] (start N vs) H s1 := inv_start S hr.hd e0 hl r hin
  rw [hbd]
  refine wpAny_execs_cons (wpAny_Return_some (Subscript_ (raw_name (X := cxOf CX0 P w K mg base N qual (defScope st) f cdv A outer s H (fun _ _ _ => False)) hN hv I hσ (fun v rv => ?_) hd hcd1)))
  obtain rfl : v = Value.ref l := rv
  refine wpAny_mono ((hix cdv A outer s H (hr.deeper _)).run [] s1 (start N vs) H _ I h) (fun u s2 z => ?_) fun e s2 z => ?_
  · obtain ⟨y, H2, I2, r2, j, rfl, hj, hj2, hlk, q⟩ := z
    obtain ⟨t, rfl⟩ := r2
    have hob := I2.hok l _ hlk
    obtain ⟨ho1, _, its2, n2, rv2, ho2⟩ := hob
    rw [ho1] at ho2
    have e2 := Option.some.inj ho2
    rw [ho] at e2
    have e3 : its = its2 := by
      have e4 : Data.seq its.toArray n = Data.seq its2.toArray n2 := congrArg Obj.data e2
      injection e4 with e5
      exact Array.toList_inj.mpr e5
    subst e3
    have hx : its.toArray[((j : Nat) : Int).toNat]? = some its[j] := by simp [hj]
    refine item_listR (s := s2) (items := its.toArray) ⟨o, ho1, by rw [ho], n, by rw [ho]⟩ (by omega) (by omega) hx ?_ (hp _ _)
    obtain ⟨x1, hx1, rx1⟩ : ∃ x1, xs[j]? = some x1 ∧ RelV x1 its[j] := by
      have hxl : xs.length = its.length := rv2.length
      have hj3 : j < xs.length := by omega
      obtain ⟨u1, e6, e7⟩ := Vals.get rv2 (List.getElem?_eq_getElem hj3)
      rw [List.getElem?_eq_getElem hj] at e6
      cases e6
      exact ⟨xs[j], List.getElem?_eq_getElem hj3, e7⟩
    exact ⟨its[j], List.getElem_mem hj, rfl, x1, H2, (I2.tok _).os, (I2.tok _).bare, (I2.tok _).base, (I2.tok _).hok, rx1, q x1 hx1⟩
  · exact wpAny_mono z (fun _ _ q => False.elim q) fun _ _ q => False.elim q
end
/-! ### text.replace(y, choice(rng, [c1, c2, c3, c4])) of written texts -/
section
variable {X : Cx}
/-- the written texts, in a new list whose object is known -/
def lst4 (c1 c2 c3 c4 : Str) (b : Nat) : List Value := [.str c1 b, .str c2 (b + 1), .str c3 (b + 2), .str c4 (b + 3)]
/-- what it reads: the text, the drawer, what the choice does; then some text that is not too long -/
def tReplD (y : Str) (tr : TE) (N : List Str) (tix : TE) (cs : List Str) (to : TE) : TE := fun σ H Q => to σ H fun x H0 => ∃ a : Str, x = .str a ∧ a.length ≤ 1000 ∧ tr σ H0 fun r H1 => ∀ (l : Addr) (o : Obj), H1 l = none →
  tix (start N [r, .ref l]) (upd H1 l (.frz o (.lst (cs.map V.str)))) fun v H' => ∃ j : Nat, v = .int (j : Nat) ∧ j < 4 ∧ j < 2 ^ 62 ∧ H' l = some (.frz o (.lst (cs.map V.str))) ∧ ∀ x, (cs.map V.str)[j]? = some x → ∀ z ∈ cs, Q (.str (Txt.replace a y z)) H'
theorem pet_replD {k : Nat} {f : Addr} {fd : FuncData} {ps N : List Str} {tix to tr : TE} {o : Expr} {rx fx y c1 c2 c3 c4 : Str} {m j0 j1 j2 j3 j4 : Nat} {apos pos pr p0 p1 p2 p3 p4 pf pl pc : Pos}
    (R : ItemRun X.prog X.w X.K X.mg X.base k f fd ps N 1 tix) (hps : ps.length = 2) (hr : Room k X.A) (hg : Gl X fx) (hm : X.mg fx = some (.ref f)) (hk : PySem.W.keepIn X.K (.ref f) = true) (hb : Binds X.K fd ps []) (ho : PE X o to) (hrn : PE X (.Name rx pr) tr)
    (h1 : c1.length ≤ m) (h2 : c2.length ≤ m) (h3 : c3.length ≤ m) (h4 : c4.length ≤ m) (hmm : m ≤ 10) (y1 : (y == c1) = false := by decide) (y2 : (y == c2) = false := by decide) (y3 : (y == c3) = false := by decide) (y4 : (y == c4) = false := by decide) (hdb : (fx == ("__debug__" : Str)) = false := by decide)
    (hse : starEach [.Constant (.str y) j0 p0, .Call (.Name fx pf) [.Name rx pr, .List [.Constant (.str c1) j1 p1, .Constant (.str c2) j2 p2, .Constant (.str c3) j3 p3, .Constant (.str c4) j4 p4] pl] [] pc] X.env = [(false, eval (.Constant (.str y) j0 p0) X.env), (false, eval (.Call (.Name fx pf) [.Name rx pr, .List [.Constant (.str c1) j1 p1, .Constant (.str c2) j2 p2, .Constant (.str c3) j3 p3, .Constant (.str c4) j4 p4] pl] [] pc) X.env)] := by rfl)
    (hbase : attributeBase o "replace" X.env (eval o X.env) = eval o X.env := by rfl) (hline : (apos.endLine == pos.line) = true := by rfl) :
    PET X (.Call (.Attribute o "replace" apos) [.Constant (.str y) j0 p0, .Call (.Name fx pf) [.Name rx pr, .List [.Constant (.str c1) j1 p1, .Constant (.str c2) j2 p2, .Constant (.str c3) j3 p3, .Constant (.str c4) j4 p4] pl] [] pc] [] pos) (tReplD y tr N tix [c1, c2, c3, c4] to) := by
  intro pins s σ H Q h0 I h
  refine PySem.Call_method2 hbase hse hline (wpAny_mono (wpAny_toks_of h0 (ho.run pins s σ H _ I h)) (fun v s1 z => ?_) fun _ _ z => z.2)
  obtain ⟨hk1, x, H0, I0, rx0, a, rfl, ha, hq⟩ := z
  obtain ⟨tx, rfl⟩ := rx0
  refine ⟨"str", _, F.plainAttrs_str, F.slot_str_replace, F.type_str_replace, typeIs_str _ _ _, (fun _ e => nomatch e), Calls.callWith_builtin rfl (Calls.evalArgs_plain (Calls.spliced_cons (Calls.Constant_str (Calls.spliced_cons ?_))))⟩
  have I1 := I0.tok (s1.toks + 1)
  refine wpAny_Call_Name_kw (ld_glob I1 hg hm ?_ hdb)
  refine PySem.W.callWith_K (h₀ := X.base) I1.ok.mod.kin hk ?_ rfl rfl
  show wpAny _ _ (spliced ((false, eval (.Name rx pr) X.env) :: backTo pc (starEach [.List [.Constant (.str c1) j1 p1, .Constant (.str c2) j2 p2, .Constant (.str c3) j3 p3, .Constant (.str c4) j4 p4] pl] X.env))) _ _ _
  refine Calls.spliced_cons (wpAny_mono (wpAny_toks_of (n := s1.toks + 1) (Nat.le_refl _) (hrn.run pins _ σ H0 _ I1 hq)) (fun u s2 z => ?_) fun _ _ z => z.2)
  obtain ⟨hk2, r, H1, I2, rr, hq⟩ := z
  show wpAny _ _ (spliced ((false, eval (.List [.Constant (.str c1) j1 p1, .Constant (.str c2) j2 p2, .Constant (.str c3) j3 p3, .Constant (.str c4) j4 p4] pl) X.env) :: backTo pc (starEach [] X.env))) _ _ _
  refine Calls.spliced_cons (wpAny_List_spliced ?_)
  show wpAny _ _ (spliced ((false, eval (.Constant (.str c1) j1 p1) X.env) :: backTo pl (starEach [.Constant (.str c2) j2 p2, .Constant (.str c3) j3 p3, .Constant (.str c4) j4 p4] X.env))) _ _ _
  refine Calls.spliced_cons (Calls.Constant_str ?_)
  show wpAny _ _ (spliced ((false, eval (.Constant (.str c2) j2 p2) X.env) :: backTo pl (starEach [.Constant (.str c3) j3 p3, .Constant (.str c4) j4 p4] X.env))) _ _ _
  refine Calls.spliced_cons (Calls.Constant_str ?_)
  show wpAny _ _ (spliced ((false, eval (.Constant (.str c3) j3 p3) X.env) :: backTo pl (starEach [.Constant (.str c4) j4 p4] X.env))) _ _ _
  refine Calls.spliced_cons (Calls.Constant_str ?_)
  show wpAny _ _ (spliced ((false, eval (.Constant (.str c4) j4 p4) X.env) :: backTo pl (starEach [] X.env))) _ _ _
  refine Calls.spliced_cons (Calls.Constant_str (Calls.spliced_nil ?_))
  have h44 : (4 : Nat) ≤ sizeLine := by decide
  have hl := I2.hok.fresh (Nat.le_refl _)
  have I3 : Inv X pins σ (upd H1 s2.heap.objs.size (.frz { cls := .type "list", data := .seq (lst4 c1 c2 c3 c4 s2.toks).toArray 0 } (.lst ([c1, c2, c3, c4].map V.str)))) { s2 with heap := s2.heap.push { cls := .type "list", data := .seq (lst4 c1 c2 c3 c4 s2.toks).toArray 0 }, toks := s2.toks + 1 + 1 + 1 + 1 } :=
    I2.laid (fun b u e => Heap.get?_push_of_some _ e) (Nat.le_refl _) ⟨Heap.get?_push_size _ rfl, h44, lst4 c1 c2 c3 c4 s2.toks, 0, .cons ⟨_, rfl⟩ (.cons ⟨_, rfl⟩ (.cons ⟨_, rfl⟩ (.cons ⟨_, rfl⟩ .nil))), Heap.get?_push_size _ rfl⟩
  refine ⟨h44, Calls.spliced_nil ⟨I3.kIn, ?_⟩⟩
  have hq3 := hq s2.heap.objs.size { cls := .type "list", data := .seq (lst4 c1 c2 c3 c4 s2.toks).toArray 0 } hl
  have rv : Vals [r, V.ref s2.heap.objs.size] [u, Value.ref s2.heap.objs.size] := .cons rr (.cons rfl .nil)
  have hbd := hb _ [u, .ref s2.heap.objs.size] I3.kIn (show [u, Value.ref s2.heap.objs.size].length = ps.length from hps.symm)
  refine wpAny_call (codeAny_mono (R X.A X.stack _ _ ⟨[u, .ref s2.heap.objs.size], []⟩ [u, .ref s2.heap.objs.size] [r, .ref s2.heap.objs.size] s2.heap.objs.size _ (lst4 c1 c2 c3 c4 s2.toks) 0 _ _ hr I3.env0 hbd rv hps.symm rfl rfl hq3) fun res s' hres => ?_)
  obtain ⟨uu, hmem, rfl, hce⟩ := hres
  obtain ⟨v4, H4, I4, rv4, q4⟩ := I3.after hce
  obtain ⟨z, t, rfl, hz, ht, hy, hzm⟩ : ∃ z t, uu = Value.str z t ∧ z.length ≤ m ∧ s1.toks + 1 ≤ t ∧ (y == z) = false ∧ z ∈ [c1, c2, c3, c4] := by
    simp only [lst4, List.mem_cons, List.not_mem_nil, or_false] at hmem
    rcases hmem with e | e | e | e
    · exact ⟨_, _, e, h1, by omega, y1, by simp⟩
    · exact ⟨_, _, e, h2, by omega, y2, by simp⟩
    · exact ⟨_, _, e, h3, by omega, y3, by simp⟩
    · exact ⟨_, _, e, h4, by omega, y4, by simp⟩
  refine Calls.spliced_nil ?_
  have hmul : (a.length + 1) * z.length ≤ (a.length + 1) * m := Nat.mul_le_mul_left _ hz
  have hmul2 : (a.length + 1) * m ≤ 1001 * 10 := Nat.mul_le_mul (by omega) hmm
  have hlen : a.length + (a.length + 1) * z.length ≤ 16777216 := by omega
  refine PySem.SC.replace (show s1.toks ≠ 0 by omega) (Nat.ne_of_gt (Nat.lt_of_lt_of_le (Nat.succ_pos _) ht)) (Nat.ne_of_lt ht) hy hlen (fun t' k => ⟨.str (Txt.replace a y z), H4, I4.tok k, ⟨t', rfl⟩, q4 z hzm⟩)
end
end QR
set_option Elab.async false
set_option maxRecDepth 100000
set_option maxHeartbeats 4000000
namespace QR
open PySem PySem.Spec PyProof.Rows L2
theorem op_or {X : Cx} {f : Value → Value → Sem Value} {r1 r2 : R2} (h1 : OpR X f r1) (h2 : OpR X f r2) : OpR X f (fun x y H Q => r1 x y H Q ∨ r2 x y H Q) := by
  intro pins s σ H x y v u Q I rx ry h
  rcases h with h | h
  · exact h1 pins s σ H x y v u Q I rx ry h
  · exact h2 pins s σ H x y v u Q I rx ry h
end QR
namespace PySem.SeqAt
open AutoSeq1 (wpAny_loadPart')
open MeetsSeq MeetsSeq2 MeetsSeq3 SeqRoads2
section
variable {prog : Program} {w : World}
/-- != of two tuples of two items that are equal -/
theorem ne_two (l b : Addr) (v1 v2 u1 u2 : Value) (n n2 : Nat) (dd dd2 : Option Addr) (sl sl2 : Array (Option Value)) :
    MeetsIn prog w (Builtin.«tuple.__ne__» ⟨[.ref l, .ref b], []⟩)
      (fun A R s => s.heap.get? l = some { cls := .type "tuple", dict := dd, data := .seq #[v1, v2] n, slots := sl } ∧ s.heap.get? b = some { cls := .type "tuple", dict := dd2, data := .seq #[u1, u2] n2, slots := sl2 } ∧
        EqIn prog w A.in1 s v1 u1 true ∧ EqIn prog w A.in1 s v2 u2 true ∧ R (.ok (.ret (.bool false))) s) :=
  .of_wp fun A R s h => by
    obtain ⟨hp, g, d, tk, os⟩ := s
    obtain ⟨hl, hb, e1, e2, h⟩ := h
    have f2 := AutoSeq1.sub_tuple_tuple
    have both : ∀ q ∈ [(v1, u1), (v2, u2)], EqIn prog w A.in1 ⟨hp, g, d, tk, os⟩ q.1 q.2 true := fun q hq => by
      rcases List.mem_cons.mp hq with z | z
      · rw [z]; exact e1
      · rw [List.mem_singleton.mp z]; exact e2
    wp_walk using wpAny_loadPart' hl, wpAny_loadPart' hb, wpAny_forIn_list _ (fun rest c s1 => c.1 = none ∧ s1 = ⟨hp, g, d, tk, os⟩ ∧ ∀ q ∈ rest, q ∈ [(v1, u1), (v2, u2)]) _
    case turn =>
      rintro ⟨p1, p2⟩ more c s1 ⟨c0, rfl, hin⟩
      refine wpAny_bind (both (p1, p2) (hin _ List.mem_cons_self) _ _ ?_)
      wp_walk
      exact ⟨rfl, rfl, fun q hq => hin q (List.mem_cons_of_mem _ hq)⟩
    case fin =>
      rintro ⟨c1, c2⟩ s1 ⟨c0, rfl, _⟩
      simp only at c0
      subst c0
      wp_walk
      exact ⟨_, rfl, by simpa [Builtin.Tuple.tupleCompareSizes] using h⟩
    case h =>
      exact ⟨rfl, rfl, fun q hq => hq⟩
end
section
variable {prog : Program} {w : World} {A : Around} {s : Shared}
theorem rcNe_two {E : Value → Shared → Prop} {l b : Addr} {v1 v2 u1 u2 : Value} {Q : Value → Shared → Prop} (hl : s.heap.IsTuple l #[v1, v2]) (hb : s.heap.IsTuple b #[u1, u2]) (hu : A.units < cLine)
    (e1 : EqIn prog w A.in1 s v1 u1 true) (e2 : EqIn prog w A.in1 s v2 u2 true) (h : Q (.bool false) s) : wpAny (model prog w) A (richCompare .NotEq (.ref l) (.ref b)) Q E s := by
  obtain ⟨⟨c1, x1, y1, z1⟩, o1, q1, n, d1⟩ := id hl
  obtain ⟨⟨c2, x2, y2, z2⟩, o2, q2, m, d2⟩ := id hb
  simp only at q1 d1 q2 d2
  subst q1 d1 q2 d2
  exact wpAny_richCompare_same_room (T := "tuple") (op := .NotEq) ⟨_, o1, rfl⟩ ⟨_, o2, rfl⟩ F.slot_tuple_ne (call_meetsIn F.slot_tuple_ne ⟨_, o1, rfl⟩ F.entry_tuple_ne (F.args_tuple_ne_2 _ _) (ne_two l b v1 v2 u1 u2 n m x1 x2 z1 z2)
    ⟨o1, o2, e1, e2, show Value.bool false ≠ Value.notImplemented ∧ Q (.bool false) s from ⟨(fun x => nomatch x), h⟩⟩) hu
end
end PySem.SeqAt
namespace QR
open PySem PySem.Spec PyProof.Rows L2
section
variable {X : Cx}
/-- != of two pairs (a dict, an int) that are equal -/
def rNeTD (K : PySem.W.Frag) : R2 := fun x y H Q => ∃ a b d e ks ls, ∃ c : Int, x = .ref a ∧ y = .ref b ∧ SqT K H a [.ref d, .int c] ∧ SqT K H b [.ref e, .int c] ∧ H d = some (.dK ks) ∧ H e = some (.dK ls) ∧ ks.length = ls.length ∧ (∀ p ∈ ks, valV ls p.1 = some p.2 ∧ flatB p.2 = true) ∧ Q (.bl false) H
theorem op_neTD (hu : X.A.units + 64 < cLine) : OpR X (compareOp .NotEq) (rNeTD X.K) := by
  intro pins s σ H x y v u Q I rx ry h
  obtain ⟨a, b, d, e, ks, ls, c, rfl, rfl, ha, hb, hd, he, hl, hp, q⟩ := h
  obtain rfl : v = Value.ref a := rx
  obtain rfl : u = Value.ref b := ry
  obtain ⟨us, r1, p1, _⟩ := I.tuple ha
  obtain ⟨ws, r2, p2, _⟩ := I.tuple hb
  obtain ⟨z1, z2, rfl, q1, t1, rfl⟩ := Vals.two r1
  obtain ⟨z3, z4, rfl, q3, t2, rfl⟩ := Vals.two r2
  cases q1
  cases q3
  have E1 : EqV X.K H 2 (.ref d) (.ref e) := .inr (.inr (.inr ⟨d, e, ks, ls, rfl, rfl, hd, he, hl, fun p hpm => ⟨p.2, (hp p hpm).1, .inl ⟨rfl, (hp p hpm).2⟩⟩⟩))
  have F1 := eqV_run I 2 X.A.in1 (by show X.A.units + 1 + 2 < cLine; omega) _ _ _ _ E1 rfl rfl
  have F2 : SeqAt.EqIn X.prog X.w X.A.in1 s (.int c t1) (.int c t2) true := by
    have := (SeqAt.EqAt.int_int (A := X.A.in1) (s := s) c t1 c t2)
    rw [beq_self_eq_true] at this
    exact this.inModel _ _
  exact SeqAt.rcNe_two p1 p2 (by omega) F1 F2 ⟨.bl false, H, I, rfl, q⟩
end
end QR
set_option Elab.async false
set_option maxRecDepth 100000
set_option maxHeartbeats 1000000
namespace QM
open PySem L2 QR TL
abbrev lettersS : Str := "abcdefghijklmnopqrstuvwxyz"
abbrev signsS : Str := "abcdefghijklmnopqrstuvwxyz0123456789"
abbrev spS : Str := " "
abbrev plS : Str := " + "
/-- a name -/
structure IsNm (n : Str) : Prop where
  len : 1 ≤ n.cps.size ∧ n.cps.size ≤ 12
  hd : ∀ c, n.cps[0]? = some c → c ∈ lettersS.cps.toList
  all : ∀ c ∈ n.cps.toList, c ∈ signsS.cps.toList
open Classical in
noncomputable def isNm (n : Str) : Bool := decide (IsNm n)
open Classical in
theorem isNm_t {n : Str} (h : IsNm n) : isNm n = true := by unfold isNm; exact decide_eq_true h
open Classical in
theorem isNm_f {n : Str} (h : ¬ IsNm n) : isNm n = false := by unfold isNm; exact decide_eq_false h
open Classical in
theorem of_isNm {n : Str} (h : isNm n = true) : IsNm n := by unfold isNm at h; exact of_decide_eq_true h
theorem sign_le : ∀ c ∈ signsS.cps.toList, (48 ≤ c ∧ c ≤ 57) ∨ (97 ≤ c ∧ c ≤ 122) := by decide +kernel
theorem letter_le : ∀ c ∈ lettersS.cps.toList, 97 ≤ c ∧ c ≤ 122 := by decide +kernel
theorem IsNm.free {n : Str} (h : IsNm n) {s : Nat} (hs : s < 48) : s ∉ tl n := fun z => by
  have := sign_le s (h.all s z)
  omega
/-! ### numbers as texts -/
def numS (k : Int) : Str := (toString k : String)
theorem tl_numS (k : Nat) : tl (numS (k : Int)) = numL k := tl_num k
theorem numS_inj {a b : Nat} (h : numS (a : Int) = numS (b : Int)) : a = b := numL_inj (by rw [← tl_numS, ← tl_numS, h])
theorem numS_free {k : Int} (hk : 0 ≤ k) {s : Nat} (h : s < 48 ∨ 57 < s) : s ∉ tl (numS k) := by
  obtain ⟨n, rfl⟩ := Int.eq_ofNat_of_zero_le hk
  rw [tl_numS]; exact numL_free h
theorem numS_len {k : Int} (h0 : 0 ≤ k) (h1 : k < 100) : (numS k).length ≤ 2 := by
  obtain ⟨n, rfl⟩ := Int.eq_ofNat_of_zero_le h0
  rw [len_tl, tl_numS]
  exact numL_len (by decide) (by omega)
theorem numS_head {k : Int} (hk : 0 ≤ k) : ∃ c, (numS k).cps[0]? = some c ∧ 48 ≤ c ∧ c ≤ 57 := by
  obtain ⟨n, rfl⟩ := Int.eq_ofNat_of_zero_le hk
  have e := tl_numS n
  have ne := numL_ne n
  cases hl : numL n with
  | nil => exact absurd hl ne
  | cons c r =>
    rw [hl] at e
    refine ⟨c, ?_, ?_⟩
    · rw [← Array.getElem?_toList]
      show (tl (numS (n : Int)))[0]? = some c
      rw [e]; rfl
    · have : c ∈ numL n := by rw [hl]; exact List.mem_cons_self
      rcases Nat.lt_or_ge c 48 with h | h
      · exact absurd this (numL_free (.inl h))
      · rcases Nat.lt_or_ge 57 c with h2 | h2
        · exact absurd this (numL_free (.inr h2))
        · exact ⟨h, h2⟩
theorem numS_no {k : Int} (hk : 0 ≤ k) : ¬ IsNm (numS k) := fun h => by
  obtain ⟨c, hc, h1, h2⟩ := numS_head hk
  have := letter_le c (h.hd c hc)
  omega
def nums (n : Nat) : List Str := (List.range n).map fun k : Nat => numS (k : Int)
theorem nums_len (n : Nat) : (nums n).length = n := by unfold nums; rw [List.length_map, List.length_range]
theorem nums_get {n k : Nat} (h : k < n) : (nums n)[k]? = some (numS (k : Int)) := by
  unfold nums
  rw [List.getElem?_map, List.getElem?_range h]; rfl
theorem nums_drop {n d : Nat} {t : Str} : t ∈ (nums n).drop d ↔ ∃ k, d ≤ k ∧ k < n ∧ t = numS (k : Int) := by
  rw [List.mem_iff_getElem?]
  constructor
  · rintro ⟨i, hi⟩
    rw [List.getElem?_drop] at hi
    have hl : d + i < n := by
      rcases Nat.lt_or_ge (d + i) n with z | z
      · exact z
      · rw [List.getElem?_eq_none (by rw [nums_len]; exact z)] at hi; cases hi
    rw [nums_get hl] at hi
    exact ⟨d + i, by omega, hl, (Option.some.inj hi).symm⟩
  · rintro ⟨k, h1, h2, rfl⟩
    exact ⟨k - d, by rw [List.getElem?_drop, show d + (k - d) = k by omega, nums_get h2]⟩
theorem nums_mem {n : Nat} {t : Str} : t ∈ nums n ↔ ∃ k, k < n ∧ t = numS (k : Int) := by
  have := nums_drop (n := n) (d := 0) (t := t)
  simp only [List.drop_zero, Nat.zero_le, true_and] at this
  exact this
/-- the number that a text says, if it says one below n -/
def nIx (n : Nat) (t : Str) : Option Nat := (List.range n).find? fun k : Nat => decide (numS (k : Int) = t)
theorem nIx_num {n k : Nat} (h : k < n) : nIx n (numS (k : Int)) = some k := by
  unfold nIx
  rw [List.find?_range_eq_some]
  refine ⟨decide_eq_true rfl, List.mem_range.mpr h, fun j hj => ?_⟩
  simp only [decide_eq_true_eq, Bool.not_eq_true', decide_eq_false_iff_not]
  intro z
  have := numS_inj z
  omega
theorem nIx_none {n : Nat} {t : Str} (h : t ∉ nums n) : nIx n t = none := by
  unfold nIx
  rw [List.find?_eq_none]
  intro k hk z
  exact h (nums_mem.mpr ⟨k, List.mem_range.mp hk, (of_decide_eq_true z).symm⟩)
def nv (n : Nat) (t : Str) : Int := match nIx n t with | some k => (k : Int) | none => 0
theorem nv_num {n k : Nat} (h : k < n) : nv n (numS (k : Int)) = k := by unfold nv; rw [nIx_num h]
theorem nv_none {n : Nat} {t : Str} (h : t ∉ nums n) : nv n t = 0 := by unfold nv; rw [nIx_none h]
theorem nv_range {n : Nat} (h0 : 0 < n) (t : Str) : 0 ≤ nv n t ∧ nv n t < n := by
  by_cases h : t ∈ nums n
  · obtain ⟨k, hk, rfl⟩ := nums_mem.mp h
    rw [nv_num hk]; omega
  · rw [nv_none h]; omega
/-! ### words -/
theorem tl_sp : tl spS = [32] := by decide +kernel
theorem tl_pl : tl plS = [32, 43, 32] := by decide +kernel
def wds (t : Str) : List Str := Txt.split t spS
theorem wds_back (t : Str) : Str.join spS (wds t) = t := StrLaws.join_split t spS
theorem wds_pos (t : Str) : 1 ≤ (wds t).length := PyProof.Rows.split_pos t spS
theorem wds_of {parts : List Str} (hne : parts ≠ []) (hp : ∀ p ∈ parts, 32 ∉ tl p) : wds (Str.join spS parts) = parts := by
  have := split_join (y := spS) (s := 32) (S := []) tl_sp (by decide +kernel) hne hp
  rwa [join_eq] at this
theorem join1 (y a : Str) : Str.join y [a] = a := rfl
theorem join2 (y a b : Str) : Str.join y [a, b] = a ++ y ++ b := rfl
theorem wds_nm {t : Str} (h : 32 ∉ tl t) : wds t = [t] := by
  have := wds_of (parts := [t]) (by simp) (fun p hp => by rw [List.mem_singleton.mp hp]; exact h)
  rwa [join1] at this
theorem wds_two {a b : Str} (ha : 32 ∉ tl a) (hb : 32 ∉ tl b) : wds (a ++ spS ++ b) = [a, b] := by
  have := wds_of (parts := [a, b]) (by simp) (fun p hp => by
    rcases List.mem_cons.mp hp with e | e
    · rw [e]; exact ha
    · rw [List.mem_singleton.mp e]; exact hb)
  rwa [join2] at this
/-! ### terms -/
def trms (t : Str) : List Str := Txt.split t plS
theorem trms_back (t : Str) : Str.join plS (trms t) = t := StrLaws.join_split t plS
theorem trms_pos (t : Str) : 1 ≤ (trms t).length := PyProof.Rows.split_pos t plS
theorem pl_free {p q : List Nat} (h : 43 ∉ p) (hq : q = [] ∨ ∃ r, q = [32, 43, 32] ++ r) : ∀ i, i < p.length → pre [32, 43, 32] ((p ++ q).drop i) = false := fun i hi => by
  have e : (p ++ q).drop i = p[i] :: (p.drop (i + 1) ++ q) := by
    rw [List.drop_append_of_le_length (by omega), List.drop_eq_getElem_cons hi]; rfl
  rw [e]
  by_cases h32 : p[i] = 32
  · unfold pre
    rw [h32]
    cases hd : p.drop (i + 1) with
    | cons c r =>
      have hc : c ∈ p := List.mem_of_mem_drop (i := i + 1) (by rw [hd]; exact List.mem_cons_self)
      have : c ≠ 43 := fun z => h (z ▸ hc)
      simp only [List.length_cons, List.length_nil, List.cons_append, List.take_succ_cons]
      rw [beq_eq_false_iff_ne]
      intro z
      simp only [List.cons.injEq] at z
      exact this z.2.1
    | nil =>
      rcases hq with rfl | ⟨r, rfl⟩
      · decide
      · simp only [List.nil_append, List.length_cons, List.length_nil, List.cons_append, List.take_succ_cons]
        rw [beq_eq_false_iff_ne]
        intro z
        simp at z
  · exact pre_of_head _ _ h32
theorem spl_plus : ∀ {parts : List (List Nat)}, parts ≠ [] → (∀ p ∈ parts, 43 ∉ p) → spl [32, 43, 32] 0 [] (joinL [32, 43, 32] parts) = parts
  | [], h, _ => absurd rfl h
  | [p], _, hp => by
    show spl [32, 43, 32] 0 [] p = [p]
    have := spl_last (S := [32, 43, 32]) (acc := []) (p := p) (fun i hi => by have := pl_free (hp p List.mem_cons_self) (.inl rfl) i hi; rwa [List.append_nil] at this)
    rwa [List.nil_append] at this
  | p :: q :: r, _, hp => by
    show spl [32, 43, 32] 0 [] (p ++ ([32, 43, 32] ++ joinL [32, 43, 32] (q :: r))) = p :: q :: r
    rw [spl_part (by simp) (pl_free (hp p List.mem_cons_self) (.inr ⟨_, rfl⟩)), List.nil_append, spl_plus (by simp) fun z hz => hp z (List.mem_cons_of_mem _ hz)]
theorem trms_of {parts : List Str} (hne : parts ≠ []) (hp : ∀ p ∈ parts, 43 ∉ tl p) : trms (Str.join plS parts) = parts := by
  refine map_tl_inj ?_
  unfold trms
  rw [split_spl _ plS (by rw [tl_pl]; simp) (kind_ok (by decide +kernel)), tl_join, tl_pl]
  refine spl_plus (fun e => hne (List.map_eq_nil_iff.mp e)) fun p h => ?_
  obtain ⟨z, hz, rfl⟩ := List.mem_map.mp h
  exact hp z hz
theorem joinL_len (S : List Nat) : ∀ parts : List (List Nat), (parts.map List.length).sum + S.length * (parts.length - 1) = (joinL S parts).length
  | [] => by simp [joinL]
  | [p] => by simp [joinL]
  | p :: q :: r => by
    have ih := joinL_len S (q :: r)
    show _ = (p ++ (S ++ joinL S (q :: r))).length
    rw [List.length_append, List.length_append, ← ih]
    simp only [List.map_cons, List.sum_cons, List.length_cons]
    rw [show r.length + 1 + 1 - 1 = (r.length + 1 - 1) + 1 by omega, Nat.mul_add]
    omega
theorem join_len (y : Str) (parts : List Str) : (Str.join y parts).length = (parts.map (·.length)).sum + y.length * (parts.length - 1) := by
  rw [len_tl, tl_join, ← joinL_len, List.length_map, List.map_map, len_tl y]
  congr 2
theorem trms_len (t : Str) : 3 * (trms t).length ≤ t.length + 3 := by
  have := join_len plS (trms t)
  rw [trms_back] at this
  have h3 : plS.length = 3 := by decide +kernel
  rw [h3] at this
  omega
end QM
set_option Elab.async false
set_option maxRecDepth 100000
set_option maxHeartbeats 1000000
namespace QM
open PySem L2 QR TL
/-! ### the text of a sum -/
def tt (p : Str × Int) : Str := if p.2 = 1 then p.1 else numS p.2 ++ spS ++ p.1
def tms (ws : Ws) (c : Int) : List Str := ws.map tt ++ (if c ≠ 0 ∨ ws = [] then [numS c] else [])
def txt (ws : Ws) (c : Int) : Str := Txt.join plS (tms ws c)
/-- a pair that a sum may hold -/
structure Gd (n : Nat) (p : Str × Int) : Prop where
  nm : IsNm p.1
  lo : 1 ≤ p.2
  hi : p.2 < n
/-- weights and constant of a sum -/
structure Rep (n : Nat) (ws : Ws) (c : Int) : Prop where
  gd : ∀ p ∈ ws, Gd n p
  srt : ws.Pairwise fun a b => stLt a.1 b.1
  c0 : 0 ≤ c
  c1 : c < n
theorem Rep.nd {n : Nat} {ws : Ws} {c : Int} (h : Rep n ws c) : (ws.map (·.1)).Nodup := by
  rw [List.nodup_iff_pairwise_ne, List.pairwise_map]
  exact h.srt.imp fun {a b} z => z.ne
theorem tt_free {n : Nat} {p : Str × Int} (h : Gd n p) : 43 ∉ tl (tt p) := by
  unfold tt
  by_cases e : p.2 = 1
  · rw [if_pos e]; exact h.nm.free (by omega)
  · rw [if_neg e, tl_append, tl_append, tl_sp]
    intro z
    have hl := h.lo
    rcases List.mem_append.mp z with z | z
    · rcases List.mem_append.mp z with z | z
      · exact numS_free (by omega) (.inl (by omega)) z
      · simp at z
    · exact h.nm.free (by omega) z
theorem tms_ne (ws : Ws) (c : Int) : tms ws c ≠ [] := by
  unfold tms
  by_cases e : ws = []
  · rw [if_pos (.inr e)]; simp
  · intro z
    have := (List.append_eq_nil_iff.mp z).1
    exact e (List.map_eq_nil_iff.mp this)
theorem tms_free {n : Nat} {ws : Ws} {c : Int} (h : Rep n ws c) : ∀ t ∈ tms ws c, 43 ∉ tl t := fun t ht => by
  unfold tms at ht
  rcases List.mem_append.mp ht with z | z
  · obtain ⟨p, hp, rfl⟩ := List.mem_map.mp z
    exact tt_free (h.gd p hp)
  · by_cases e : c ≠ 0 ∨ ws = []
    · rw [if_pos e] at z
      rw [List.mem_singleton.mp z]
      exact numS_free h.c0 (.inl (by omega))
    · rw [if_neg e] at z; cases z
theorem trms_txt {n : Nat} {ws : Ws} {c : Int} (h : Rep n ws c) : trms (txt ws c) = tms ws c := by
  unfold txt
  rw [join_eq]
  exact trms_of (tms_ne ws c) (tms_free h)
theorem wds_tt {n : Nat} {p : Str × Int} (h : Gd n p) : wds (tt p) = if p.2 = 1 then [p.1] else [numS p.2, p.1] := by
  unfold tt
  by_cases e : p.2 = 1
  · rw [if_pos e, if_pos e]; exact wds_nm (h.nm.free (by omega))
  · rw [if_neg e, if_neg e]
    have := h.lo
    exact wds_two (numS_free (by omega) (.inl (by omega))) (h.nm.free (by omega))
theorem wds_num {k : Int} (hk : 0 ≤ k) : wds (numS k) = [numS k] := wds_nm (numS_free hk (.inl (by omega)))
/-! ### what parse does with one term -/
noncomputable def pstep (n : Nat) (s : Ws × Int) (t : Str) : Ws × Int :=
  if (wds t).length = 1 ∧ isNm t = false then (s.1, nv n t)
  else if isNm ((wds t).getLastD t) = true then (putS s.1 ((wds t).getLastD t) (if (wds t).length = 1 then 1 else nv n ((wds t).headD t)), s.2)
  else s
noncomputable def pfold (n : Nat) (l : List Str) : Ws × Int := l.foldl (pstep n) ([], 0)
theorem pfold_snoc (n : Nat) (l : List Str) (t : Str) : pfold n (l ++ [t]) = pstep n (pfold n l) t := by unfold pfold; rw [List.foldl_append]; rfl
theorem pstep_tt {n : Nat} {p : Str × Int} (h : Gd n p) (s : Ws × Int) : pstep n s (tt p) = (putS s.1 p.1 p.2, s.2) := by
  unfold pstep
  rw [wds_tt h]
  by_cases e : p.2 = 1
  · have ht : tt p = p.1 := by unfold tt; rw [if_pos e]
    rw [if_pos e, ht, if_neg (by rw [isNm_t h.nm]; simp)]
    show (if isNm p.1 = true then (putS s.1 p.1 (if 1 = 1 then 1 else _), s.2) else s) = _
    rw [if_pos (isNm_t h.nm), if_pos rfl, e]
  · rw [if_neg e, if_neg (by rintro ⟨z, _⟩; cases z)]
    show (if isNm p.1 = true then (putS s.1 p.1 (if 2 = 1 then 1 else nv n (numS p.2)), s.2) else s) = _
    rw [if_pos (isNm_t h.nm), if_neg (by omega)]
    have h1 := h.lo
    have h2 := h.hi
    obtain ⟨k, hk⟩ := Int.eq_ofNat_of_zero_le (show 0 ≤ p.2 by omega)
    rw [hk, nv_num (by omega)]
theorem pstep_num {n : Nat} {c : Int} (h0 : 0 ≤ c) (h1 : c < n) (s : Ws × Int) : pstep n s (numS c) = (s.1, c) := by
  unfold pstep
  rw [wds_num h0, if_pos ⟨rfl, isNm_f (numS_no h0)⟩]
  obtain ⟨k, hk⟩ := Int.eq_ofNat_of_zero_le h0
  rw [hk, nv_num (by omega)]
theorem pfold_tts {n : Nat} : ∀ (vs ws : Ws) (c : Int), (∀ p ∈ vs, Gd n p) → ((ws ++ vs).map (·.1)).Nodup → (vs.map tt).foldl (pstep n) (ws, c) = (ws ++ vs, c)
  | [], ws, c, _, _ => by simp
  | p :: r, ws, c, hg, hn => by
    rw [List.map_cons, List.foldl_cons, pstep_tt (hg p List.mem_cons_self)]
    have hp : ¬ p.1 ∈ ws.map (·.1) := fun z => by
      rw [List.map_append, List.map_cons] at hn
      exact (List.nodup_append.mp hn).2.2 p.1 z p.1 List.mem_cons_self rfl
    show (r.map tt).foldl (pstep n) (putS ws p.1 p.2, c) = _
    rw [putS_new hp, pfold_tts r (ws ++ [(p.1, p.2)]) c (fun x hx => hg x (List.mem_cons_of_mem _ hx)) (by rw [List.append_assoc]; exact hn), List.append_assoc]
    rfl
theorem pfold_tms {n : Nat} {ws : Ws} {c : Int} (h : Rep n ws c) : pfold n (tms ws c) = (ws, c) := by
  unfold pfold tms
  rw [List.foldl_append, pfold_tts ws [] 0 h.gd (by rw [List.nil_append]; exact h.nd), List.nil_append]
  by_cases e : c ≠ 0 ∨ ws = []
  · rw [if_pos e]
    exact pstep_num h.c0 h.c1 _
  · rw [if_neg e]
    have : c = 0 := Classical.byContradiction fun z => e (.inl z)
    rw [this]; rfl
theorem txt_inj {n : Nat} {ws vs : Ws} {c d : Int} (h : Rep n ws c) (h' : Rep n vs d) (e : txt ws c = txt vs d) : ws = vs ∧ c = d := by
  have e1 := congrArg trms e
  rw [trms_txt h, trms_txt h'] at e1
  have e2 := congrArg (pfold n) e1
  rw [pfold_tms h, pfold_tms h'] at e2
  exact ⟨congrArg Prod.fst e2, congrArg Prod.snd e2⟩
/-- what parse has read so far: at most k names with numbers -/
structure POk (n : Nat) (s : Ws × Int) (k : Nat) : Prop where
  gd : ∀ p ∈ s.1, IsNm p.1 ∧ 0 ≤ p.2 ∧ p.2 < n
  nd : (s.1.map (·.1)).Nodup
  len : s.1.length ≤ k
  c0 : 0 ≤ s.2
  c1 : s.2 < n
theorem pstep_ok {n : Nat} (h0 : 2 ≤ n) {s : Ws × Int} {k : Nat} (h : POk n s k) (t : Str) : POk n (pstep n s t) (k + 1) := by
  have hlen := h.len
  unfold pstep
  by_cases e1 : (wds t).length = 1 ∧ isNm t = false
  · rw [if_pos e1]
    have := nv_range (n := n) (by omega) t
    exact ⟨h.gd, h.nd, by show s.1.length ≤ _; omega, this.1, this.2⟩
  · rw [if_neg e1]
    by_cases e2 : isNm ((wds t).getLastD t) = true
    · rw [if_pos e2]
      have hv : 0 ≤ (if (wds t).length = 1 then (1 : Int) else nv n ((wds t).headD t)) ∧ (if (wds t).length = 1 then (1 : Int) else nv n ((wds t).headD t)) < n := by
        by_cases e3 : (wds t).length = 1
        · rw [if_pos e3]; omega
        · rw [if_neg e3]; exact nv_range (by omega) _
      refine ⟨fun p hp => ?_, putS_nd h.nd, ?_, h.c0, h.c1⟩
      · rcases putS_mem hp with z | z
        · rw [z]; exact ⟨of_isNm e2, hv⟩
        · exact h.gd p z
      · show (putS s.1 _ _).length ≤ _
        by_cases hm : (wds t).getLastD t ∈ s.1.map (·.1)
        · rw [putS_old hm, List.length_map]; omega
        · rw [putS_new hm, List.length_append, List.length_singleton]; omega
    · rw [if_neg e2]
      exact ⟨h.gd, h.nd, by omega, h.c0, h.c1⟩
theorem pfold_from {n : Nat} (h0 : 2 ≤ n) : ∀ (l : List Str) (s : Ws × Int) (k : Nat), POk n s k → POk n (l.foldl (pstep n) s) (k + l.length)
  | [], _, _, h => h
  | t :: r, s, k, h => by
    have := pfold_from h0 r _ _ (pstep_ok h0 h t)
    rw [List.foldl_cons, List.length_cons]
    rwa [show k + (r.length + 1) = k + 1 + r.length by omega]
theorem pfold_ok {n : Nat} (h0 : 2 ≤ n) (l : List Str) : POk n (pfold n l) l.length := by
  have := pfold_from h0 l ([], 0) 0 ⟨(fun _ h => nomatch h), List.nodup_nil, Nat.le_refl _, Int.le_refl _, by show (0 : Int) < n; omega⟩
  rwa [Nat.zero_add] at this
/-! ### what the law reads -/
noncomputable def rstep (n : Nat) (last : Bool) (s : Ws × Int) (t : Str) : Option (Ws × Int) :=
  open Classical in
  if t ∈ (nums n).drop 1 ∧ last = true then some (s.1, nv n t)
  else if isNm ((wds t).getLastD t) = false ∨ 2 < (wds t).length then none
  else if (wds t).length = 2 ∧ (wds t).headD t ∉ (nums n).drop 2 then none
  else if ¬ ∀ p ∈ s.1, stLt p.1 ((wds t).getLastD t) then none
  else some (putS s.1 ((wds t).getLastD t) (if (wds t).length = 1 then 1 else nv n ((wds t).headD t)), s.2)
noncomputable def rpre (n : Nat) (L : List Str) : Nat → Option (Ws × Int)
  | 0 => some ([], 0)
  | i + 1 => (rpre n L i).bind fun s => rstep n (decide (i + 1 = L.length)) s (L.getD i spS)
noncomputable def rd (n : Nat) (t : Str) : Option (Ws × Int) := if trms t = [numS 0] then some ([], 0) else rpre n (trms t) (trms t).length
theorem rpre_none {n : Nat} {L : List Str} {i : Nat} (h : rpre n L i = none) : ∀ k, rpre n L (i + k) = none
  | 0 => h
  | k + 1 => by
    show (rpre n L (i + k)).bind _ = none
    rw [rpre_none h k]; rfl
/-- the words of a term that is taken as a name's -/
theorem term_of {n : Nat} {t : Str} (h1 : ¬ (isNm ((wds t).getLastD t) = false ∨ 2 < (wds t).length)) (h2 : ¬ ((wds t).length = 2 ∧ (wds t).headD t ∉ (nums n).drop 2)) (hn : 2 ≤ n) :
    Gd n ((wds t).getLastD t, if (wds t).length = 1 then 1 else nv n ((wds t).headD t)) ∧ t = tt ((wds t).getLastD t, if (wds t).length = 1 then 1 else nv n ((wds t).headD t)) := by
  have hb := wds_back t
  have hp := wds_pos t
  have hnm : IsNm ((wds t).getLastD t) := of_isNm (by
    cases hc : isNm ((wds t).getLastD t) with
    | true => rfl
    | false => exact absurd (.inl hc) h1)
  have hl2 : (wds t).length ≤ 2 := Nat.le_of_not_lt fun z => h1 (.inr z)
  generalize hw : wds t = w at *
  match w, hp, hl2 with
  | [a], _, _ =>
    rw [join1] at hb
    refine ⟨⟨hnm, by show (1 : Int) ≤ 1; omega, by show (1 : Int) < n; omega⟩, ?_⟩
    unfold tt
    rw [if_pos (by rfl)]
    exact hb.symm
  | [a, b], _, _ =>
    rw [join2] at hb
    have hm : a ∈ (nums n).drop 2 := Classical.byContradiction fun z => h2 ⟨rfl, z⟩
    obtain ⟨k, k1, k2, rfl⟩ := nums_drop.mp hm
    have e : (if ([numS (k : Int), b] : List Str).length = 1 then (1 : Int) else nv n (([numS (k : Int), b] : List Str).headD t)) = (k : Int) := by
      show (if 2 = 1 then (1 : Int) else nv n (numS (k : Int))) = k
      rw [if_neg (by omega), nv_num k2]
    rw [e]
    refine ⟨⟨hnm, by show (1 : Int) ≤ k; omega, by show (k : Int) < n; omega⟩, ?_⟩
    unfold tt
    rw [if_neg (by show ¬ (k : Int) = 1; omega)]
    exact hb.symm
structure RInv (n : Nat) (L : List Str) (i : Nat) (s : Ws × Int) : Prop where
  rep : Rep n s.1 s.2
  tk : L.take i = s.1.map tt ++ (if s.2 ≠ 0 then [numS s.2] else [])
  lst : s.2 ≠ 0 → i = L.length
theorem rpre_inv {n : Nat} (hn : 2 ≤ n) {L : List Str} : ∀ {i : Nat} {s : Ws × Int}, i ≤ L.length → rpre n L i = some s → RInv n L i s
  | 0, s, _, h => by
    cases h
    exact ⟨⟨(fun _ hp => nomatch hp), List.Pairwise.nil, Int.le_refl _, by show (0 : Int) < n; omega⟩, rfl, fun z => absurd rfl z⟩
  | i + 1, s', hi, h => by
    cases hr : rpre n L i with
    | none =>
      have : (rpre n L i).bind (fun s => rstep n (decide (i + 1 = L.length)) s (L.getD i spS)) = some s' := h
      rw [hr] at this; cases this
    | some s =>
      have h' : rstep n (decide (i + 1 = L.length)) s (L.getD i spS) = some s' := by
        have : (rpre n L i).bind (fun s => rstep n (decide (i + 1 = L.length)) s (L.getD i spS)) = some s' := h
        rw [hr] at this; exact this
      have I := rpre_inv hn (i := i) (by omega) hr
      have hlt : i < L.length := by omega
      have hg : L.getD i spS = L[i] := by rw [List.getD_eq_getElem?_getD, List.getElem?_eq_getElem hlt]; rfl
      have hc : s.2 = 0 := Classical.byContradiction fun z => by have := I.lst z; omega
      have htk : L.take (i + 1) = s.1.map tt ++ [L[i]] := by
        rw [List.take_add_one, List.getElem?_eq_getElem hlt, I.tk, if_neg (by rw [hc]; simp)]
        simp
      rw [hg] at h'
      unfold rstep at h'
      by_cases e1 : L[i] ∈ (nums n).drop 1 ∧ decide (i + 1 = L.length) = true
      · rw [if_pos e1] at h'
        cases h'
        obtain ⟨k, k1, k2, e⟩ := nums_drop.mp e1.1
        have ev : nv n L[i] = k := by rw [e, nv_num k2]
        refine ⟨⟨I.rep.gd, I.rep.srt, ?_, ?_⟩, ?_, fun _ => of_decide_eq_true e1.2⟩
        · show 0 ≤ nv n L[i]; rw [ev]; omega
        · show nv n L[i] < n; rw [ev]; omega
        · show _ = s.1.map tt ++ (if nv n L[i] ≠ 0 then [numS (nv n L[i])] else [])
          rw [htk, ev, if_pos (by omega), e]
      · rw [if_neg e1] at h'
        by_cases e2 : isNm ((wds L[i]).getLastD L[i]) = false ∨ 2 < (wds L[i]).length
        · rw [if_pos e2] at h'; cases h'
        · rw [if_neg e2] at h'
          by_cases e3 : (wds L[i]).length = 2 ∧ (wds L[i]).headD L[i] ∉ (nums n).drop 2
          · rw [if_pos e3] at h'; cases h'
          · rw [if_neg e3] at h'
            by_cases e4 : ¬ ∀ p ∈ s.1, stLt p.1 ((wds L[i]).getLastD L[i])
            · rw [if_pos e4] at h'; cases h'
            · rw [if_neg e4] at h'
              cases h'
              have e4' := Classical.not_not.mp e4
              obtain ⟨g, et⟩ := term_of e2 e3 hn
              have hnot : ¬ (wds L[i]).getLastD L[i] ∈ s.1.map (·.1) := fun z => by
                obtain ⟨p, hp, ep⟩ := List.mem_map.mp z
                exact (e4' p hp).ne ep
              rw [putS_new hnot]
              refine ⟨⟨fun p hp => ?_, ?_, I.rep.c0, I.rep.c1⟩, ?_, fun z => absurd hc z⟩
              · rcases List.mem_append.mp hp with z | z
                · exact I.rep.gd p z
                · rw [List.mem_singleton.mp z]; exact g
              · show (s.1 ++ [_]).Pairwise _
                rw [List.pairwise_append]
                refine ⟨I.rep.srt, List.pairwise_singleton _ _, fun a ha b hb => ?_⟩
                rw [List.mem_singleton.mp hb]
                exact e4' a ha
              · show _ = (s.1 ++ [_]).map tt ++ (if s.2 ≠ 0 then _ else [])
                rw [htk, if_neg (show ¬ s.2 ≠ 0 from fun z => z hc), List.map_append, List.append_nil]
                rw [List.map_singleton, ← et]
theorem rd_some {n : Nat} (hn : 2 ≤ n) {t : Str} {s : Ws × Int} (h : rd n t = some s) : Rep n s.1 s.2 ∧ t = txt s.1 s.2 := by
  unfold rd at h
  by_cases e : trms t = [numS 0]
  · rw [if_pos e] at h
    cases h
    refine ⟨⟨(fun _ hp => nomatch hp), List.Pairwise.nil, Int.le_refl _, by show (0 : Int) < n; omega⟩, ?_⟩
    unfold txt
    rw [join_eq]
    conv => lhs; rw [← trms_back t, e]
    rfl
  · rw [if_neg e] at h
    have I := rpre_inv hn (Nat.le_refl _) h
    refine ⟨I.rep, ?_⟩
    have hL : trms t = tms s.1 s.2 := by
      have h1 := I.tk
      rw [List.take_length] at h1
      rw [h1]
      unfold tms
      by_cases ec : s.2 ≠ 0
      · rw [if_pos ec, if_pos (.inl ec)]
      · rw [if_neg ec]
        by_cases ew : s.1 = []
        · rw [if_neg ec, ew] at h1
          have := trms_pos t
          rw [h1] at this
          simp at this
        · rw [if_neg (fun z => z.elim (fun z => ec z) fun z => ew z)]
    unfold txt
    rw [join_eq, ← hL, trms_back]
theorem tt_not_num {n : Nat} {p : Str × Int} (h : Gd n p) {m d : Nat} : tt p ∉ (nums m).drop d := fun z => by
  obtain ⟨k, _, _, e⟩ := nums_drop.mp z
  have e1 := congrArg wds e
  rw [wds_tt h, wds_num (by omega)] at e1
  by_cases e2 : p.2 = 1
  · rw [if_pos e2] at e1
    have : p.1 = numS (k : Int) := by simpa using e1
    exact numS_no (k := (k : Int)) (by omega) (this ▸ h.nm)
  · rw [if_neg e2] at e1
    have := congrArg List.length e1
    simp at this
theorem rpre_tms {n : Nat} {ws : Ws} {c : Int} (h : Rep n ws c) (hL : tms ws c ≠ [numS 0]) : ∀ i, i ≤ ws.length → rpre n (tms ws c) i = some (ws.take i, 0)
  | 0, _ => rfl
  | i + 1, hi => by
    show (rpre n (tms ws c) i).bind _ = _
    rw [rpre_tms h hL i (by omega)]
    show rstep n _ (ws.take i, 0) ((tms ws c).getD i spS) = _
    have hlt : i < ws.length := by omega
    have hg : (tms ws c).getD i spS = tt ws[i] := by
      unfold tms
      rw [List.getD_eq_getElem?_getD, List.getElem?_append_left (by rw [List.length_map]; exact hlt), List.getElem?_map, List.getElem?_eq_getElem hlt]; rfl
    have gd := h.gd ws[i] (List.getElem_mem hlt)
    rw [hg]
    unfold rstep
    rw [if_neg (fun z => tt_not_num gd z.1), wds_tt gd]
    have hs : ∀ p ∈ ws.take i, stLt p.1 ws[i].1 := fun p hp => by
      have := h.srt
      rw [← List.take_append_drop i ws, List.pairwise_append] at this
      refine this.2.2 p hp ws[i] ?_
      rw [List.drop_eq_getElem_cons hlt]; exact List.mem_cons_self
    have hnot : ¬ ws[i].1 ∈ (ws.take i).map (·.1) := fun z => by
      obtain ⟨p, hp, ep⟩ := List.mem_map.mp z
      exact (hs p hp).ne ep
    have etk : ws.take (i + 1) = ws.take i ++ [(ws[i].1, ws[i].2)] := by rw [List.take_add_one, List.getElem?_eq_getElem hlt]; rfl
    have nmf : ¬ isNm ws[i].1 = false := by rw [isNm_t gd.nm]; simp
    by_cases e : ws[i].2 = 1
    · rw [if_pos e, if_neg (fun z => z.elim (fun z => nmf z) fun z => absurd z (by show ¬ 2 < 1; omega)), if_neg (by rintro ⟨z, _⟩; cases z), if_neg (fun z => z hs)]
      show some (putS (ws.take i) ws[i].1 (if 1 = 1 then 1 else _), (0 : Int)) = _
      rw [if_pos rfl, putS_new hnot, etk, e]
    · have h1 := gd.lo
      have h2 := gd.hi
      obtain ⟨k, hk⟩ := Int.eq_ofNat_of_zero_le (show 0 ≤ ws[i].2 by omega)
      have hm : numS ws[i].2 ∈ (nums n).drop 2 := nums_drop.mpr ⟨k, by omega, by omega, by rw [hk]⟩
      rw [if_neg e, if_neg (fun z => z.elim (fun z => nmf z) fun z => absurd z (by show ¬ 2 < 2; omega)), if_neg (by rintro ⟨_, z⟩; exact z hm), if_neg (fun z => z hs)]
      show some (putS (ws.take i) ws[i].1 (if 2 = 1 then 1 else nv n (numS ws[i].2)), (0 : Int)) = _
      rw [if_neg (by omega), putS_new hnot, etk, hk, nv_num (by omega)]
theorem rd_txt {n : Nat} {ws : Ws} {c : Int} (h : Rep n ws c) : rd n (txt ws c) = some (ws, c) := by
  unfold rd
  rw [trms_txt h]
  by_cases e : tms ws c = [numS 0]
  · rw [if_pos e]
    have e1 := pfold_tms h
    rw [e] at e1
    have h1 := h.c0
    have h2 := h.c1
    have e2 : pfold n [numS 0] = ([], 0) := pstep_num (n := n) (c := 0) (by omega) (by omega) ([], 0)
    rw [← e1, e2]
  · rw [if_neg e]
    have hw := rpre_tms h e ws.length (Nat.le_refl _)
    rw [List.take_length] at hw
    by_cases ec : c ≠ 0
    · have hl : (tms ws c).length = ws.length + 1 := by unfold tms; rw [if_pos (.inl ec), List.length_append, List.length_map]; rfl
      rw [hl]
      show (rpre n (tms ws c) ws.length).bind _ = _
      rw [hw]
      show rstep n (decide (ws.length + 1 = (tms ws c).length)) (ws, 0) ((tms ws c).getD ws.length spS) = _
      have hg : (tms ws c).getD ws.length spS = numS c := by
        unfold tms
        rw [if_pos (.inl ec), List.getD_eq_getElem?_getD, List.getElem?_append_right (by rw [List.length_map]; exact Nat.le_refl _), List.length_map, Nat.sub_self]; rfl
      have h1 := h.c0
      have h2 := h.c1
      obtain ⟨k, hk⟩ := Int.eq_ofNat_of_zero_le h1
      rw [hg]
      unfold rstep
      rw [if_pos ⟨nums_drop.mpr ⟨k, by omega, by omega, by rw [hk]⟩, decide_eq_true hl.symm⟩]
      rw [hk, nv_num (by omega)]
    · have ec' : c = 0 := Classical.not_not.mp ec
      have ew : ws ≠ [] := fun z => e (by unfold tms; rw [if_pos (.inr z), z, ec']; rfl)
      have hl : (tms ws c).length = ws.length := by unfold tms; rw [if_neg (fun z => z.elim (fun z => ec z) fun z => ew z), List.append_nil, List.length_map]
      rw [hl, hw, ec']
end QM
set_option Elab.async false
set_option maxRecDepth 100000
set_option maxHeartbeats 4000000
namespace Q
open PySem L2 QR QM
/-! ### the text by places -/
def top (i : Nat) : Stmt := PySem.Challenge.pw_quietsums_k12_texts_of_sums.main.body.getD i (.Pass ⟨0, 0, 0, 0⟩)
abbrev sIsInteger : Stmt := top 15
abbrev sIsNumber : Stmt := top 16
abbrev sIsName : Stmt := top 17
abbrev sIsWorld : Stmt := top 18
abbrev sWantModulus : Stmt := top 19
abbrev sNumberOf : Stmt := top 20
abbrev sTermText : Stmt := top 21
abbrev sTextInit : Stmt := inClass (top 8) 0
abbrev sInit : Stmt := inClass (top 22) 0
abbrev sParse : Stmt := inClass (top 22) 2
abbrev sConstant : Stmt := inClass (top 22) 4
abbrev sWeights : Stmt := inClass (top 22) 6
abbrev sMul : Stmt := inClass (top 22) 13
abbrev sStr : Stmt := inClass (top 22) 17
abbrev sLRng : Stmt := top 24
abbrev sLDraw : Stmt := top 25
abbrev sLChoice : Stmt := top 26
abbrev sLName : Stmt := top 27
abbrev sLTerms : Stmt := top 28
abbrev sLIsName : Stmt := top 29
abbrev sLRead : Stmt := top 30
abbrev sLSpoilt : Stmt := top 31
abbrev sLTold : Stmt := top 32
abbrev sLRight : Stmt := top 33
abbrev sLaw : Stmt := top 34
/-- a def of the text as it stands behind the top -/
structure FT (K : PySem.W.Frag) (x qual : Str) (st : Stmt) (ps : List Str) where
  f : Addr
  fd : FuncData
  F : Fun K x qual st f fd
  b : Binds K fd ps []
theorem FT.kp {K : PySem.W.Frag} {x qual : Str} {st : Stmt} {ps : List Str} (T : FT K x qual st ps) : PySem.W.keepIn K (.ref T.f) = true := T.F.kp
/-- built-in names that the module doesn't bind -/
structure Blt (mg : Str → Option Value) : Prop where
  isinstance : mg "isinstance" = none
  int : mg "int" = none
  bool : mg "bool" = none
  str : mg "str" = none
  len : mg "len" = none
  all : mg "all" = none
  dict : mg "dict" = none
  list : mg "list" = none
  sorted : mg "sorted" = none
  max : mg "max" = none
  min : mg "min" = none
  abs : mg "abs" = none
  divmod : mg "divmod" = none
  range : mg "range" = none
  enumerate : mg "enumerate" = none
section
variable {P : Program} {w : World} {K : PySem.W.Frag} {mg : Str → Option Value} {base : Heap}
/-! ### is_integer, is_number -/
def spIsInteger : Sp := fun vs H Q _ => ∃ i : Int, vs = [.int i] ∧ Q (.bl true) H
theorem scIsInteger : FnScope ["value"] ["value"] (defScope sIsInteger) := ⟨rfl, rfl, rfl, by decide +kernel, rfl, by decide +kernel, by decide +kernel⟩
theorem ok_isInteger (T : FT K "is_integer" "is_integer" sIsInteger ["value"]) (B : Blt mg) : FnOk P w K mg base CX0 1 T.f T.fd ["value"] spIsInteger := by
  refine T.F.ok scIsInteger (fun vs H Q E h => ?_) (fun cdv A outer s H vs Q E hr h => ?_)
  · obtain ⟨i, rfl, _⟩ := h
    rfl
  · obtain ⟨i, rfl, k⟩ := h
    refine ⟨_, pss_one (ps_ret (pe_and (pe_callB call_isi (by rfl) B.isinstance (by decide +kernel) (pa_cons (pv 0) (pa_cons (pe_bltn (v := .ty "int") (by rfl) B.int (by decide +kernel) rfl) pa_nil)))
      (pe_one (pe_not (pe_callB call_isi (by rfl) B.isinstance (by decide +kernel) (pa_cons (pv 0) (pa_cons (pe_bltn (v := .ty "bool") (by rfl) B.bool (by decide +kernel) rfl) pa_nil))))))), ?_⟩
    refine ⟨_, rfl, _, _, _, _, true, rfl, .ty _, .base (.int i), kit_ty (by decide +kernel), true, rfl, ?_⟩
    refine iteT ?_
    refine ⟨_, rfl, _, _, _, _, false, rfl, .ty _, .base (.int i), kit_ty (by decide +kernel), false, rfl, ?_⟩
    exact k
def spIsNumber : Sp := fun vs H Q _ => ∃ i q : Int, vs = [.int i, .int q] ∧ 0 ≤ i ∧ i < q ∧ Q (.bl true) H
theorem scIsNumber : FnScope ["value", "modulus"] ["value", "modulus"] (defScope sIsNumber) := ⟨rfl, rfl, rfl, by decide +kernel, rfl, by decide +kernel, by decide +kernel⟩
theorem ok_isNumber (T : FT K "is_number" "is_number" sIsNumber ["value", "modulus"]) (TI : FT K "is_integer" "is_integer" sIsInteger ["value"]) (gI : mg "is_integer" = some (.ref TI.f)) (B : Blt mg) : FnOk P w K mg base CX0 2 T.f T.fd ["value", "modulus"] spIsNumber := by
  refine T.F.ok scIsNumber (fun vs H Q E h => ?_) (fun cdv A outer s H vs Q E hr h => ?_)
  · obtain ⟨i, q, rfl, _⟩ := h
    rfl
  · obtain ⟨i, q, rfl, h0, h1, k⟩ := h
    refine ⟨_, pss_one (ps_ret (pe_and (pe_call (ok_isInteger TI B) hr (by rfl) gI TI.kp TI.b .nil pass0 (pa_cons (pv 0) pa_nil)) (pe_one (pe_chain op_le op_lt pe_int (pv 0) (pv 1))))), ?_⟩
    refine ⟨_, rfl, i, rfl, true, rfl, ?_⟩
    refine iteT ?_
    refine ⟨_, rfl, _, _, rfl, rfl, _, rfl, ?_⟩
    rw [decide_eq_true h0]
    refine iteT ?_
    refine ⟨_, rfl, _, _, rfl, rfl, ?_⟩
    show Q (.bl (decide (i < q))) H
    rw [decide_eq_true h1]
    exact k
end
end Q
set_option Elab.async false
set_option maxRecDepth 100000
set_option maxHeartbeats 4000000
namespace Q
open PySem L2 QR QM
/-- the module's constants -/
structure Cst (K : PySem.W.Frag) (mg : Str → Option Value) : Prop where
  letters : ∃ t, mg "LETTERS" = some (.str lettersS t)
  signs : ∃ t, mg "NAME_SIGNS" = some (.str signsS t)
  plus : ∃ t, mg "PLUS" = some (.str plS t)
  longest : ∃ t, mg "LONGEST_NAME" = some (.int 12 t)
  moduli : ∃ (a : Addr), mg "MODULI" = some (.ref a) ∧ ∀ H : Hp, SqT K H a [.int 2, .int 3, .int 5, .int 7, .int 11, .int 13]
section
variable {P : Program} {w : World} {K : PySem.W.Frag} {mg : Str → Option Value} {base : Heap}
/-- is it a name? -/
def spIsName : Sp := fun vs H Q _ => ∃ n : Str, vs = [.str n] ∧ n.cps.size ≤ 1000 ∧ ∀ H', Same H H' → Q (.bl (isNm n)) H'
theorem scIsName : FnScope ["value", "sign"] ["value"] (defScope sIsName) := ⟨rfl, rfl, rfl, by decide +kernel, rfl, by decide +kernel, by decide +kernel⟩
theorem all_map (l : List Nat) : (l.map fun c => decide (c ∈ signsS.cps.toList)).all id = decide (∀ c ∈ l, c ∈ signsS.cps.toList) := by
  rw [List.all_map, Bool.eq_iff_iff, List.all_eq_true, decide_eq_true_iff]
  constructor
  · intro h c hc
    have := h c hc
    exact of_decide_eq_true this
  · intro h c hc
    exact decide_eq_true (h c hc)
theorem ok_isName (T : FT K "is_name" "is_name" sIsName ["value"]) (B : Blt mg) (C : Cst K mg) : FnOk P w K mg base CX0 1 T.f T.fd ["value"] spIsName := by
  obtain ⟨t1, hlet⟩ := C.letters
  obtain ⟨t2, hsig⟩ := C.signs
  obtain ⟨t3, hlon⟩ := C.longest
  refine T.F.ok scIsName (fun vs H Q E h => ?_) (fun cdv A outer s H vs Q E hr h => ?_)
  · obtain ⟨i, rfl, _⟩ := h
    rfl
  · obtain ⟨n, rfl, hn, k⟩ := h
    refine ⟨_, pss_cons (ps_if (PW.pt (pw_or (pt_not (pt_val (pe_callB call_isi (by rfl) B.isinstance (by decide +kernel) (pa_cons (pv 0) (pa_cons (pe_bltn (v := .ty "str") (by rfl) B.str (by decide +kernel) rfl) pa_nil)))))
        (pw_or (pt_not (pt_chain op_le op_le pe_int (pe_callB call_len_str (by rfl) B.len PySem.boot_len (pa_cons (pv 0) pa_nil)) (pe_glob (v := .int 12) rfl hlon ⟨_, rfl⟩)))
        (pw_or1 (pt_cmpR op_notIn_sign (pe_item_str (pv 0) pe_int (fun _ _ => rfl)) (pe_glob (v := .str lettersS) rfl hlet ⟨_, rfl⟩) (by rfl))))))
        (pss_one (ps_ret pe_bl)) pss_nil)
      (pss_one (ps_ret (pe_callB (cr_all rfl) (by rfl) B.all (by decide +kernel) (pa_cons (pe_lc (own := [("sign", 1)]) (g := gName 1) (tt := tYes) rfl scIsName.nd (pi_str (pv 0)) (blkOk_by (own := [("sign", 1)]) (N := ["value", "sign"]) (sc := defScope sIsName) (by decide +kernel))
        (fun _ _ _ _ _ => pg_name (i := 1) scIsName.nd rfl (Or.inl rfl)) (fun _ _ _ _ _ => pts_nil) (fun _ _ _ _ _ => pe_cmpR op_in_sign (pv 1) (pe_glob (v := .str signsS) rfl hsig ⟨_, rfl⟩) (by rfl))) pa_nil)))), ?_⟩
    refine ⟨_, rfl, _, _, _, _, true, rfl, .ty _, .base (.str n), kit_ty (by decide +kernel), true, rfl, ?_⟩
    refine iteF ?_
    refine ⟨_, rfl, _, rfl, sz_le (by show n.cps.size ≤ 100000; omega), _, _, rfl, rfl, _, rfl, ?_⟩
    by_cases l1 : 1 ≤ n.cps.size
    rotate_left
    · rw [decide_eq_false (show ¬ (1 : Int) ≤ (n.length : Int) by show ¬ (1 : Int) ≤ (n.cps.size : Int); omega)]
      have e : isNm n = false := isNm_f fun z => l1 z.len.1
      have kk := k H (Same.refl H)
      rw [e] at kk
      first | exact iteF ⟨false, rfl, iteT (iteT kk)⟩ | exact iteF (iteT (iteT kk)) | exact iteT (iteT kk) | exact iteT kk | exact kk
    rw [decide_eq_true (show (1 : Int) ≤ (n.length : Int) by show (1 : Int) ≤ (n.cps.size : Int); omega)]
    refine iteT ?_
    refine ⟨_, _, rfl, rfl, _, rfl, ?_⟩
    by_cases l2 : n.cps.size ≤ 12
    rotate_left
    · rw [decide_eq_false (show ¬ (n.length : Int) ≤ 12 by show ¬ (n.cps.size : Int) ≤ 12; omega)]
      have e : isNm n = false := isNm_f fun z => l2 z.len.2
      have kk := k H (Same.refl H)
      rw [e] at kk
      first | exact iteF ⟨false, rfl, iteT (iteT kk)⟩ | exact iteF (iteT (iteT kk)) | exact iteT (iteT kk) | exact iteT kk | exact kk
    rw [decide_eq_true (show (n.length : Int) ≤ 12 by show (n.cps.size : Int) ≤ 12; omega)]
    refine iteF ?_
    obtain ⟨c0, hc0⟩ : ∃ c, n.cps[0]? = some c := ⟨n.cps[0], by simp⟩
    refine ⟨_, rfl, n, 0, c0, rfl, rfl, by decide, by decide, by show (0 : Int) < (n.cps.size : Int); omega, hc0, c0, lettersS, rfl, rfl, _, rfl, ?_⟩
    by_cases l3 : c0 ∈ lettersS.cps.toList
    rotate_left
    · rw [decide_eq_false l3]
      have e : isNm n = false := isNm_f fun z => l3 (z.hd c0 hc0)
      have kk := k H (Same.refl H)
      rw [e] at kk
      first | exact iteF ⟨false, rfl, iteT (iteT kk)⟩ | exact iteF (iteT (iteT kk)) | exact iteT (iteT kk) | exact iteT kk | exact kk
    rw [decide_eq_true l3]
    refine iteF ?_
    refine ⟨_, rfl, n, rfl, fun D hD => lc_map walk_str (n.cps.toList.map fun c => V.bl (decide (c ∈ signsS.cps.toList))) (by rw [List.length_map]; exact Array.length_toList) (fun _ _ => True.intro) hD (by omega) (fun i x H1 H' hi s1 y P1 kp => ?_) fun H1 s1 hD1 => ?_⟩
    · obtain ⟨rfl, c, hc, rfl⟩ := y
      refine ⟨rfl, ?_⟩
      refine ⟨_, rfl, c, signsS, rfl, rfl, ?_⟩
      exact kp _ _ (by rw [List.getElem?_map, Array.getElem?_toList, hc]; rfl) (Same.refl _)
    · refine ⟨D, n.cps.toList.map fun c => decide (c ∈ signsS.cps.toList), rfl, SqL.of (by rw [hD1, List.map_map]; rfl), ?_⟩
      show Q (.bl ((n.cps.toList.map fun c => decide (c ∈ signsS.cps.toList)).all id)) H1
      rw [all_map]
      have e : isNm n = decide (∀ c ∈ n.cps.toList, c ∈ signsS.cps.toList) := by
        by_cases l4 : ∀ c ∈ n.cps.toList, c ∈ signsS.cps.toList
        · rw [decide_eq_true l4]
          exact isNm_t ⟨⟨l1, l2⟩, fun c hc => by rw [hc0] at hc; cases hc; exact l3, l4⟩
        · rw [decide_eq_false l4]
          exact isNm_f fun z => l4 z.all
      rw [← e]
      exact k _ s1
end
end Q
set_option Elab.async false
set_option maxRecDepth 100000
set_option maxHeartbeats 4000000
namespace Q
open PySem L2 QR QM
abbrev gPair (K : PySem.W.Frag) (i j : Nat) : TG := gTup K 2 (gCons (gName i) (gCons (gName j) gNil))
theorem Blt.rg {mg : Str → Option Value} (B : Blt mg) : mg "range" = none := B.range
section
variable {P : Program} {w : World} {K : PySem.W.Frag} {mg : Str → Option Value} {base : Heap}
/-- names of the module -/
structure T1 (K : PySem.W.Frag) (mg : Str → Option Value) where
  isInteger : FT K "is_integer" "is_integer" sIsInteger ["value"]
  gIsInteger : mg "is_integer" = some (.ref isInteger.f)
  isNumber : FT K "is_number" "is_number" sIsNumber ["value", "modulus"]
  gIsNumber : mg "is_number" = some (.ref isNumber.f)
  isName : FT K "is_name" "is_name" sIsName ["value"]
  gIsName : mg "is_name" = some (.ref isName.f)
  isWorld : FT K "is_world" "is_world" sIsWorld ["value", "modulus"]
  gIsWorld : mg "is_world" = some (.ref isWorld.f)
  wantModulus : FT K "want_modulus" "want_modulus" sWantModulus ["value"]
  gWantModulus : mg "want_modulus" = some (.ref wantModulus.f)
  B : Blt mg
  C : Cst K mg
def IsWd (q : Int) (ws : Ws) : Prop := ∀ p ∈ ws, IsNm p.1 ∧ 0 ≤ p.2 ∧ p.2 < q
theorem dk_get {ws : Ws} {i : Nat} (h : i < (dk ws).length) : ∃ p : Str × Int, ws[i]? = some p ∧ p ∈ ws ∧ (dk ws)[i]? = some (Sum.inr p.1, V.int p.2) := by
  rw [dk_len] at h
  refine ⟨ws[i], List.getElem?_eq_getElem h, List.getElem_mem h, ?_⟩
  unfold dk
  rw [List.getElem?_map, List.getElem?_eq_getElem h]
  rfl
theorem Same.unlock {H H1 : Hp} {d : Addr} {od : Obj} {u : HO} (hd : H d = some u) (s : Same (upd H d (.frz od u)) H1) : Same H (upd H1 d u) := fun b o hb => by
  by_cases z : b = d
  · subst z
    rw [upd_same, ← hb, hd]
  · rw [upd_ne z]; exact s _ _ (by rw [upd_ne z]; exact hb)
theorem ypair_dk {ws : Ws} {i : Nat} {H H' : Hp} {x : V} (hi : i < (dk ws).length) (y : YPair (fun i => (dk ws)[i]?.map fun kv => kV kv.1) (fun i => (dk ws)[i]?.map Prod.snd) i H x H') :
    ∃ (p : Str × Int) (T : Addr), ws[i]? = some p ∧ p ∈ ws ∧ x = .ref T ∧ H T = none ∧ H' = upd H T (.tup [.str p.1, .int p.2]) := by
  obtain ⟨p, h1, h2, h3⟩ := dk_get hi
  obtain ⟨T0, x0, y0, rfl, hT, rfl, e1, e2⟩ := y
  have e1' : some (kV (Sum.inr p.1)) = some x0 := by rw [← e1]; show _ = Option.map _ ((dk ws)[i]?); rw [h3]; rfl
  have e2' : some (V.int p.2) = some y0 := by rw [← e2]; show _ = Option.map _ ((dk ws)[i]?); rw [h3]; rfl
  cases e1'
  cases e2'
  exact ⟨p, T0, h1, h2, rfl, hT, rfl⟩
/-- in comes a dict from names to numbers of q, out comes True -/
def spIsWorld : Sp := fun vs H Q _ => ∃ (d : Addr) (q : Int) (ws : Ws), vs = [.ref d, .int q] ∧ H d = some (.dK (dk ws)) ∧ IsWd q ws ∧ ws.length ≤ 1000 ∧ ∀ H', Same H H' → Q (.bl true) H'
theorem scIsWorld : FnScope ["value", "modulus", "name", "number"] ["value", "modulus"] (defScope sIsWorld) := ⟨rfl, rfl, rfl, by decide +kernel, rfl, by decide +kernel, by decide +kernel⟩
theorem ok_isWorld (T : T1 K mg) : FnOk P w K mg base CX0 3 T.isWorld.f T.isWorld.fd ["value", "modulus"] spIsWorld := by
  have GN : FnOk P w K mg base CX0 1 T.isName.f T.isName.fd ["value"] spIsName := ok_isName T.isName T.B T.C
  have GU : FnOk P w K mg base CX0 2 T.isNumber.f T.isNumber.fd ["value", "modulus"] spIsNumber := ok_isNumber T.isNumber T.isInteger T.gIsInteger T.B
  refine T.isWorld.F.ok scIsWorld (fun vs H Q E h => ?_) (fun cdv A outer s H vs Q E hr h => ?_)
  · obtain ⟨d, q, ws, rfl, _⟩ := h
    rfl
  · obtain ⟨d, q, ws, rfl, hd, hw, hl, k⟩ := h
    have hr1 : Room 1 _ := hr.mono (by decide)
    refine ⟨_, pss_cons (ps_if (pt_not (pt_val (pe_callB call_isi (by rfl) T.B.isinstance (by decide +kernel) (pa_cons (pv 0) (pa_cons (pe_bltn (v := .ty "dict") (by rfl) T.B.dict (by decide +kernel) rfl) pa_nil)))))
        (pss_one (ps_ret pe_bl)) pss_nil)
      (pss_one (ps_ret (pe_callB (cr_all rfl) (by rfl) T.B.all (by decide +kernel) (pa_cons (pe_lock (pe_lc (own := [("name", 2), ("number", 3)]) (g := gPair K 2 3) (tt := tYes) rfl scIsWorld.nd (pi_items (pv 0)) (blkOk_by (own := [("name", 2), ("number", 3)]) (N := ["value", "modulus", "name", "number"]) (sc := defScope sIsWorld) (by decide +kernel))
        (fun _ _ _ _ _ => pg_tup rfl (pgs_cons (pg_name (i := 2) scIsWorld.nd rfl (Or.inl rfl)) (pgs_cons (pg_name (i := 3) scIsWorld.nd rfl (Or.inl rfl)) pgs_nil))) (fun _ _ _ _ _ => pts_nil)
        (fun _ _ _ _ _ => pe_and (pe_call GN hr1 (by rfl) T.gIsName T.isName.kp T.isName.b .nil pass0 (pa_cons (pv 2) pa_nil)) (pe_one (pe_call GU hr (by rfl) T.gIsNumber T.isNumber.kp T.isNumber.b .nil pass0 (pa_cons (pv 3) (pa_cons (pv 1) pa_nil))))))) pa_nil)))), ?_⟩
    refine ⟨_, rfl, _, _, _, _, true, rfl, .ty _, .base (.dK hd), kit_ty (by decide +kernel), true, rfl, ?_⟩
    refine iteF ?_
    refine ⟨d, _, hd, True.intro, fun od => ?_⟩
    refine ⟨_, rfl, d, od, dk ws, rfl, upd_same, fun D hD => lc_map walk_items (List.replicate ws.length (.bl true)) (by rw [List.length_replicate, dk_len]) (fun H1 s1 => s1 _ _ upd_same) hD (by rw [dk_len]; omega) (fun i x H1 H' hi s1 y P1 kp => ?_) fun H1 s1 hD1 => ?_⟩
    · obtain ⟨p, T0, h1, h2, rfl, hT, rfl⟩ := ypair_dk hi y
      obtain ⟨w1, w2, w3⟩ := hw p h2
      refine ⟨T0, _, rfl, SqT.of upd_same, rfl, _, _, rfl, _, _, rfl, rfl, rfl, ?_⟩
      refine ⟨_, rfl, p.1, rfl, by have := w1.len; omega, fun H2 s2 => ⟨_, rfl, ?_⟩⟩
      rw [isNm_t w1]
      refine iteT ?_
      refine ⟨_, rfl, _, rfl, p.2, q, rfl, w2, w3, ?_⟩
      refine kp _ _ ?_ ((Same.new hT).trans s2)
      rw [List.getElem?_replicate, if_pos (by rw [dk_len] at hi; exact hi)]
    · refine ⟨s1 _ _ upd_same, ?_⟩
      have nDd : D ≠ d := fun z => by rw [z, upd_same] at hD; cases hD
      refine ⟨D, List.replicate ws.length true, rfl, SqL.of (by rw [upd_ne nDd, hD1, List.map_replicate]), ?_⟩
      have e : (List.replicate ws.length true).all id = true := by simp
      show Q (.bl ((List.replicate ws.length true).all id)) _
      rw [e]
      exact k _ (Same.unlock hd s1)
end
end Q
set_option Elab.async false
set_option maxRecDepth 100000
set_option maxHeartbeats 4000000
namespace Q
open PySem L2 QR QM
abbrev modsL : List Int := [2, 3, 5, 7, 11, 13]
def IsMod (q : Int) : Prop := q ∈ modsL
theorem IsMod.pos {q : Int} (h : IsMod q) : 2 ≤ q ∧ q ≤ 13 := by
  unfold IsMod at h
  simp only [List.mem_cons, List.not_mem_nil, or_false] at h
  omega
/-- the names that sums are made of -/
structure Nms (N : List Str) : Prop where
  len : N.length ≤ 60
  nm : ∀ n ∈ N, IsNm n
theorem isWd_of {lo q : Int} {N : List Str} {R : Ws} (h : Dct lo q N R) (h0 : 0 ≤ lo) (hN : Nms N) : IsWd q R := fun p hp => ⟨hN.nm _ (h.mem p hp).1, Int.le_trans h0 (h.mem p hp).2.1, (h.mem p hp).2.2⟩
/-! ### an instance of Sum -/
def fl (q : Int) (d : Addr) (c : Int) : List (Str × V) := [("own_modulus", .int q), ("own_weights", .ref d), ("own_constant", .int c)]
theorem fl_m (q : Int) (d : Addr) (c : Int) : (fl q d c).lookup ("own_modulus" : Str) = some (.int q) := rfl
theorem fl_w (q : Int) (d : Addr) (c : Int) : (fl q d c).lookup ("own_weights" : Str) = some (.ref d) := by
  have e : (("own_weights" : Str) == ("own_modulus" : Str)) = false := by decide +kernel
  unfold fl
  rw [List.lookup_cons, e]
  rfl
theorem fl_c (q : Int) (d : Addr) (c : Int) : (fl q d c).lookup ("own_constant" : Str) = some (.int c) := by
  have e : (("own_constant" : Str) == ("own_modulus" : Str)) = false := by decide +kernel
  have e2 : (("own_constant" : Str) == ("own_weights" : Str)) = false := by decide +kernel
  unfold fl
  rw [List.lookup_cons, e, List.lookup_cons, e2]
  rfl
theorem fl_no {q : Int} {d : Addr} {c : Int} {m : Str} (h1 : (m == ("own_modulus" : Str)) = false) (h2 : (m == ("own_weights" : Str)) = false) (h3 : (m == ("own_constant" : Str)) = false) : (fl q d c).lookup m = none := by
  unfold fl
  rw [List.lookup_cons, h1, List.lookup_cons, h2, List.lookup_cons, h3]
  rfl
theorem fl_made (q : Int) (d : Addr) (c : Int) : putF "own_constant" (.int c) (putF "own_weights" (.ref d) (putF "own_modulus" (.int q) [])) = fl q d c := by
  have e1 : ¬ (("own_modulus" : Str) = ("own_weights" : Str)) := by decide +kernel
  have e2 : ¬ (("own_modulus" : Str) = ("own_constant" : Str)) := by decide +kernel
  have e3 : ¬ (("own_weights" : Str) = ("own_constant" : Str)) := by decide +kernel
  have a1 : putF "own_modulus" (.int q) [] = [(("own_modulus" : Str), V.int q)] := rfl
  have a2 : putF "own_weights" (.ref d) [(("own_modulus" : Str), V.int q)] = [(("own_modulus" : Str), V.int q), ("own_weights", .ref d)] := by
    show (if ("own_modulus" : Str) = "own_weights" then _ else (("own_modulus" : Str), V.int q) :: putF "own_weights" (.ref d) []) = _
    rw [if_neg e1]; rfl
  rw [a1, a2]
  show (if ("own_modulus" : Str) = "own_constant" then _ else (("own_modulus" : Str), V.int q) :: (if ("own_weights" : Str) = "own_constant" then _ else (("own_weights" : Str), V.ref d) :: putF "own_constant" (.int c) [])) = _
  rw [if_neg e2, if_neg e3]; rfl
/-- a sum stands at p: its modulus, weights (sorted), constant -/
def SumAt (S : Addr) (H : Hp) (p : Addr) (q : Int) (N : List Str) (ws : Ws) (c : Int) : Prop :=
  ∃ dx d, H p = some (.ins S dx (fl q d c)) ∧ H d = some (.dK (dk ws)) ∧ Canon q N ws ∧ 0 ≤ c ∧ c < q
theorem SumAt.same {S : Addr} {H H' : Hp} {p : Addr} {q : Int} {N : List Str} {ws : Ws} {c : Int} (h : SumAt S H p q N ws c) (s : Same H H') : SumAt S H' p q N ws c := by
  obtain ⟨dx, d, h1, h2, h3⟩ := h
  exact ⟨dx, d, s _ _ h1, s _ _ h2, h3⟩
abbrev psInit : List Str := ["self", "modulus", "weights", "constant"]
/-- names of the module, with the class -/
structure T2 (K : PySem.W.Frag) (mg : Str → Option Value) extends T1 K mg where
  S : Addr
  gS : mg "Sum" = some (.ref S)
  cl : Cls K S
  nM : NoAttr K S "own_modulus"
  nW : NoAttr K S "own_weights"
  nC : NoAttr K S "own_constant"
  ha : PySem.W.findIn K (.ref S) "__class__" = some (some (.builtin "object.__class__"))
  hn : PySem.W.specialIn K (.builtin "object.__class__") "__get__" = some (some (.builtin "getset_descriptor.__get__"))
  htk : PySem.W.takesIn K (.builtin "object.__class__") = some true
  hm : PySem.W.mroIn K S (.type "object") = some true
  sf : PySem.W.selfFirst K S = true
  fI : Addr
  fdI : FuncData
  FI : FunD K "__init__" "Sum.__init__" (defArgs sInit) (defBody sInit) (defScope sInit) [.int 0] [] fI fdI
  MI : Mk K S fI
  bI : Binds K fdI psInit []
  bI0 : ∃ ds, Vals [.int 0] ds ∧ Binds K fdI psInit ds
section
variable {P : Program} {w : World} {K : PySem.W.Frag} {mg : Str → Option Value} {base : Heap}
theorem T2.ty (T : T2 K mg) {H : Hp} {a dx : Addr} {fs : List (Str × V)} (e : H a = some (.ins T.S dx fs)) : TyX K H (.ref a) (.ref T.S) := .base (.ins e T.cl T.ha T.hn T.htk T.hm)
theorem kit_self {K : PySem.W.Frag} {C : Addr} : PySem.W.kitOne K (.ref C) (.ref C) = some true := by unfold PySem.W.kitOne; simp
/-! ### want_modulus -/
def spWantModulus : Sp := fun vs H Q _ => ∃ q : Int, vs = [.int q] ∧ IsMod q ∧ Q .non H
theorem scWantModulus : FnScope ["value"] ["value"] (defScope sWantModulus) := ⟨rfl, rfl, rfl, by decide +kernel, rfl, by decide +kernel, by decide +kernel⟩
theorem mod_in {q : Int} (h : IsMod q) : inV (.int q) [.int 2, .int 3, .int 5, .int 7, .int 11, .int 13] = true := by
  unfold IsMod at h
  simp only [List.mem_cons, List.not_mem_nil, or_false] at h
  rcases h with rfl | rfl | rfl | rfl | rfl | rfl <;> decide
theorem ok_wantModulus (T : T1 K mg) : FnOk P w K mg base CX0 2 T.wantModulus.f T.wantModulus.fd ["value"] spWantModulus := by
  have GI : FnOk P w K mg base CX0 1 T.isInteger.f T.isInteger.fd ["value"] spIsInteger := ok_isInteger T.isInteger T.B
  obtain ⟨am, hmod, hsq⟩ := T.C.moduli
  refine T.wantModulus.F.ok scWantModulus (fun vs H Q E h => ?_) (fun cdv A outer s H vs Q E hr h => ?_)
  · obtain ⟨q, rfl, _⟩ := h
    rfl
  · obtain ⟨q, rfl, hq, k⟩ := h
    refine ⟨_, pss_one (ps_if (PW.pt (pw_or (pt_not (pt_val (pe_call GI hr (by rfl) T.gIsInteger T.isInteger.kp T.isInteger.b .nil pass0 (pa_cons (pv 0) pa_nil))))
      (pw_or1 (pt_cmpR op_notIn_seq (pv 0) (pe_glob (v := .ref am) rfl hmod rfl) (by rfl))))) pss_never pss_nil), ?_⟩
    refine ⟨_, rfl, q, rfl, true, rfl, ?_⟩
    refine iteF ?_
    refine ⟨_, rfl, am, _, rfl, .inr (hsq _), rfl, rfl, _, rfl, ?_⟩
    rw [if_pos rfl, mod_in hq]
    exact iteF k
/-! ### Sum.__init__ -/
def spInit (S : Addr) : Sp := fun vs H Q _ => ∃ (x dx d : Addr) (q c : Int) (N : List Str) (R : Ws), vs = [.ref x, .int q, .ref d, .int c] ∧ H x = some (.ins S dx []) ∧ H d = some (.dK (dk R)) ∧ Dct 0 q N R ∧ Nms N ∧ IsMod q ∧ 0 ≤ c ∧ c < q ∧
  ∀ (ws : Ws) (e : Addr) (H' : Hp), H e = none → Canon q N ws → (∀ n, wt ws n = wt R n) → H' x = some (.ins S dx (fl q e c)) → H' e = some (.dK (dk ws)) → (∀ b o, H b = some o → b ≠ x → H' b = some o) → Q .non H'
theorem scInit : FnScope ["self", "modulus", "weights", "constant", "name"] psInit (defScope sInit) := ⟨rfl, rfl, rfl, by decide +kernel, rfl, by decide +kernel, by decide +kernel⟩
theorem ok_init (T : T2 K mg) : FnOk P w K mg base CX0 4 T.fI T.fdI psInit (spInit T.S) := by
  have GM : FnOk P w K mg base CX0 2 T.wantModulus.f T.wantModulus.fd ["value"] spWantModulus := ok_wantModulus T.toT1
  have GW : FnOk P w K mg base CX0 3 T.isWorld.f T.isWorld.fd ["value", "modulus"] spIsWorld := ok_isWorld T.toT1
  have GU : FnOk P w K mg base CX0 2 T.isNumber.f T.isNumber.fd ["value", "modulus"] spIsNumber := ok_isNumber T.isNumber T.isInteger T.gIsInteger T.B
  refine T.FI.ok scInit (fun vs H Q E h => ?_) (fun cdv A outer s H vs Q E hr h => ?_)
  · obtain ⟨x, dx, d, q, c, N, R, rfl, _⟩ := h
    rfl
  · obtain ⟨x, dx, d, q, c, N, R, rfl, hx, hd, hR, hN, hq, hc0, hc1, k⟩ := h
    have hr2 : Room 2 _ := hr.mono (by decide)
    have hu := hu_of hr
    refine ⟨_, PSs.nox (pss_cons (ps_expr (pe_call GM hr2 (by rfl) T.gWantModulus T.wantModulus.kp T.wantModulus.b .nil pass0 (pa_cons (pv 1) pa_nil)))
      (pss_cons (ps_if (pt_not (pt_val (pe_call GW hr (by rfl) T.gIsWorld T.isWorld.kp T.isWorld.b .nil pass0 (pa_cons (pv 2) (pa_cons (pv 1) pa_nil))))) pss_never pss_nil)
      (pss_cons (ps_if (pt_not (pt_val (pe_call GU hr2 (by rfl) T.gIsNumber T.isNumber.kp T.isNumber.b .nil pass0 (pa_cons (pv 3) (pa_cons (pv 1) pa_nil))))) pss_never pss_nil)
      (pss_cons (ps_fld (pv 0) (pv 1) rfl)
      (pss_cons (ps_fld (pv 0) (pe_dc (own := [("name", 4)]) (g := gName 4) rfl scInit.nd (pi_list (pe_callB (call_sortedD rfl) (by rfl) T.B.sorted (by decide +kernel) (pa_cons (pv 2) pa_nil)))
          (blkOk_by (own := [("name", 4)]) (N := ["self", "modulus", "weights", "constant", "name"]) (sc := defScope sInit) (by decide +kernel))
          (fun _ _ _ _ _ => pg_name (i := 4) scInit.nd rfl (Or.inl rfl))
          (fun _ _ _ _ _ => pts_one (pt_cmpR op_ne (pe_dget hu (pv 2) (pv 4) (fun _ _ => rfl)) pe_int (nomark _)))
          (fun _ _ _ _ _ => pv 4) (fun _ _ _ _ _ => pe_dget hu (pv 2) (pv 4) (fun _ _ => rfl))) rfl)
      (pss_one (ps_fld (pv 0) (pv 3) rfl))))))), ?_⟩
    have hq2 := hq.pos
    have hl := hR.len
    have hl2 := hN.len
    have nxd : x ≠ d := ne_of hx hd (by intro z; cases z)
    refine ⟨_, rfl, q, rfl, hq, ?_⟩
    refine ⟨_, rfl, _, rfl, d, q, R, rfl, hd, isWd_of hR (Int.le_refl _) hN, by omega, fun H1 s1 => ⟨true, rfl, iteF ?_⟩⟩
    refine ⟨_, rfl, _, rfl, c, q, rfl, hc0, hc1, true, rfl, iteF ?_⟩
    refine ⟨_, rfl, _, rfl, x, T.S, dx, [], rfl, s1 _ _ hx, T.cl, T.nM, (by show 0 < 1000; decide), ?_⟩
    generalize hH2 : upd H1 x (.ins T.S dx (putF "own_modulus" (.int q) [])) = H2
    have hx2 : H2 x = some (.ins T.S dx (putF "own_modulus" (.int q) [])) := by rw [← hH2]; exact upd_same
    have hd2 : H2 d = some (.dK (dk R)) := by rw [← hH2, upd_ne nxd.symm]; exact s1 _ _ hd
    refine ⟨_, rfl, d, dk R, R.map (·.1), rfl, .inl hd2, dk_keys R, by rw [List.length_map]; omega, fun ys p hp hs hpn => ?_⟩
    have hle := sorted_le hs
    have hnd : ys.Nodup := hp.symm.nodup hR.nd
    have hyl : ys.length = R.length := by rw [hp.length_eq, List.length_map]
    obtain ⟨hcan, hwt⟩ := mkW_canon hR hp hle
    have npd : p ≠ d := fun z => by rw [z, hd2] at hpn; cases hpn
    have npx : p ≠ x := fun z => by rw [z, hx2] at hpn; cases hpn
    have s2 : Same H2 (upd H2 p (.lst (ys.map V.str))) := Same.new hpn
    generalize hH3 : upd H2 p (.lst (ys.map V.str)) = H3 at s2
    have hp3 : H3 p = some (.lst (ys.map V.str)) := by rw [← hH3]; exact upd_same
    refine ⟨p, rfl, ⟨_, SqL.of hp3⟩, fun D hD => dc_it (walk_list (xs := ys.map V.str)) (fun i H => Same H3 H ∧ H D = some (.dK (dk (mkW R (ys.take i))))) ⟨Same.new hD, upd_same⟩ (fun i H _ z => SqL.of (z.1 _ _ hp3)) ?_ ?_⟩
    · rintro i y H4 H4' hi ⟨s4, hD4⟩ ⟨rfl, hy⟩
      rw [List.length_map] at hi
      have hyi : ys[i]? = some ys[i] := List.getElem?_eq_getElem hi
      rw [List.getElem?_map, hyi] at hy
      cases hy
      have hmem : ys[i] ∈ R.map (·.1) := hp.mem_iff.mp (List.getElem_mem hi)
      have hnot : ¬ ys[i] ∈ ys.take i := fun z => by
        obtain ⟨j, hj, e⟩ := List.mem_take_iff_getElem.mp z
        have := (List.getElem_inj hnd).mp e
        omega
      have hd4 : H4' d = some (.dK (dk R)) := s4 _ _ (s2 _ _ hd2)
      have hg : DGet H4' d (.str ys[i]) (some (.int (wt R ys[i]))) := by
        have := DGet.k (k := (Sum.inr ys[i] : Key)) hd4
        rw [valV_of_mem hmem] at this
        exact this
      have etk : ys.take (i + 1) = ys.take i ++ [ys[i]] := by rw [List.take_add_one, hyi]; rfl
      refine ⟨rfl, ?_⟩
      refine ⟨_, rfl, _, rfl, d, _, rfl, hg, rfl, _, rfl, ?_⟩
      by_cases e0 : wt R ys[i] = 0
      · rw [e0]
        refine iteF ⟨s4, ?_⟩
        rw [hD4, etk, mkW_snoc, if_neg (fun z => z e0)]
      · have e1 : (!decide (V.int (wt R ys[i]) = V.int 0)) = true := by
          rw [decide_eq_false (fun z => e0 (V.int.inj z))]; rfl
        rw [e1]
        refine iteT ?_
        refine ⟨_, rfl, ?_⟩
        refine ⟨_, rfl, _, rfl, d, _, rfl, hg, dk (mkW R (ys.take i)), Sum.inr ys[i], rfl, hD4, ?_, ?_, ?_⟩
        · have := mkW_len R (ys.take i)
          rw [List.length_take] at this
          rw [dk_len]; exact sz_lt (by omega)
        · exact Same.mut s4 hD
        · rw [upd_same, putK_snoc (mkW_not hnot), etk, mkW_snoc, if_pos e0]
    · rintro H4 ⟨s4, hD4⟩
      rw [List.length_map, List.take_length] at hD4
      have hx4 : H4 x = some (.ins T.S dx (putF "own_modulus" (.int q) [])) := s4 _ _ (s2 _ _ hx2)
      have nxD : x ≠ D := fun z => by rw [← z, hx4] at hD4; cases hD4
      refine ⟨_, rfl, x, T.S, dx, _, rfl, hx4, T.cl, T.nW, (by show 1 < 1000; decide), ?_⟩
      refine ⟨_, rfl, _, rfl, x, T.S, dx, _, rfl, upd_same, T.cl, T.nC, ?_, ?_⟩
      · show (if ("own_modulus" : Str) = "own_weights" then _ else (("own_modulus" : Str), V.int q) :: putF "own_weights" (.ref D) []).length < 1000
        rw [if_neg (by decide +kernel)]; show 2 < 1000; decide
      · have fD : H D = none := by
          have f2 : H2 D = none := s2.free hD
          rw [← hH2, upd_ne nxD.symm] at f2
          exact s1.free f2
        refine k _ D _ fD hcan hwt (by rw [upd_same, fl_made]) (by rw [upd_ne nxD.symm, upd_ne nxD.symm]; exact hD4) fun b o hb nb => ?_
        rw [upd_ne nb, upd_ne nb]
        refine s4 _ _ (s2 _ _ ?_)
        rw [← hH2, upd_ne nb]
        exact s1 _ _ hb
end
end Q
set_option Elab.async false
set_option maxRecDepth 100000
set_option maxHeartbeats 4000000
namespace Q
open PySem L2 QR QM
abbrev rMod : R2 := rI (fun _ j => 0 < j) fun i j => .int (i % j)
abbrev rMul : R2 := rI CMul fun i j => .int (i * j)
/-- a method of Sum -/
structure MT (K : PySem.W.Frag) (S : Addr) (x qual : Str) (st : Stmt) (ps : List Str) extends FT K x qual st ps where
  m : Meth K S x f
/-- a property of Sum -/
structure PT (K : PySem.W.Frag) (S : Addr) (x qual : Str) (st : Stmt) extends FT K x qual st ["self"] where
  p : Addr
  pr : PropOf K S x p f
/-- names of the module, with the class's methods and the error -/
structure T3 (K : PySem.W.Frag) (mg : Str → Option Value) extends T2 K mg where
  constant : PT K S "constant" "Sum.constant" sConstant
  weights : MT K S "weights" "Sum.weights" sWeights ["self"]
  mul : MT K S "__mul__" "Sum.__mul__" sMul ["self", "number"]
  str_ : MT K S "__str__" "Sum.__str__" sStr ["self"]
  rmul : PySem.W.findIn K (.ref S) "__rmul__" = some none
  imul : ∃ fo, PySem.W.findIn K (.type "int") "__mul__" = some fo
  irmul : ∃ ro, PySem.W.findIn K (.type "int") "__rmul__" = some ro
  isub : PySem.W.subIn K (.type "int") (.ref S) = some false
  numberOf : FT K "number_of" "number_of" sNumberOf ["text", "modulus"]
  gNumberOf : mg "number_of" = some (.ref numberOf.f)
  termText : FT K "term_text" "term_text" sTermText ["name", "weight"]
  gTermText : mg "term_text" = some (.ref termText.f)
  parse : FT K "parse" "Sum.parse" sParse ["cls", "modulus", "text"]
  pp : Addr
  mc : Value
  cr : ClX.CRead K S mc
  cm : ClX.CMet K S mc "parse" pp parse.f
  Er : Addr
  gEr : mg "InvalidText" = some (.ref Er)
  erC : OexC K Er
  erX : XfC K Er
  erL : PySem.W.findIn K (.ref Er) "line" = some none
  erI : FT K "__init__" "InvalidText.__init__" sTextInit ["self", "line"]
  erF : PySem.W.findIn K (.ref Er) "__init__" = some (some (.ref erI.f))
  erT : PySem.W.typeIn K (.ref erI.f) = some (.type "function")
  erM : PySem.W.exmOne K (.ref Er) (.ref Er) = some true
  Qe : Addr
  gQe : mg "QuietsumsError" = some (.ref Qe)
  qeR : ClX.CRead K Qe mc
  qeI : PySem.W.findCls K (.ref Qe) mc "__init__" = some (.val (.builtin "ValueError.__init__"))
section
variable {P : Program} {w : World} {K : PySem.W.Frag} {mg : Str → Option Value} {base : Heap}
theorem scConstant : FnScope ["self"] ["self"] (defScope sConstant) := ⟨rfl, rfl, rfl, by decide +kernel, rfl, by decide +kernel, by decide +kernel⟩
theorem ok_constant (T : T3 K mg) : FnOk P w K mg base CX0 1 T.constant.f T.constant.fd ["self"] (getSp T.S "own_constant") := by
  refine T.constant.F.ok scConstant (fun vs H Q E h => ?_) (fun cdv A outer s H vs Q E hr h => ?_)
  · obtain ⟨a, dx, fs, v, rfl, _⟩ := h
    rfl
  · obtain ⟨a, dx, fs, v, rfl, ha, hl, k⟩ := h
    exact ⟨_, pss_one (ps_ret (pe_fld (pv 0) rfl)), _, rfl, a, T.S, dx, fs, v, rfl, ha, T.cl, T.nC, hl, k⟩
def spWeights (S : Addr) : Sp := fun vs H Q _ => ∃ (p : Addr) (q : Int) (N : List Str) (ws : Ws) (c : Int), vs = [.ref p] ∧ SumAt S H p q N ws c ∧ ∀ e, H e = none → Q (.ref e) (upd H e (.dK (dk ws)))
theorem scWeights : FnScope ["self"] ["self"] (defScope sWeights) := ⟨rfl, rfl, rfl, by decide +kernel, rfl, by decide +kernel, by decide +kernel⟩
theorem ok_weights (T : T3 K mg) : FnOk P w K mg base CX0 1 T.weights.f T.weights.fd ["self"] (spWeights T.S) := by
  refine T.weights.F.ok scWeights (fun vs H Q E h => ?_) (fun cdv A outer s H vs Q E hr h => ?_)
  · obtain ⟨p, q, N, ws, c, rfl, _⟩ := h
    rfl
  · obtain ⟨p, q, N, ws, c, rfl, ⟨dx, d, h1, h2, h3⟩, k⟩ := h
    refine ⟨_, pss_one (ps_ret (pe_callTy call_dictD (by rfl) T.B.dict (by decide +kernel) (pa_cons (pe_fld (pv 0) rfl) pa_nil))), ?_⟩
    exact ⟨_, rfl, p, T.S, dx, _, _, rfl, h1, T.cl, T.nW, fl_w _ _ _, d, dk ws, rfl, .inl h2, k⟩
/-! ### Sum.__mul__ -/
def spMul (S : Addr) : Sp := fun vs H Q _ => ∃ (p : Addr) (q : Int) (N : List Str) (ws : Ws) (c k : Int), vs = [.ref p, .int k] ∧ SumAt S H p q N ws c ∧ Nms N ∧ IsMod q ∧
  ∀ (x : Addr) (us : Ws) (H' : Hp), H x = none → Same H H' → SumAt S H' x q N us (c * k % q) → (∀ n, wt us n = wt ws n * k % q) → Q (.ref x) H'
theorem scMul : FnScope ["self", "number", "weights", "name", "weight"] ["self", "number"] (defScope sMul) := ⟨rfl, rfl, rfl, by decide +kernel, rfl, by decide +kernel, by decide +kernel⟩
theorem ok_mul (T : T3 K mg) : FnOk P w K mg base CX0 6 T.mul.f T.mul.fd ["self", "number"] (spMul T.S) := by
  have GI : FnOk P w K mg base CX0 1 T.isInteger.f T.isInteger.fd ["value"] spIsInteger := ok_isInteger T.isInteger T.B
  have GS : FnOk P w K mg base CX0 4 T.fI T.fdI psInit (spInit T.S) := ok_init T.toT2
  refine T.mul.F.ok scMul (fun vs H Q E h => ?_) (fun cdv A outer s H vs Q E hr h => ?_)
  · obtain ⟨p, q, N, ws, c, k, rfl, _⟩ := h
    rfl
  · obtain ⟨p, q, N, ws, c, k, rfl, ⟨dx, d, h1, h2, hcan, hc0, hc1⟩, hN, hq, kk⟩ := h
    have hr1 : Room 1 _ := hr.mono (by decide)
    have hu := hu_of hr
    refine ⟨_, pss_cons (ps_if (pt_not (pt_val (pe_call GI hr1 (by rfl) T.gIsInteger T.isInteger.kp T.isInteger.b .nil pass0 (pa_cons (pv 1) pa_nil)))) pss_never pss_nil)
      (pss_cons (ps_lock (ps_setDc (i := 2) (own := [("name", 3), ("weight", 4)]) (g := gPair K 3 4) (tt := tYes) (tv := tOp rMod (tOp rMul (tVar 4) (tVar 1)) (tFld K (tVar 0) "own_modulus")) rfl scMul.nd rfl rfl (sw_trueD rfl rfl rfl (by decide +kernel)) (pi_items (pe_fld (pv 0) rfl))
          (blkOk_by (own := [("name", 3), ("weight", 4)]) (N := ["self", "number", "weights", "name", "weight"]) (sc := defScope sMul) (by decide +kernel))
          (fun _ _ _ _ _ => pg_tup rfl (pgs_cons (pg_name (i := 3) scMul.nd rfl (Or.inl rfl)) (pgs_cons (pg_name (i := 4) scMul.nd rfl (Or.inl rfl)) pgs_nil))) (fun _ _ _ _ _ => pts_nil)
          (fun _ _ _ _ _ => pv 3) (fun _ _ _ _ _ => pe_op op_mod (pe_op op_mul (pv 4) (pv 1)) (pe_fld (pv 0) rfl))))
      (pss_one (ps_ret (pe_make T.MI GS hr rfl T.gS T.bI .nil pass0 (pa_cons (pe_fld (pv 0) rfl) (pa_cons (pv 2) (pa_cons (pe_op op_mod (pe_op op_mul (pe_fld (pv 0) rfl) (pv 1)) (pe_fld (pv 0) rfl)) pa_nil))))))), ?_⟩
    have hq2 := hq.pos
    have hl := hcan.d.len
    have hl2 := hN.len
    have npd : p ≠ d := ne_of h1 h2 (by intro z; cases z)
    refine ⟨_, rfl, k, rfl, true, rfl, iteF ?_⟩
    refine ⟨d, _, h2, True.intro, fun od => ?_⟩
    have h1' : upd H d (.frz od (.dK (dk ws))) p = some (.ins T.S dx (fl q d c)) := by rw [upd_ne npd]; exact h1
    refine ⟨_, rfl, p, T.S, dx, _, _, rfl, h1', T.cl, T.nW, fl_w _ _ _, d, od, dk ws, rfl, upd_same, fun D hD => dc_it walk_items (fun i H2 => Same (upd H d (.frz od (.dK (dk ws)))) H2 ∧ H2 D = some (.dK (dk (mulW (ws.take i) k q)))) ⟨Same.new hD, upd_same⟩ (fun i H2 _ z => z.1 _ _ upd_same) ?_ ?_⟩
    · rintro i y H2 H2' hi ⟨s2, hD2⟩ y2
      obtain ⟨x, T0, g1, g2, rfl, hT, rfl⟩ := ypair_dk hi y2
      have s3 : Same H2 (upd H2 T0 (.tup [.str x.1, .int x.2])) := Same.new hT
      have hx := hcan.d.mem x g2
      refine ⟨T0, _, rfl, SqT.of upd_same, rfl, _, _, rfl, _, _, rfl, rfl, rfl, ?_⟩
      refine ⟨_, rfl, ?_⟩
      refine ⟨_, rfl, _, rfl, _, _, rfl, rfl, .inl ⟨by omega, by omega⟩, ?_⟩
      refine ⟨_, rfl, p, T.S, dx, _, _, rfl, s3 _ _ (s2 _ _ h1'), T.cl, T.nM, fl_m _ _ _, _, _, rfl, rfl, (show (0 : Int) < q by omega), ?_⟩
      refine ⟨_, Sum.inr x.1, rfl, s3 _ _ hD2, ?_, ?_, ?_⟩
      · rw [dk_len, mulW_len, List.length_take]; exact sz_lt (by omega)
      · exact Same.mut (s2.trans s3) hD
      · rw [upd_same, putK_snoc ?_, take_snoc g1, mulW_snoc]
        rw [mulW_keys]
        intro z
        have nd := hcan.d.nd
        rw [← List.take_append_drop (i + 1) ws, take_snoc g1, List.map_append, List.map_append, List.append_assoc] at nd
        exact (List.nodup_append.mp nd).2.2 x.1 z x.1 (List.mem_append_left _ List.mem_cons_self) rfl
    · rintro H2 ⟨s2, hD2⟩
      rw [dk_len, List.take_length] at hD2
      refine ⟨s2 _ _ upd_same, ?_⟩
      have nDd : D ≠ d := fun z => by rw [z, upd_same] at hD; cases hD
      have s3 : Same H (upd H2 d (.dK (dk ws))) := Same.unlock h2 s2
      have hD3 : upd H2 d (.dK (dk ws)) D = some (.dK (dk (mulW ws k q))) := by rw [upd_ne nDd]; exact hD2
      generalize upd H2 d (.dK (dk ws)) = H3 at s3 hD3
      have h1'' := s3 _ _ h1
      refine ⟨_, rfl, p, T.S, dx, _, _, rfl, h1'', T.cl, T.nM, fl_m _ _ _, ?_⟩
      refine ⟨_, rfl, ?_⟩
      refine ⟨_, rfl, p, T.S, dx, _, _, rfl, h1'', T.cl, T.nC, fl_c _ _ _, _, rfl, _, _, rfl, rfl, .inl ⟨by omega, by omega⟩, ?_⟩
      refine ⟨_, rfl, p, T.S, dx, _, _, rfl, h1'', T.cl, T.nM, fl_m _ _ _, _, _, rfl, rfl, (show (0 : Int) < q by omega), ?_⟩
      intro x e nx ne nex
      have hq0 : 0 < q := by omega
      refine ⟨x, e, D, q, _, N, mulW ws k q, rfl, upd_same, ?_, mulW_dct hcan.d hq0 k, hN, hq, Int.emod_nonneg _ (by omega), Int.emod_lt_of_pos _ hq0, fun us ed H4 _ c4 w4 sx4 sd4 kp4 => ⟨rfl, ?_⟩⟩
      · rw [upd_ne (ne_of_none hD3 nx), upd_ne (ne_of_none hD3 ne)]; exact hD3
      · have s4 : Same H3 H4 := Same.made nx ne kp4
        exact kk x us H4 (s3.free nx) (s3.trans s4) ⟨_, ed, sx4, sd4, c4, Int.emod_nonneg _ (by omega), Int.emod_lt_of_pos _ hq0⟩ fun n => by rw [w4, mulW_wt]
end
end Q
set_option Elab.async false
set_option maxRecDepth 100000
set_option maxHeartbeats 4000000
namespace Q
open PySem L2 QR QM TL
/-! ### lists of texts as data -/
def Asc (t : Str) : Prop := ∀ c ∈ tl t, c < 128
theorem asc_ok {t : Str} (h : Asc t) : PyData.strOk t = true := by
  unfold PyData.strOk
  rw [Array.all_eq_true']
  intro c hc
  have := h c (by simpa using hc)
  simp
  omega
theorem lay_txts : ∀ ns : List Str, (∀ n ∈ ns, Asc n) → PyData.canLayAll0 (ns.map .str) = true
  | [], _ => rfl
  | n :: r, h => by
    rw [List.map_cons]
    have e := asc_ok (h n List.mem_cons_self)
    have ih := lay_txts r fun x hx => h x (List.mem_cons_of_mem _ hx)
    simp [PyData.canLayAll0, PyData.canLay0, e, ih]
theorem dep_txts : ∀ ns : List Str, PyData.depthAll (ns.map .str) = 0
  | [] => rfl
  | n :: r => by rw [List.map_cons]; simp [PyData.depthAll, PyData.depth, dep_txts r]
theorem shp_txts {ns : List Str} (hn : ∀ n ∈ ns, Asc n) : SeqAt.shaped (.list (ns.map .str)) = true := by
  unfold SeqAt.shaped
  have h : PyData.canLay0 (.list (ns.map .str)) = true := lay_txts ns hn
  have h2 : PyData.depth (.list (ns.map .str)) ≤ 64 := by show PyData.depthAll (ns.map .str) + 1 ≤ 64; rw [dep_txts]; decide
  rw [h, decide_eq_true h2]; rfl
theorem eqv_txts : ∀ l m : List Str, PyData.eqvAll (l.map .str) (m.map .str) = decide (l = m)
  | [], [] => by simp [PyData.eqvAll]
  | [], _ :: _ => by simp [PyData.eqvAll]
  | _ :: _, [] => by simp [PyData.eqvAll]
  | a :: r, b :: t => by
    simp only [List.map_cons, PyData.eqvAll, PyData.eqv, eqv_txts r t]
    by_cases h : a = b <;> by_cases h2 : r = t <;> simp [h, h2]
section
variable {K : PySem.W.Frag} {H : Hp}
theorem dpa_txts : ∀ ns : List Str, DpAll K H (ns.map V.str) (ns.map .str)
  | [] => .nil
  | n :: r => .cons (.str n) (dpa_txts r)
/-- two lists of texts: == -/
theorem eqD_txts {a b : Addr} {l m : List Str} {Q : VK} (ha : SqL K H a (l.map V.str)) (hb : SqL K H b (m.map V.str)) (h1 : ∀ n ∈ l, Asc n) (h2 : ∀ n ∈ m, Asc n) (q : Q (.bl (decide (l = m))) H) : rEqD K (.ref a) (.ref b) H Q := by
  refine ⟨_, _, .lst ha (dpa_txts l), .lst hb (dpa_txts m), shp_txts h1, shp_txts h2, ?_⟩
  show Q (.bl (PyData.eqvAll (l.map .str) (m.map .str))) H
  rw [eqv_txts]
  exact q
end
theorem asc_nm {n : Str} (h : IsNm n) : Asc n := fun c hc => by have := sign_le c (h.all c hc); omega
theorem asc_num {k : Int} (h : 0 ≤ k) : Asc (numS k) := fun c hc => Classical.byContradiction fun z => numS_free h (.inr (by omega)) hc
theorem asc_app {a b : Str} (ha : Asc a) (hb : Asc b) : Asc (a ++ b) := fun c hc => by
  rw [tl_append] at hc
  rcases List.mem_append.mp hc with z | z
  · exact ha c z
  · exact hb c z
theorem asc_sp : Asc spS := by unfold Asc; decide +kernel
theorem asc_pl : Asc plS := by unfold Asc; decide +kernel
theorem asc_tt {n : Nat} {p : Str × Int} (h : Gd n p) : Asc (tt p) := by
  unfold tt
  by_cases e : p.2 = 1
  · rw [if_pos e]; exact asc_nm h.nm
  · rw [if_neg e]
    have := h.lo
    exact asc_app (asc_app (asc_num (by omega)) asc_sp) (asc_nm h.nm)
theorem asc_tms {n : Nat} {ws : Ws} {c : Int} (h : Rep n ws c) : ∀ t ∈ tms ws c, Asc t := fun t ht => by
  unfold tms at ht
  rcases List.mem_append.mp ht with z | z
  · obtain ⟨p, hp, rfl⟩ := List.mem_map.mp z
    exact asc_tt (h.gd p hp)
  · by_cases e : c ≠ 0 ∨ ws = []
    · rw [if_pos e] at z
      rw [List.mem_singleton.mp z]
      exact asc_num h.c0
    · rw [if_neg e] at z; cases z
theorem inV_txts (t : Str) (l : List Str) : inV (.str t) (l.map V.str) = decide (t ∈ l) := by
  unfold inV
  rw [List.any_map, Bool.eq_iff_iff, List.any_eq_true, decide_eq_true_iff]
  constructor
  · rintro ⟨y, hy, e⟩
    have : y = t := by simpa [eqV] using e
    rw [← this]; exact hy
  · intro h
    exact ⟨t, h, by simp [eqV]⟩
theorem flat_txts (l : List Str) : (l.map V.str).all flatV = true := by
  rw [List.all_eq_true]
  intro x hx
  obtain ⟨y, _, rfl⟩ := List.mem_map.mp hx
  rfl
/-- the length of a sum's text -/
theorem tt_len {n : Nat} (hn : n ≤ 13) {p : Str × Int} (h : Gd n p) : (tt p).length ≤ 15 := by
  have h1 := h.nm.len.2
  have h2 := h.lo
  have h3 := h.hi
  unfold tt
  by_cases e : p.2 = 1
  · rw [if_pos e]; show p.1.cps.size ≤ 15; omega
  · rw [if_neg e, len_tl, tl_append, tl_append, List.length_append, List.length_append, ← len_tl, ← len_tl, ← len_tl]
    have := numS_len (k := p.2) (by omega) (by omega)
    have e1 : spS.length = 1 := by decide +kernel
    have e2 : p.1.length ≤ 12 := h1
    omega
section
variable {P : Program} {w : World} {K : PySem.W.Frag} {mg : Str → Option Value} {base : Heap}
/-! ### number_of -/
def noV (n : Nat) (t : Str) : Int := match nIx n t with | some k => (k : Int) | none => -1
theorem noV_num {n k : Nat} (h : k < n) : noV n (numS (k : Int)) = k := by unfold noV; rw [nIx_num h]
theorem noV_none {n : Nat} {t : Str} (h : t ∉ nums n) : noV n t = -1 := by unfold noV; rw [nIx_none h]
theorem noV_max (n : Nat) (t : Str) : (if noV n t > 0 then noV n t else 0) = nv n t := by
  unfold noV nv
  cases nIx n t with
  | none => rfl
  | some k => simp only; split <;> omega
def spNumberOf : Sp := fun vs H Q _ => ∃ (t : Str) (n : Nat), vs = [.str t, .int (n : Int)] ∧ n ≤ 13 ∧ ∀ H', Same H H' → Q (.int (noV n t)) H'
theorem scNumberOf : FnScope ["text", "modulus", "texts", "number"] ["text", "modulus"] (defScope sNumberOf) := ⟨rfl, rfl, rfl, by decide +kernel, rfl, by decide +kernel, by decide +kernel⟩
theorem log_small {i : Int} (h0 : -1000 ≤ i) (h1 : i < 1000) : i.natAbs.log2 < 1920 := by
  by_cases e : i.natAbs = 0
  · rw [e]; decide
  · have : i.natAbs.log2 < 10 := (Nat.log2_lt e).mpr (by omega)
    omega
theorem ok_numberOf (T : T3 K mg) : FnOk P w K mg base CX0 1 T.numberOf.f T.numberOf.fd ["text", "modulus"] spNumberOf := by
  refine T.numberOf.F.ok scNumberOf (fun vs H Q E h => ?_) (fun cdv A outer s H vs Q E hr h => ?_)
  · obtain ⟨t, n, rfl, _⟩ := h
    rfl
  · obtain ⟨t, n, rfl, hn, k⟩ := h
    refine ⟨_, (pss_cons (ps_setLc (i := 2) (own := [("number", 3)]) (g := (gName 3)) (tt := tYes) rfl scNumberOf.nd rfl rfl (sw_true rfl rfl rfl (by decide +kernel)) (pi_range1 (by rfl) T.B.range (pa_cons (pv 1) pa_nil)) (blkOk_by (own := [("number", 3)]) (N := ["text", "modulus", "texts", "number"]) (sc := defScope sNumberOf) (by decide +kernel)) (fun _ _ _ _ _ => (pg_name (i := 3) scNumberOf.nd rfl (Or.inl rfl))) (fun _ _ _ _ _ => pts_nil) (fun _ _ _ _ _ => (pe_callTy call_str_int (by rfl) T.B.str (by decide +kernel) (pa_cons (pv 3) pa_nil)))) (pss_one (ps_ret (pe_ifExp (pt_cmpR op_in_seq (pv 0) (pv 2) (by rfl)) (pe_bm PySem.F.plainAttrs_list PySem.F.slot_list_index PySem.F.type_list_index mt_index (pv 2) (pa_cons (pv 0) pa_nil)) (pe_un un_neg pe_int))))), ?_⟩
    refine ⟨_, rfl, n, rfl, by omega, by omega, fun D hD => ?_⟩
    refine lc_map walk_range ((nums n).map V.str) (by rw [List.length_map, nums_len]; omega) (fun _ _ => True.intro) hD (by omega) (fun i x H1 H' hi s1 y P1 kp => ?_) fun H1 s1 hD1 => ?_
    · obtain ⟨rfl, rfl⟩ := y
      refine ⟨rfl, ?_⟩
      refine ⟨_, rfl, _, rfl, log_small (by omega) (by omega), ?_⟩
      refine kp _ _ ?_ (Same.refl _)
      rw [List.getElem?_map, nums_get (show i < n by omega), Int.zero_add]; rfl
    · refine ⟨_, rfl, _, rfl, D, _, rfl, .inl (SqL.of hD1), rfl, flat_txts _, _, rfl, ?_⟩
      rw [if_neg (by decide), inV_txts]
      by_cases hm : t ∈ nums n
      · rw [decide_eq_true hm]
        refine iteT ?_
        obtain ⟨j, hj, rfl⟩ := nums_mem.mp hm
        refine ⟨_, rfl, .inl ⟨rfl, _, SqL.of hD1⟩, _, rfl, D, _, _, j, .str (numS (j : Int)), rfl, rfl, SqL.of hD1, rfl, flat_txts _, by rw [List.getElem?_map, nums_get hj]; rfl, by simp [eqV], fun m z hmj hz => ?_, ?_⟩
        · rw [List.getElem?_map, nums_get (by omega)] at hz
          cases hz
          simp only [eqV, beq_eq_false_iff_ne]
          intro e
          have := numS_inj e
          omega
        · have := k H1 s1
          rw [noV_num hj] at this
          exact this
      · rw [decide_eq_false hm]
        refine iteF ?_
        have := k H1 s1
        rw [noV_none hm] at this
        exact ⟨1, rfl, this⟩
/-! ### term_text -/
def spTermText : Sp := fun vs H Q _ => ∃ (m : Str) (i : Int), vs = [.str m, .int i] ∧ IsNm m ∧ 1 ≤ i ∧ i < 13 ∧ Q (.str (tt (m, i))) H
theorem scTermText : FnScope ["name", "weight"] ["name", "weight"] (defScope sTermText) := ⟨rfl, rfl, rfl, by decide +kernel, rfl, by decide +kernel, by decide +kernel⟩
theorem ok_termText (T : T3 K mg) : FnOk P w K mg base CX0 1 T.termText.f T.termText.fd ["name", "weight"] spTermText := by
  refine T.termText.F.ok scTermText (fun vs H Q E h => ?_) (fun cdv A outer s H vs Q E hr h => ?_)
  · obtain ⟨m, i, rfl, _⟩ := h
    rfl
  · obtain ⟨m, i, rfl, hm, h1, h2, k⟩ := h
    refine ⟨_, (pss_one (ps_ret (pe_ifExp (pt_cmpR op_eq (pv 1) pe_int (nomark _)) (pv 0) (pe_joined (PJ.cons (pe_fmt (pv 1)) (PJ.cons pe_str (PJ.cons (pe_fmt (pv 0)) PJ.nil))))))), ?_⟩
    refine ⟨_, rfl, rfl, _, rfl, ?_⟩
    unfold tt at k
    by_cases e : i = 1
    · rw [if_pos e] at k
      rw [decide_eq_true (show V.int i = V.int 1 by rw [e])]
      exact iteT ⟨_, rfl, k⟩
    · rw [if_neg e] at k
      rw [decide_eq_false (show ¬ V.int i = V.int 1 from fun z => e (V.int.inj z))]
      refine iteF ?_
      have l1 := hm.len.2
      have l2 := numS_len (k := i) (by omega) (by omega)
      have l3 : (numS i ++ spS).length ≤ 3 := by
        rw [len_tl, tl_append, List.length_append, ← len_tl, tl_sp]
        exact Nat.add_le_add l2 (Nat.le_refl 1)
      have l4 : (numS i ++ spS ++ m).length ≤ 15 := by
        rw [len_tl, tl_append, List.length_append, ← len_tl, ← len_tl]
        exact Nat.add_le_add l3 l1
      have emp : Str.empty ++ numS i = numS i := ext_tl (by rw [tl_append]; rfl)
      refine ⟨_, rfl, .inr ⟨i, rfl, log_small (by omega) (by omega), numS i, rfl, sz_le (by rw [emp]; omega), ?_⟩⟩
      rw [emp]
      refine ⟨spS, rfl, sz_le (by omega), ?_⟩
      refine ⟨_, rfl, .inl ⟨m, rfl, sz_le (by show m.cps.size ≤ 100000; omega), m, rfl, sz_le (by omega), k⟩⟩
/-! ### Sum.__str__ -/
theorem sumAt_rep {S : Addr} {H : Hp} {p : Addr} {n : Nat} {N : List Str} {ws : Ws} {c : Int} (h : SumAt S H p (n : Int) N ws c) (hN : Nms N) : Rep n ws c := by
  obtain ⟨dx, d, h1, h2, hc, c0, c1⟩ := h
  exact ⟨fun p hp => ⟨hN.nm _ (hc.d.mem p hp).1, (hc.d.mem p hp).2.1, (hc.d.mem p hp).2.2⟩, hc.srt, c0, c1⟩
def spStr (S : Addr) : Sp := fun vs H Q _ => ∃ (p : Addr) (n : Nat) (N : List Str) (ws : Ws) (c : Int), vs = [.ref p] ∧ SumAt S H p (n : Int) N ws c ∧ Nms N ∧ n ≤ 13 ∧ ∀ H', Same H H' → Q (.str (txt ws c)) H'
theorem scStr : FnScope ["self", "terms", "name", "weight"] ["self"] (defScope sStr) := ⟨rfl, rfl, rfl, by decide +kernel, rfl, by decide +kernel, by decide +kernel⟩
theorem tms_sum {n : Nat} (hn : n ≤ 13) {ws : Ws} {c : Int} (h : Rep n ws c) : ((tms ws c).map (·.length)).sum ≤ 15 * (tms ws c).length := by
  have : ∀ l : List Str, (∀ t ∈ l, t.length ≤ 15) → (l.map (·.length)).sum ≤ 15 * l.length := by
    intro l
    induction l with
    | nil => intro _; exact Nat.le_refl _
    | cons a r ih =>
      intro h
      have h1 := h a List.mem_cons_self
      have h2 := ih fun t ht => h t (List.mem_cons_of_mem _ ht)
      simp only [List.map_cons, List.sum_cons, List.length_cons]
      omega
  refine this _ fun t ht => ?_
  unfold tms at ht
  rcases List.mem_append.mp ht with z | z
  · obtain ⟨p, hp, rfl⟩ := List.mem_map.mp z
    exact tt_len hn (h.gd p hp)
  · by_cases e : c ≠ 0 ∨ ws = []
    · rw [if_pos e] at z
      rw [List.mem_singleton.mp z]
      have c0 := h.c0
      have c1 := h.c1
      have := numS_len c0 (by omega)
      omega
    · rw [if_neg e] at z; cases z
theorem tms_count (ws : Ws) (c : Int) : (tms ws c).length ≤ ws.length + 1 := by
  unfold tms
  rw [List.length_append, List.length_map]
  split <;> simp
theorem ok_str (T : T3 K mg) : FnOk P w K mg base CX0 2 T.str_.f T.str_.fd ["self"] (spStr T.S) := by
  have GTt : FnOk P w K mg base CX0 1 T.termText.f T.termText.fd ["name", "weight"] spTermText := ok_termText T
  refine T.str_.F.ok scStr (fun vs H Q E h => ?_) (fun cdv A outer s H vs Q E hr h => ?_)
  · obtain ⟨p, n, N, ws, c, rfl, _⟩ := h
    rfl
  · obtain ⟨p, n, N, ws, c, rfl, hS, hN, hn, k⟩ := h
    have hrep := sumAt_rep hS hN
    obtain ⟨dx, d, h1, h2, hcan, hc0, hc1⟩ := hS
    have hl := hcan.d.len
    have hl2 := hN.len
    have npd : p ≠ d := ne_of h1 h2 (by intro z; cases z)
    refine ⟨_, (pss_cons (ps_lock (ps_setLc (i := 1) (own := [("name", 2), ("weight", 3)]) (g := (gTup K 2 (gCons (gName 2) (gCons (gName 3) gNil)))) (tt := tYes) rfl scStr.nd rfl rfl (sw_true rfl rfl rfl (by decide +kernel)) (pi_items (pe_fld (pv 0) rfl)) (blkOk_by (own := [("name", 2), ("weight", 3)]) (N := ["self", "terms", "name", "weight"]) (sc := defScope sStr) (by decide +kernel)) (fun _ _ _ _ _ => (pg_tup rfl (pgs_cons (pg_name (i := 2) scStr.nd rfl (Or.inl rfl)) (pgs_cons (pg_name (i := 3) scStr.nd rfl (Or.inl rfl)) pgs_nil)))) (fun _ _ _ _ _ => pts_nil) (fun _ _ _ _ _ => (pe_call GTt hr (by rfl) T.gTermText T.termText.kp T.termText.b .nil pass0 (pa_cons (pv 2) (pa_cons (pv 3) pa_nil)))))) (pss_cons (ps_if (PW.pt (pw_or (pt_cmpR op_ne (pe_fld (pv 0) rfl) pe_int (nomark _)) (pw_or1 (pt_cmpR (op_eqD hr.units) (pv 1) (pe_lst pa_nil) (nomark _))))) (pss_one (ps_expr (pe_bm PySem.F.plainAttrs_list PySem.F.slot_list_append PySem.F.type_list_append mt_append (pv 1) (pa_cons (pe_callTy call_str_int (by rfl) T.B.str (by decide +kernel) (pa_cons (pe_fld (pv 0) rfl) pa_nil)) pa_nil)))) pss_nil) (pss_one (ps_ret (pe_join pe_str (pv 1)))))), ?_⟩
    refine ⟨d, _, h2, True.intro, fun od => ?_⟩
    have h1f : upd H d (.frz od (.dK (dk ws))) p = some (.ins T.S dx (fl n d c)) := by rw [upd_ne npd]; exact h1
    refine ⟨_, rfl, p, T.S, dx, _, _, rfl, h1f, T.cl, T.nW, fl_w _ _ _, d, od, dk ws, rfl, upd_same, fun D hD => ?_⟩
    refine lc_map walk_items ((ws.map tt).map V.str) (by rw [List.length_map, List.length_map, dk_len]) (fun H1 s1 => s1 _ _ upd_same) hD (by rw [dk_len]; omega) (fun i x H1 H' hi s1 y P1 kp => ?_) fun H1 s1 hD1 => ?_
    · obtain ⟨q, T0, g1, g2, rfl, hT, rfl⟩ := ypair_dk hi y
      have gd := hrep.gd q g2
      have g3 := gd.hi
      refine ⟨T0, _, rfl, SqT.of upd_same, rfl, _, _, rfl, _, _, rfl, rfl, rfl, ?_⟩
      refine ⟨_, rfl, _, rfl, q.1, q.2, rfl, gd.nm, gd.lo, by omega, ?_⟩
      refine kp _ _ ?_ (Same.new hT)
      rw [List.getElem?_map, List.getElem?_map, g1]; rfl
    · refine ⟨s1 _ _ upd_same, ?_⟩
      have nDd : D ≠ d := fun z => by rw [z, upd_same] at hD; cases hD
      have fD : H D = none := by rw [upd_ne nDd] at hD; exact hD
      have s2 : Same H (upd H1 d (.dK (dk ws))) := Same.unlock h2 s1
      have hD2 : upd H1 d (.dK (dk ws)) D = some (.lst ((ws.map tt).map V.str)) := by rw [upd_ne nDd]; exact hD1
      generalize upd H1 d (.dK (dk ws)) = H2 at s2 hD2
      have tail : ∀ H3, Same H H3 → H3 D = some (.lst ((tms ws c).map V.str)) → tRet (tM1 (rJoin K) (tC (.str plS)) (tVar 1)) { nx := fun _ H' => Q .non H', rt := Q } [some (.ref p), some (.ref D), none, none] H3 := by
        intro H3 s3 h3
        refine ⟨⟨plS, rfl⟩, _, rfl, plS, D, tms ws c, rfl, rfl, .inl (SqL.of h3), ?_, k _ s3⟩
        have b1 := tms_sum hn hrep
        have b2 := tms_count ws c
        have e3 : plS.length = 3 := by decide +kernel
        rw [e3]; omega
      refine ⟨_, rfl, p, T.S, dx, _, _, rfl, s2 _ _ h1, T.cl, T.nC, fl_c _ _ _, rfl, _, rfl, ?_⟩
      have app : ∀ H3, Same H H3 → H3 D = some (.lst ((ws.map tt).map V.str)) → c ≠ 0 ∨ ws = [] →
          tDrop (tBM K "list" rAppend (tVar 1) (tCons (tCB (fun xs H Q => ∃ i, xs = [.int i] ∧ i.natAbs.log2 < 1920 ∧ Q (.str (toString i)) H) (tCons (tFld K (tVar 0) "own_constant") tNil)) tNil)) { nx := tRet (tM1 (rJoin K) (tC (.str plS)) (tVar 1)) { nx := fun _ H' => Q .non H', rt := Q }, rt := Q } [some (.ref p), some (.ref D), none, none] H3 := by
        intro H3 s3 h3 hor
        refine ⟨_, rfl, .inl ⟨rfl, _, SqL.of h3⟩, _, rfl, p, T.S, dx, _, _, rfl, s3 _ _ h1, T.cl, T.nC, fl_c _ _ _, c, rfl, log_small (by omega) (by omega), D, _, _, rfl, rfl, h3, ?_, ?_⟩
        · rw [List.length_map, List.length_map]; exact sz_lt (by omega)
        · refine tail _ (Same.mut s3 fD) ?_
          rw [upd_same]
          unfold tms
          rw [if_pos hor, List.map_append]; rfl
      by_cases e0 : c = 0
      · rw [e0]
        refine iteF ?_
        refine ⟨_, rfl, by show 0 ≤ sizeLine; decide, fun e1 he1 => ?_⟩
        have s4 : Same H2 (upd H2 e1 (.lst [])) := Same.new he1
        refine eqD_txts (l := ws.map tt) (m := []) (SqL.of (s4 _ _ hD2)) (SqL.of upd_same) (fun t ht => ?_) (fun t ht => nomatch ht) ?_
        · obtain ⟨q, hq, rfl⟩ := List.mem_map.mp ht
          exact asc_tt (hrep.gd q hq)
        · refine ⟨_, rfl, ?_⟩
          by_cases ew : ws = []
          · rw [decide_eq_true (show ws.map tt = [] by rw [ew]; rfl)]
            refine iteT ?_
            have := app _ (s2.trans s4) (s4 _ _ hD2) (.inr ew)
            exact this
          · rw [decide_eq_false (show ¬ ws.map tt = [] from fun z => ew (List.map_eq_nil_iff.mp z))]
            refine iteF ?_
            refine tail _ (s2.trans s4) ?_
            rw [s4 _ _ hD2]
            unfold tms
            rw [if_neg (fun z => z.elim (fun z => z e0) fun z => ew z), List.append_nil]
      · have e1 : (!decide (V.int c = V.int 0)) = true := by
          rw [decide_eq_false (fun z => e0 (V.int.inj z))]; rfl
        rw [e1]
        refine iteT ?_
        refine iteT ?_
        exact app _ s2 hD2 (.inl e0)
end
end Q
set_option Elab.async false
set_option maxRecDepth 100000
set_option maxHeartbeats 4000000
namespace Q
open PySem L2 QR QM TL
/-- all but r is as it was -/
def SameX (r : Addr) (H H' : Hp) : Prop := ∀ b o, b ≠ r → H b = some o → H' b = some o
theorem SameX.refl (r : Addr) (H : Hp) : SameX r H H := fun _ _ _ h => h
theorem SameX.trans {r : Addr} {H H1 H2 : Hp} (a : SameX r H H1) (b : SameX r H1 H2) : SameX r H H2 := fun c o n h => b c o n (a c o n h)
theorem SameX.of {r : Addr} {H H' : Hp} (s : Same H H') : SameX r H H' := fun b o _ h => s b o h
theorem SameX.mut {r : Addr} {H H' : Hp} (s : SameX r H H') {p : Addr} {o : HO} (h : H p = none) : SameX r H (upd H' p o) := fun b u n e => by rw [upd_ne (ne_of_none e h)]; exact s b u n e
theorem SameX.new {r : Addr} {H : Hp} {p : Addr} {o : HO} (h : H p = none) : SameX r H (upd H p o) := SameX.of (Same.new h)
theorem SameX.own {r : Addr} {H H' : Hp} (s : SameX r H H') {o : HO} : SameX r H (upd H' r o) := fun b u n e => by rw [upd_ne n]; exact s b u n e
theorem SameX.free {r : Addr} {H H' : Hp} (s : SameX r H H') {o : HO} (hr : H' r = some o) {l : Addr} (h : H' l = none) : H l = none := by
  cases q : H l with
  | none => rfl
  | some u =>
    have n : l ≠ r := fun z => by rw [z, hr] at h; cases h
    rw [s l u n q] at h
    cases h
theorem psnox {X : Cx} {st : Stmt} {t : TS} (h : PS X.nox st t) : PS X st t := ⟨fun pins s σ H D I hw =>
  wpAny_mono (h.run pins s σ H D (I.wish _) hw) (fun _ _ q => q.unwish) fun _ _ z => False.elim z⟩
section
variable {P : Program} {w : World} {K : PySem.W.Frag} {mg : Str → Option Value} {base : Heap}
/-! ### InvalidText.__init__ -/
def spEr (C : Addr) : Sp := fun vs H Q _ => ∃ (a : Addr) (v : V), vs = [.ref a, v] ∧ H a = some (exo a C none) ∧ ∀ dx, H dx = none → dx ≠ a → Q .non (upd (upd H dx (exd dx [("line", v)])) a (exo a C (some dx)))
theorem scEr : FnScope ["self", "line"] ["self", "line"] (defScope sTextInit) := ⟨rfl, rfl, rfl, by decide +kernel, rfl, by decide +kernel, by decide +kernel⟩
theorem ok_er (T : T3 K mg) : FnOk P w K mg base CX0 1 T.erI.f T.erI.fd ["self", "line"] (spEr T.Er) := by
  refine T.erI.F.ok scEr (fun vs H Q E h => ?_) (fun cdv A outer s H vs Q E hr h => ?_)
  · obtain ⟨a, v, rfl, _⟩ := h
    rfl
  · obtain ⟨a, v, rfl, ha, k⟩ := h
    refine ⟨_, pss_cons (ps_expr (pe_cinit (by rfl) T.gQe T.qeR T.qeI (pa_cons (pv 0) (pa_cons pe_str pa_nil)))) (pss_one (ps_ost (pv 0) (pv 1))), ?_⟩
    refine ⟨_, rfl, a, T.Er, _, rfl, by show 1 ≤ 1000; decide, T.erC, ha, ?_⟩
    exact ⟨_, rfl, _, rfl, a, T.Er, rfl, T.erC, T.erL, .inl ⟨ha, fun dx h1 h2 => k dx h1 h2⟩⟩
/-- what the raise of InvalidText(1) reads -/
theorem raise1 {C : Addr} {W : XK} {σ : St} {H : Hp} (h : ∀ d H', Same H H' → H d = none → H' d = some (.xd [("line", .int 1)]) → W (.ref C) (some d) H') : tMkO C (spEr C) [] (tCons (tC (.int 1)) tNil) σ H W := by
  refine ⟨by show 1 ≤ 1000; decide, fun a ha => ⟨a, .int 1, rfl, upd_same, fun dx h1 h2 => ⟨rfl, dx, [("line", .int 1)], upd_same, ?_, ?_, ?_⟩⟩⟩
  · rw [upd_ne h2, upd_same]
  · rw [upd_ne h2] at h1; exact h1
  · rw [upd_ne h2] at h1
    refine h dx _ (fun b o hb => ?_) h1 upd_same
    have nba : b ≠ a := ne_of_none hb ha
    have nbd : b ≠ dx := ne_of_none hb h1
    rw [upd_ne nbd, del_ne nba, upd_ne nba, upd_ne nbd, upd_ne nba]
    exact hb
/-! ### Sum.parse -/
def NotStr (K : PySem.W.Frag) (H : Hp) (v : V) : Prop := ∃ c, TyX K H v c ∧ PySem.W.kitOne K c (.type "str") = some false
abbrev tLast (K : PySem.W.Frag) : TE := tOp (rIxL K) (tVar 6) (tUn (rU fun i => V.int (-i)) (tC (.int 1)))
def tElse (K : PySem.W.Frag) : TS := tIfS (tB (tCall spIsName [] E0 (tCons (tLast K) tNil)))
  (sDPut (tVar 3) (tLast K) (tIf (tTest (tOp rEq (tCB (fun xs H Q => ∃ p ys, xs = [.ref p] ∧ (SqL K H p ys ∨ SqT K H p ys) ∧ Q (.int (ys.length : Nat)) H) (tCons (tVar 6) tNil)) (tC (.int 1)))) (tC (.int 1))
    (tCB (fun xs H Q => ∃ i j, xs = [.int i, .int j] ∧ Q (.int (if j > i then j else i)) H) (tCons (tC (.int 0)) (tCons (tCall spNumberOf [] E0 (tCons (tOp (rIxL K) (tVar 6) (tC (.int 0))) (tCons (tVar 1) tNil))) tNil))))) tNext
theorem pstep_snd {n : Nat} {s : Ws × Int} {u : Str} (h : ¬ ((wds u).length = 1 ∧ isNm u = false)) : (pstep n s u).2 = s.2 := by
  unfold pstep
  rw [if_neg h]
  split <;> rfl
theorem else_ok {D : Ends} {H5 : Hp} {W0 p : Addr} {ws0 : Ws} {c0 : Int} {u : Str} {n : Nat} {v0 v2 : Option V} (hn : n ≤ 13) (hW : H5 W0 = some (.dK (dk ws0))) (hz : ws0.length < 1000) (hp : H5 p = some (.lst ((wds u).map V.str))) (hpar : ∀ z ∈ wds u, z.cps.size ≤ 1000)
    (hnot : ¬ ((wds u).length = 1 ∧ isNm u = false))
    (hk : ∀ H6, SameX W0 H5 H6 → H6 W0 = some (.dK (dk (pstep n (ws0, c0) u).1)) → D.nx [v0, some (.int (n : Int)), v2, some (.ref W0), some (.int c0), some (.str u), some (.ref p), none] H6) :
    tElse K D [v0, some (.int (n : Int)), v2, some (.ref W0), some (.int c0), some (.str u), some (.ref p), none] H5 := by
  have hw1 := wds_pos u
  have npW : p ≠ W0 := fun z => by rw [z, hW] at hp; cases hp
  have last : (wds u)[(wds u).length - 1]? = some ((wds u).getLastD u) := by
    rw [List.getLastD_eq_getLast?, List.getLast?_eq_getElem?]
    rw [List.getElem?_eq_getElem (by omega)]; rfl
  have head : (wds u)[0]? = some ((wds u).headD u) := by
    cases hw : wds u with
    | nil => rw [hw] at hw1; simp at hw1
    | cons a r => rfl
  have lmem : (wds u).getLastD u ∈ wds u := List.mem_of_getElem? last
  have hmem : (wds u).headD u ∈ wds u := List.mem_of_getElem? head
  have hat : atI ((wds u).map V.str) (-1) = some (V.str ((wds u).getLastD u)) := by
    have hne : wds u ≠ [] := fun z => by rw [z] at hw1; simp at hw1
    have e1 := List.dropLast_concat_getLast hne
    have e2 : (wds u).getLastD u = (wds u).getLast hne := by rw [List.getLastD_eq_getLast?, List.getLast?_eq_some_getLast hne]; rfl
    rw [e2]
    conv => lhs; rw [← e1]
    rw [List.map_append]
    exact atI_last _ _
  have tl1 : ∀ {σ : St} {H6 : Hp} {Q : VK}, σ[6]? = some (some (.ref p)) → H6 p = some (.lst ((wds u).map V.str)) → Q (.str ((wds u).getLastD u)) H6 → tLast K σ H6 Q := by
    intro σ H6 Q h1 h2 h3
    exact ⟨_, h1, 1, rfl, p, _, _, _, rfl, rfl, SqL.of h2, hat, h3⟩
  refine tl1 rfl hp ?_
  refine ⟨_, rfl, hpar _ lmem, fun H6 s6 => ⟨_, rfl, ?_⟩⟩
  cases hi : isNm ((wds u).getLastD u) with
  | false =>
    refine iteF ?_
    refine hk H6 (SameX.of s6) ?_
    unfold pstep
    rw [if_neg hnot, if_neg (by rw [hi]; simp)]
    exact s6 _ _ hW
  | true =>
    refine iteT ?_
    have fin : ∀ H7 (v : Int), Same H6 H7 → v = (if (wds u).length = 1 then 1 else nv n ((wds u).headD u)) → ∃ a H8, V.ref W0 = .ref a ∧ DPut H7 a (.str ((wds u).getLastD u)) (.int v) H8 ∧ D.nx [v0, some (.int (n : Int)), v2, some (.ref W0), some (.int c0), some (.str u), some (.ref p), none] H8 := by
      intro H7 v s7 hv
      refine ⟨W0, _, rfl, DPut.k (k := Sum.inr ((wds u).getLastD u)) (s7 _ _ (s6 _ _ hW)) (by rw [dk_len]; exact sz_lt (by omega)), ?_⟩
      refine hk _ (SameX.own (SameX.of (s6.trans s7))) ?_
      rw [upd_same, putK_dk]
      unfold pstep
      rw [if_neg hnot, if_pos hi, hv]
    refine ⟨_, rfl, p, _, rfl, .inl (SqL.of (s6 _ _ hp)), rfl, _, rfl, ?_⟩
    rw [List.length_map]
    by_cases e1 : (wds u).length = 1
    · rw [decide_eq_true (show V.int ((wds u).length : Nat) = V.int 1 by rw [e1]; rfl)]
      refine iteT ?_
      refine ⟨_, rfl, tl1 rfl (s6 _ _ hp) (fin H6 1 (Same.refl _) (by rw [if_pos e1]))⟩
    · rw [decide_eq_false (show ¬ V.int ((wds u).length : Nat) = V.int 1 from fun z => e1 (by have := V.int.inj z; omega))]
      refine iteF ?_
      refine ⟨_, rfl, p, _, 0, _, rfl, rfl, SqL.of (s6 _ _ hp), at_of (j := 0) rfl (by rw [List.getElem?_map, head]; rfl), _, rfl, (wds u).headD u, n, rfl, hn, fun H7 s7 => ⟨0, _, rfl, ?_⟩⟩
      refine ⟨_, rfl, tl1 rfl (s7 _ _ (s6 _ _ hp)) (fin H7 _ s7 ?_)⟩
      rw [if_neg e1, noV_max]
def spParse (K : PySem.W.Frag) (S Er : Addr) : Sp := fun vs H Q E => ∃ (n : Nat) (v : V), vs = [.ref S, .int (n : Int), v] ∧ IsMod (n : Int) ∧
  ((∃ t : Str, v = .str t ∧ t.length ≤ 170 ∧ (∀ p N ws c H', Same H H' → H p = none → SumAt S H' p (n : Int) N ws c → Nms N → t = txt ws c → Q (.ref p) H') ∧
      ((∀ ws c, Rep n ws c → t ≠ txt ws c) → ∀ d H', Same H H' → H d = none → H' d = some (.xd [("line", .int 1)]) → E (.ref Er) (some d) H')) ∨
    (NotStr K H v ∧ ∀ d H', Same H H' → H d = none → H' d = some (.xd [("line", .int 1)]) → E (.ref Er) (some d) H'))
theorem scParse : FnScope ["cls", "modulus", "text", "weights", "constant", "term", "words", "found"] ["cls", "modulus", "text"] (defScope sParse) := ⟨rfl, rfl, rfl, by decide +kernel, rfl, by decide +kernel, by decide +kernel⟩
theorem ok_parse (T : T3 K mg) : FnOk P w K mg base (L2.CX P w) 6 T.parse.f T.parse.fd ["cls", "modulus", "text"] (spParse K T.S T.Er) := by
  have GM : FnOk P w K mg base CX0 2 T.wantModulus.f T.wantModulus.fd ["value"] spWantModulus := ok_wantModulus T.toT1
  have GN : FnOk P w K mg base CX0 1 T.isName.f T.isName.fd ["value"] spIsName := ok_isName T.isName T.B T.C
  have GNo : FnOk P w K mg base CX0 1 T.numberOf.f T.numberOf.fd ["text", "modulus"] spNumberOf := ok_numberOf T
  have GS : FnOk P w K mg base CX0 4 T.fI T.fdI psInit (spInit T.S) := ok_init T.toT2
  have GStr : FnOk P w K mg base CX0 2 T.str_.f T.str_.fd ["self"] (spStr T.S) := ok_str T
  have GEr : FnOk P w K mg base CX0 1 T.erI.f T.erI.fd ["self", "line"] (spEr T.Er) := ok_er T
  obtain ⟨tp, hplus⟩ := T.C.plus
  refine T.parse.F.okX scParse (fun vs H Q E h => ?_) (fun cdv A outer s H vs Q E hr h => ?_)
  · obtain ⟨n, v, rfl, _⟩ := h
    rfl
  · obtain ⟨n, v, rfl, hq, h⟩ := h
    have hr1 : Room 1 _ := hr.mono (by decide)
    have hr2 : Room 2 _ := hr.mono (by decide)
    have hrE : Room (1 + 1) _ := hr.mono (by decide)
    have hrS : Room (4 + 1) _ := hr.mono (by decide)
    have hrT : Room (2 + 2) _ := hr.mono (by decide)
    have hu := hu_of hr
    have hq2 := hq.pos
    refine ⟨_, (pss_cons (psnox (ps_expr (pe_call GM hr2 (by rfl) T.gWantModulus T.wantModulus.kp T.wantModulus.b .nil pass0 (pa_cons (pv 1) pa_nil)))) (pss_cons (ps_if (PT.nox (pt_not (pt_val (pe_callB call_isi (by rfl) T.B.isinstance (by decide +kernel) (pa_cons (pv 2) (pa_cons (pe_bltn (v := .ty "str") (by rfl) T.B.str (by decide +kernel) rfl) pa_nil)))))) (pss_one (ps_raise rfl (takes_of rfl rfl rfl rfl) (pmk_oex T.erC T.erF T.erT GEr hrE T.erI.b .nil pass0 (by rfl) T.gEr (pa_cons pe_int pa_nil)))) pss_nil) (pss_cons (psnox (ps_par (i := 3) (j := 4) (by rfl) scParse.nd rfl rfl (by decide) rfl rfl (pa_cons pe_dnewK (pa_cons pe_int pa_nil)) (by rfl))) (pss_cons (psnox (ps_for PassesOwn.never rfl (pi_list (pe_split (pv 2) (pe_glob (v := .str plS) rfl hplus ⟨_, rfl⟩))) (pg_name (i := 5) scParse.nd rfl (Or.inl rfl)) (pss_cons (ps_set (i := 6) scParse.nd rfl (Or.inl rfl) (pe_split (pv 5) pe_str)) (pss_one (ps_if (PW.pt (pw_and (pt_cmpR op_eq (pe_callB call_len_seq (by rfl) T.B.len PySem.boot_len (pa_cons (pv 6) pa_nil)) pe_int (nomark _)) (pw_and1 (pt_not (pt_val (pe_call GN hr1 (by rfl) T.gIsName T.isName.kp T.isName.b .nil pass0 (pa_cons (pv 5) pa_nil))))))) (pss_one (ps_set (i := 4) scParse.nd rfl (Or.inl rfl) (pe_callB (call_max2 rfl) (by rfl) T.B.max (by decide +kernel) (pa_cons pe_int (pa_cons (pe_call GNo hr1 (by rfl) T.gNumberOf T.numberOf.kp T.numberOf.b .nil pass0 (pa_cons (pv 5) (pa_cons (pv 1) pa_nil))) pa_nil))))) (pss_one (ps_if (pt_val (pe_call GN hr1 (by rfl) T.gIsName T.isName.kp T.isName.b .nil pass0 (pa_cons (pe_ix ix_list (pv 6) (pe_un un_neg pe_int) (fun _ _ => rfl)) pa_nil))) (pss_one (ps_dput hu (pv 3) (pe_ix ix_list (pv 6) (pe_un un_neg pe_int) (fun _ _ => rfl)) (pe_ifExp (pt_cmpR op_eq (pe_callB call_len_seq (by rfl) T.B.len PySem.boot_len (pa_cons (pv 6) pa_nil)) pe_int (nomark _)) pe_int (pe_callB (call_max2 rfl) (by rfl) T.B.max (by decide +kernel) (pa_cons pe_int (pa_cons (pe_call GNo hr1 (by rfl) T.gNumberOf T.numberOf.kp T.numberOf.b .nil pass0 (pa_cons (pe_ix ix_list (pv 6) pe_int (fun _ _ => rfl)) (pa_cons (pv 1) pa_nil))) pa_nil)))) rfl)) pss_nil))))))) (pss_cons (psnox (ps_set (i := 7) scParse.nd rfl (Or.inl rfl) (pe_makeV T.MI GS hrS (pv 0) T.bI .nil pass0 (pa_cons (pv 1) (pa_cons (pv 3) (pa_cons (pv 4) pa_nil)))))) (pss_cons (ps_if (PT.nox (pt_cmpR op_ne (pe_callTy (cr_strOwn GStr hrT T.str_.m.at_ T.str_.m.fn T.str_.b pass0) (by rfl) T.B.str (by decide +kernel) (pa_cons (pv 7) pa_nil)) (pv 2) (nomark _))) (pss_one (ps_raise rfl (takes_of rfl rfl rfl rfl) (pmk_oex T.erC T.erF T.erT GEr hrE T.erI.b .nil pass0 (by rfl) T.gEr (pa_cons pe_int pa_nil)))) pss_nil) (pss_one (psnox (ps_ret (pv 7)))))))))), ?_⟩
    refine ⟨_, rfl, _, rfl, hq, ?_⟩
    rcases h with ⟨t, rfl, ht, kQ, kE⟩ | ⟨⟨c, ty, kt⟩, kE⟩
    rotate_left
    · refine ⟨_, rfl, _, _, _, _, false, rfl, .ty _, ty, kt, false, rfl, ?_⟩
      refine iteT ?_
      exact raise1 kE
    refine ⟨_, rfl, _, _, _, _, true, rfl, .ty _, .base (.str t), kit_ty (by decide +kernel), true, rfl, ?_⟩
    refine iteF ?_
    refine fun W0 hW0 => ⟨_, _, rfl, ?_⟩
    have s1 : Same H (upd H W0 (.dK [])) := Same.new hW0
    generalize hH1 : upd H W0 (.dK []) = H1 at s1
    have hW1 : H1 W0 = some (.dK (dk [])) := by rw [← hH1]; exact upd_same
    refine ⟨_, rfl, ⟨t, rfl⟩, t, plS, rfl, rfl, by decide +kernel, sz_le (by omega), fun l hl => ?_⟩
    generalize hH2 : upd H1 l (.lst ((Txt.split t plS).map V.str)) = H2
    have s2 : Same H1 H2 := by rw [← hH2]; exact Same.new hl
    have hl2 : H2 l = some (.lst ((trms t).map V.str)) := by rw [← hH2]; exact upd_same
    refine ⟨l, rfl, ⟨_, SqL.of hl2⟩, ?_⟩
    have nlW : l ≠ W0 := fun z => by rw [z, hW1] at hl; cases hl
    have hcnt := trms_len t
    refine for_it (walk_list (xs := (trms t).map V.str)) (fun i σ H3 => ∃ v5 v6 : Option V, σ = [some (.ref T.S), some (.int (n : Int)), some (.str t), some (.ref W0), some (.int (pfold n ((trms t).take i)).2), v5, v6, none] ∧ SameX W0 H2 H3 ∧ H3 W0 = some (.dK (dk (pfold n ((trms t).take i)).1)))
      ⟨none, none, rfl, SameX.refl _ _, s2 _ _ hW1⟩ (fun i σ H3 _ z => ?_) ?_ ?_
    · obtain ⟨_, _, _, s3, _⟩ := z
      exact SqL.of (s3 _ _ nlW hl2)
    · rintro i x σ H3 H3' hi ⟨v5, v6, rfl, s3, hW3⟩ ⟨rfl, hx⟩
      rw [List.length_map] at hi
      have hti : (trms t)[i]? = some (trms t)[i] := List.getElem?_eq_getElem hi
      rw [List.getElem?_map, hti] at hx
      cases hx
      have etk : (trms t).take (i + 1) = (trms t).take i ++ [(trms t)[i]] := by rw [List.take_add_one, hti]; rfl
      have hps := pfold_snoc n ((trms t).take i) (trms t)[i]
      rw [← etk] at hps
      have hpl : ((trms t)[i]).length ≤ t.length := PyProof.Rows.part_short (x := t) (y := plS) (List.getElem_mem hi)
      generalize (trms t)[i] = u at hps hpl
      refine ⟨_, rfl, ⟨u, rfl⟩, u, spS, rfl, rfl, by decide +kernel, sz_le (by omega), fun p hp => ?_⟩
      generalize hH4 : upd H3' p (.lst ((Txt.split u spS).map V.str)) = H4
      have s4 : Same H3' H4 := by rw [← hH4]; exact Same.new hp
      have hp4 : H4 p = some (.lst ((wds u).map V.str)) := by rw [← hH4]; exact upd_same
      have hw1 := wds_pos u
      have hwl : (wds u).length ≤ 172 := by
        have := PyProof.Rows.split_le u spS
        show (Txt.split u spS).length ≤ 172
        omega
      have hpar : ∀ z ∈ wds u, z.cps.size ≤ 1000 := fun z hz => by
        have : z.length ≤ u.length := PyProof.Rows.part_short (x := u) (y := spS) hz
        show z.length ≤ 1000
        omega
      have last : (wds u)[(wds u).length - 1]? = some ((wds u).getLastD u) := by
        rw [List.getLastD_eq_getLast?, List.getLast?_eq_getElem?]
        rw [List.getElem?_eq_getElem (by omega)]; rfl
      have lmem : (wds u).getLastD u ∈ wds u := List.mem_of_getElem? last
      refine ⟨_, rfl, p, _, rfl, .inl (SqL.of hp4), rfl, _, rfl, ?_⟩
      rw [List.length_map]
      have hs4 : SameX W0 H2 H4 := s3.trans (SameX.of s4)
      have hW4 := s4 _ _ hW3
      have hzz : (pfold n ((trms t).take i)).1.length < 1000 := by
        have h1 := (pfold_ok (n := n) (by omega) ((trms t).take i)).len
        rw [List.length_take] at h1
        omega
      have two : ∀ H5, Same H4 H5 → ¬ ((wds u).length = 1 ∧ isNm u = false) → tElse K { nx := fun σ H3 => ∃ v5 v6 : Option V, σ = [some (.ref T.S), some (.int (n : Int)), some (.str t), some (.ref W0), some (.int (pfold n ((trms t).take (i + 1))).2), v5, v6, none] ∧ SameX W0 H2 H3 ∧ H3 W0 = some (.dK (dk (pfold n ((trms t).take (i + 1))).1)), rt := Q }
          [some (.ref T.S), some (.int (n : Int)), some (.str t), some (.ref W0), some (.int (pfold n ((trms t).take i)).2), some (.str u), some (.ref p), none] H5 := by
        intro H5 s5 hnot
        refine else_ok (by omega) (s5 _ _ hW4) hzz (s5 _ _ hp4) hpar hnot fun H6 s6 h6 => ?_
        refine ⟨some (.str u), some (.ref p), ?_, (hs4.trans (SameX.of s5)).trans s6, ?_⟩
        · rw [hps, pstep_snd hnot]
        · rw [hps]; exact h6
      by_cases e1 : (wds u).length = 1
      · rw [decide_eq_true (show V.int ((wds u).length : Nat) = V.int 1 by rw [e1]; rfl)]
        refine iteT ?_
        refine ⟨_, rfl, u, rfl, by show u.length ≤ 1000; omega, fun H5 s5 => ⟨_, rfl, ?_⟩⟩
        cases hi : isNm u with
        | true =>
          refine iteF ?_
          exact two H5 s5 (fun z => by rw [hi] at z; cases z.2)
        | false =>
          refine iteT ?_
          refine ⟨_, rfl, _, rfl, u, n, rfl, by omega, fun H6 s6 => ⟨0, _, rfl, ?_⟩⟩
          have e2 : pstep n (pfold n ((trms t).take i)) u = ((pfold n ((trms t).take i)).1, nv n u) := by unfold pstep; rw [if_pos ⟨e1, hi⟩]
          rw [e2] at hps
          refine ⟨some (.str u), some (.ref p), ?_, hs4.trans (SameX.of (s5.trans s6)), ?_⟩
          · rw [noV_max, hps]; rfl
          · rw [hps]; exact s6 _ _ (s5 _ _ hW4)
      · rw [decide_eq_false (show ¬ V.int ((wds u).length : Nat) = V.int 1 from fun z => e1 (by have := V.int.inj z; omega))]
        refine iteF ?_
        exact two H4 (Same.refl _) fun z => e1 z.1
    · rintro σ H3 ⟨v5, v6, rfl, s3, hW3⟩
      rw [List.length_map, List.take_length] at hW3 ⊢
      have ok := pfold_ok (n := n) (by omega) (trms t)
      have hlen := ok.len
      refine ⟨_, rfl, rfl, ?_⟩
      refine ⟨_, rfl, _, rfl, _, rfl, ?_⟩
      intro x dx nx ndx nex
      have hdct : Dct 0 (n : Int) ((pfold n (trms t)).1.map (·.1)) (pfold n (trms t)).1 := ⟨ok.nd, fun p hp => ⟨List.mem_map_of_mem hp, (ok.gd p hp).2⟩⟩
      have hnms : Nms ((pfold n (trms t)).1.map (·.1)) := ⟨by rw [List.length_map]; omega, fun m hm => by
        obtain ⟨p, hp, rfl⟩ := List.mem_map.mp hm
        exact (ok.gd p hp).1⟩
      refine ⟨x, dx, W0, n, _, _, _, rfl, upd_same, ?_, hdct, hnms, hq, ok.c0, ok.c1, fun us ed H4 _ c4 w4 sx4 sd4 kp4 => ⟨rfl, ?_⟩⟩
      · rw [upd_ne (ne_of_none hW3 nx), upd_ne (ne_of_none hW3 ndx)]; exact hW3
      · have s4 : Same H3 H4 := Same.made nx ndx kp4
        have fx : H x = none := by
          have f2 : H2 x = none := s3.free hW3 nx
          exact s1.free (s2.free f2)
        have sH : Same H H4 := fun b o hb => by
          have nb : b ≠ W0 := ne_of_none hb hW0
          exact s4 _ _ (s3 _ _ nb (s2 _ _ (s1 _ _ hb)))
        have hsum : SumAt T.S H4 x (n : Int) _ us (pfold n (trms t)).2 := ⟨_, ed, sx4, sd4, c4, ok.c0, ok.c1⟩
        refine ⟨_, rfl, x, dx, _, rfl, sx4, x, n, _, us, _, rfl, hsum, hnms, by omega, fun H5 s5 => ⟨⟨_, rfl⟩, ?_⟩⟩
        refine ⟨_, rfl, rfl, _, rfl, ?_⟩
        by_cases et : txt us (pfold n (trms t)).2 = t
        · refine iteNS (by rw [et]) ?_
          exact ⟨_, rfl, kQ x _ us _ H5 (sH.trans s5) fx (hsum.same s5) hnms et.symm⟩
        · have e1 : (!decide (V.str (txt us (pfold n (trms t)).2) = V.str t)) = true := by
            rw [decide_eq_false (fun z => et (V.str.inj z))]; rfl
          rw [e1]
          refine iteT ?_
          refine raise1 fun d H6 s6 hd h6 => kE (fun ws c hr0 e0 => et ?_) d H6 ((sH.trans s5).trans s6) ((sH.trans s5).free hd) h6
          have e2 := congrArg trms e0
          rw [trms_txt hr0] at e2
          have e3 := pfold_tms hr0
          rw [← e2] at e3
          have hc2 : Canon (n : Int) (ws.map (·.1)) ws := ⟨hr0.srt, hr0.nd, fun p hp => ⟨List.mem_map_of_mem hp, (hr0.gd p hp).lo, (hr0.gd p hp).hi⟩⟩
          have e4 : us = ws := c4.uniq hc2 fun m => by rw [w4, e3]
          rw [e4, e3, e0]
end
end Q
set_option Elab.async false
set_option maxRecDepth 100000
set_option maxHeartbeats 4000000
namespace Q
open PySem L2 QR QM TL
def RngAt (H : Hp) (r : Addr) : Prop := ∃ x y : Int, H r = some (.lst [.int x, .int y]) ∧ 0 ≤ x ∧ 0 ≤ y ∧ y < 2147483549
theorem RngAt.same {H H' : Hp} {r : Addr} (h : RngAt H r) (s : Same H H') : RngAt H' r := by
  obtain ⟨x, y, h1, h2⟩ := h
  exact ⟨x, y, s _ _ h1, h2⟩
/-- names of the law -/
structure T4 (K : PySem.W.Frag) (mg : Str → Option Value) extends T3 K mg where
  rng : FT K "_law_rng" "_law_rng" sLRng ["_law_script", "_law_k"]
  gRng : mg "_law_rng" = some (.ref rng.f)
  draw : FT K "_law_draw" "_law_draw" sLDraw ["_law_rng_here", "_law_many"]
  gDraw : mg "_law_draw" = some (.ref draw.f)
  choice : FT K "_law_choice" "_law_choice" sLChoice ["_law_rng_here", "_law_some"]
  gChoice : mg "_law_choice" = some (.ref choice.f)
  name : FT K "_law_name" "_law_name" sLName ["_law_rng_here"]
  gName : mg "_law_name" = some (.ref name.f)
  terms : FT K "_law_terms" "_law_terms" sLTerms ["_law_weights", "_law_constant"]
  gTerms : mg "_law_terms" = some (.ref terms.f)
  lisName : FT K "_law_is_name" "_law_is_name" sLIsName ["_law_text"]
  gLisName : mg "_law_is_name" = some (.ref lisName.f)
  read : FT K "_law_read" "_law_read" sLRead ["_law_text", "_law_q"]
  gRead : mg "_law_read" = some (.ref read.f)
  spoilt : FT K "_law_spoilt" "_law_spoilt" sLSpoilt ["_law_rng_here", "_law_terms_here", "_law_q"]
  gSpoilt : mg "_law_spoilt" = some (.ref spoilt.f)
  told : FT K "_law_told" "_law_told" sLTold ["_law_q", "_law_value"]
  gTold : mg "_law_told" = some (.ref told.f)
  right : FT K "_law_right" "_law_right" sLRight ["_law_rng_here"]
  gRight : mg "_law_right" = some (.ref right.f)
section
variable {P : Program} {w : World} {K : PySem.W.Frag} {mg : Str → Option Value} {base : Heap}
/-! ### _law_rng -/
def spRng (K : PySem.W.Frag) : Sp := fun xs H Q _ => ∃ (a : Addr) (ns : List Int) (k : Int), xs = [.ref a, .int k] ∧ SqL K H a (ns.map V.int) ∧ 0 ≤ k ∧ k < 10 ∧ ∀ r H', H r = none → Same H H' → RngAt H' r → Q (.ref r) H'
theorem scRng : FnScope ["_law_script", "_law_k", "_law_cell"] ["_law_script", "_law_k"] (defScope sLRng) := ⟨rfl, rfl, rfl, by decide +kernel, rfl, by decide +kernel, by decide +kernel⟩
theorem abs_nn (i : Int) : 0 ≤ (if i < 0 then -i else i) := by split <;> omega
theorem ok_rng (T : T4 K mg) : FnOk P w K mg base CX0 1 T.rng.f T.rng.fd ["_law_script", "_law_k"] (spRng K) := by
  refine T.rng.F.ok scRng (fun vs H Q E h => ?_) (fun cdv A outer s H vs Q E hr h => ?_)
  · obtain ⟨a, ns, k, rfl, _⟩ := h
    rfl
  · obtain ⟨a, ns, k, rfl, hS, hk0, hk1, kk⟩ := h
    refine ⟨_, pss_cons (ps_set (i := 2) scRng.nd rfl (Or.inl rfl) (pe_op op_add (pe_op op_mul pe_int (pv 1)) pe_int))
      (pss_cons (ps_if (pt_cmpR op_lt (pv 1) (pe_callB call_len_seq (by rfl) T.B.len PySem.boot_len (pa_cons (pv 0) pa_nil)) (nomark _))
        (pss_one (ps_set (i := 2) scRng.nd rfl (Or.inl rfl) (pe_ix ix_list (pv 0) (pv 1) (fun _ _ => rfl)))) pss_nil)
      (pss_one (ps_ret (pe_lst (pa_cons (pe_callB (call_max2 rfl) (by rfl) T.B.max (by decide +kernel) (pa_cons pe_int (pa_cons (pe_op op_sub (pe_callB call_abs (by rfl) T.B.abs (by decide +kernel) (pa_cons (pv 2) pa_nil)) (pe_op op_pow pe_int pe_int)) pa_nil)))
        (pa_cons (pe_op op_add (pe_op op_mod (pe_op op_mul (pe_callTy call_int1 (by rfl) T.B.int (by decide +kernel) (pa_cons (pe_op op_add (pe_op op_mod (pe_callTy call_int1 (by rfl) T.B.int (by decide +kernel) (pa_cons (pe_callB call_abs (by rfl) T.B.abs (by decide +kernel) (pa_cons (pv 2) pa_nil)) pa_nil)) pe_int) pe_int) pa_nil))
          (pe_op op_pow (pe_op op_add (pe_op op_mul pe_int (pv 1)) pe_int) pe_int)) pe_int) pe_int) pa_nil)))))), ?_⟩
    have rest : ∀ v : Int, (tRet (tLst (tCons (tCB (fun xs H Q => ∃ i j, xs = [.int i, .int j] ∧ Q (.int (if j > i then j else i)) H) (tCons (tC (.int 0)) (tCons (tOp (rI0 fun i j => .int (i - j)) (tCB (fun xs H Q => ∃ i, xs = [.int i] ∧ Q (.int (if i < 0 then -i else i)) H) (tCons (tVar 2) tNil)) (tOp (rI CPow fun i j => .int (i ^ j.toNat)) (tC (.int 10)) (tC (.int 18)))) tNil)))
        (tCons (tOp (rI0 fun i j => .int (i + j)) (tOp rMod (tOp rMul (tCB (fun xs H Q => (∃ i, xs = [.int i] ∧ Q (.int i) H) ∨ ∃ k, xs = [.bl k] ∧ Q (.int (if k then 1 else 0)) H) (tCons (tOp (rI0 fun i j => .int (i + j)) (tOp rMod (tCB (fun xs H Q => (∃ i, xs = [.int i] ∧ Q (.int i) H) ∨ ∃ k, xs = [.bl k] ∧ Q (.int (if k then 1 else 0)) H) (tCons (tCB (fun xs H Q => ∃ i, xs = [.int i] ∧ Q (.int (if i < 0 then -i else i)) H) (tCons (tVar 2) tNil)) tNil)) (tC (.int 2147483543))) (tC (.int 1))) tNil))
          (tOp (rI CPow fun i j => .int (i ^ j.toNat)) (tOp (rI0 fun i j => .int (i + j)) (tOp rMul (tC (.int 2)) (tVar 1)) (tC (.int 5))) (tC (.int 3)))) (tC (.int 2147483497))) (tC (.int 1))) tNil)))) { nx := fun _ H' => Q .non H', rt := Q } [some (.ref a), some (.int k), some (.int v)] H := by
      intro v
      refine ⟨_, rfl, _, rfl, _, _, rfl, rfl, ⟨by decide, by decide, by decide⟩, _, _, rfl, rfl, _, _, rfl, ?_⟩
      refine ⟨_, rfl, _, rfl, .inl ⟨_, rfl, _, _, rfl, rfl, (by show (0 : Int) < 2147483543; decide), _, _, rfl, rfl, .inl ⟨_, rfl, ?_⟩⟩⟩
      refine ⟨_, rfl, _, _, rfl, rfl, .inl ⟨by decide, by decide⟩, _, _, rfl, rfl, _, _, rfl, rfl, ⟨by decide, by decide, by omega⟩, _, _, rfl, rfl, .inl ⟨?_, ?_⟩, _, _, rfl, rfl, (by show (0 : Int) < 2147483497; decide), _, _, rfl, rfl, by show 2 ≤ sizeLine; decide, fun r hr0 => ?_⟩
      · have := Int.emod_nonneg (if v < 0 then -v else v) (show (2147483543 : Int) ≠ 0 by decide)
        omega
      · have := Int.emod_lt_of_pos (if v < 0 then -v else v) (show (0 : Int) < 2147483543 by decide)
        omega
      · refine kk r _ hr0 (Same.new hr0) ⟨_, _, upd_same, by split <;> omega, ?_, ?_⟩
        · have := Int.emod_nonneg (((if v < 0 then -v else v) % 2147483543 + 1) * (2 * k + 5) ^ (3 : Int).toNat) (show (2147483497 : Int) ≠ 0 by decide)
          omega
        · have := Int.emod_lt_of_pos (((if v < 0 then -v else v) % 2147483543 + 1) * (2 * k + 5) ^ (3 : Int).toNat) (show (0 : Int) < 2147483497 by decide)
          omega
    refine ⟨_, rfl, _, _, rfl, rfl, .inl ⟨by decide, by decide⟩, _, _, rfl, rfl, ?_⟩
    refine ⟨_, rfl, _, rfl, a, _, rfl, .inl hS, _, _, rfl, rfl, _, rfl, ?_⟩
    rw [List.length_map]
    refine ite2 (fun hlt => ?_) (fun _ => rest _)
    have hlt' : k < (ns.length : Int) := of_decide_eq_true hlt
    have hkn : k.toNat < ns.length := by omega
    refine ⟨_, rfl, _, rfl, a, _, k, .int ns[k.toNat], rfl, rfl, hS, ?_, rest _⟩
    exact at_of (j := k.toNat) (by omega) (by rw [List.getElem?_map, List.getElem?_eq_getElem hkn]; rfl)
/-! ### _law_draw -/
def spDraw : Sp := fun xs H Q _ => ∃ (r : Addr) (m : Int), xs = [.ref r, .int m] ∧ RngAt H r ∧ 1 ≤ m ∧ m ≤ 1000000 ∧ ∀ d H', SameX r H H' → RngAt H' r → 0 ≤ d → d < m → Q (.int d) H'
theorem scDraw : FnScope ["_law_rng_here", "_law_many", "_law_digit"] ["_law_rng_here", "_law_many"] (defScope sLDraw) := ⟨rfl, rfl, rfl, by decide +kernel, rfl, by decide +kernel, by decide +kernel⟩
theorem ok_draw (T : T4 K mg) : FnOk P w K mg base CX0 1 T.draw.f T.draw.fd ["_law_rng_here", "_law_many"] spDraw := by
  refine T.draw.F.ok scDraw (fun vs H Q E h => ?_) (fun cdv A outer s H vs Q E hr h => ?_)
  · obtain ⟨r, m, rfl, _⟩ := h
    rfl
  · obtain ⟨r, m, rfl, ⟨x, y, h1, hx, hy, hy2⟩, hm1, hm2, kk⟩ := h
    refine ⟨_, pss_cons (ps_if (pt_cmpR op_gt (pe_ix ix_list (pv 0) pe_int (fun _ _ => rfl)) pe_int (nomark _))
        (pss_cons (ps_asg (pe_callB call_divmod (by rfl) T.B.divmod (by decide +kernel) (pa_cons (pe_ix ix_list (pv 0) pe_int (fun _ _ => rfl)) (pa_cons (pv 1) pa_nil)))
            (pg_tup rfl (pgs_cons (pg_sub (pv 0) pe_int set_list) (pgs_cons (pg_name (i := 2) scDraw.nd rfl (Or.inl rfl)) pgs_nil))))
          (pss_one (ps_ret (pv 2)))) pss_nil)
      (pss_cons (ps_asg (pe_op op_mod (pe_callTy call_int1 (by rfl) T.B.int (by decide +kernel) (pa_cons (pe_op op_add (pe_op op_mul (pe_ix ix_list (pv 0) pe_int (fun _ _ => rfl)) pe_int) pe_int) pa_nil)) pe_int) (pg_sub (pv 0) pe_int set_list))
      (pss_one (ps_ret (pe_op op_mod (pe_op op_fdiv (pe_op op_mod (pe_callTy call_int1 (by rfl) T.B.int (by decide +kernel) (pa_cons (pe_op op_mul (pe_ix ix_list (pv 0) pe_int (fun _ _ => rfl)) (pe_ix ix_list (pv 0) pe_int (fun _ _ => rfl))) pa_nil)) pe_int) pe_int) (pv 1))))), ?_⟩
    refine ⟨_, rfl, r, _, 0, .int x, rfl, rfl, SqL.of h1, rfl, _, _, rfl, rfl, _, rfl, ?_⟩
    refine ite2 (fun hlt => ?_) (fun _ => ?_)
    · have hx0 : 0 < x := of_decide_eq_true hlt
      refine ⟨_, rfl, r, _, 0, .int x, rfl, rfl, SqL.of h1, rfl, _, rfl, x, m, rfl, ⟨by omega, by omega⟩, fun t ht => ?_⟩
      have nrt : r ≠ t := ne_of_none h1 ht
      refine ⟨t, _, rfl, SqT.of upd_same, rfl, _, _, rfl, ?_⟩
      refine ⟨_, rfl, r, _, 0, 0, rfl, rfl, (by rw [upd_ne nrt]; exact h1), rfl, _, _, rfl, rfl, ?_⟩
      refine ⟨_, rfl, ?_⟩
      exact kk _ _ (SameX.own (SameX.new ht)) ⟨_, _, upd_same, Int.ediv_nonneg hx (by omega), hy, hy2⟩ (Int.emod_nonneg _ (by omega)) (Int.emod_lt_of_pos _ (by omega))
    · refine ⟨_, rfl, r, _, 1, .int y, rfl, rfl, SqL.of h1, rfl, _, _, rfl, rfl, .inl ⟨by omega, by omega⟩, _, _, rfl, rfl, .inl ⟨_, rfl, _, _, rfl, rfl, (by show (0 : Int) < 2147483549; decide), ?_⟩⟩
      refine ⟨_, rfl, r, _, 1, 1, rfl, rfl, h1, rfl, ?_⟩
      have y0 := Int.emod_nonneg (y * 40692 + 27011) (show (2147483549 : Int) ≠ 0 by decide)
      have y1 := Int.emod_lt_of_pos (y * 40692 + 27011) (show (0 : Int) < 2147483549 by decide)
      refine ⟨_, rfl, r, _, 1, .int ((y * 40692 + 27011) % 2147483549), rfl, rfl, SqL.of upd_same, rfl, _, rfl, r, _, 1, .int ((y * 40692 + 27011) % 2147483549), rfl, rfl, SqL.of upd_same, rfl, _, _, rfl, rfl, .inl ⟨by omega, by omega⟩, .inl ⟨_, rfl, _, _, rfl, rfl, (by show (0 : Int) < 2147483477; decide), _, _, rfl, rfl, ⟨by decide, by decide⟩, ?_⟩⟩
      refine ⟨_, rfl, _, _, rfl, rfl, (show (0 : Int) < m by omega), ?_⟩
      exact kk _ _ (SameX.own (SameX.refl r H)) ⟨_, _, upd_same, hx, y0, y1⟩ (Int.emod_nonneg _ (by omega)) (Int.emod_lt_of_pos _ (by omega))
/-! ### _law_choice -/
def spChoice (K : PySem.W.Frag) : Sp := fun vs H Q _ => ∃ (r l : Addr) (xs : List V), vs = [.ref r, .ref l] ∧ RngAt H r ∧ r ≠ l ∧ SqL K H l xs ∧ 1 ≤ xs.length ∧ xs.length ≤ 1000 ∧ ∀ x H', SameX r H H' → RngAt H' r → x ∈ xs → Q x H'
theorem scChoice : FnScope ["_law_rng_here", "_law_some"] ["_law_rng_here", "_law_some"] (defScope sLChoice) := ⟨rfl, rfl, rfl, by decide +kernel, rfl, by decide +kernel, by decide +kernel⟩
theorem SameX.sql {r : Addr} {H H' : Hp} {l : Addr} {xs : List V} (s : SameX r H H') (n : r ≠ l) (h : SqL K H l xs) : SqL K H' l xs := by
  rcases h with (h | ⟨o, h⟩) | h
  · exact .inl (.inl (s _ _ n.symm h))
  · exact .inl (.inr ⟨o, s _ _ n.symm h⟩)
  · exact .inr h
theorem ok_choice (T : T4 K mg) : FnOk P w K mg base CX0 2 T.choice.f T.choice.fd ["_law_rng_here", "_law_some"] (spChoice K) := by
  have GD : FnOk P w K mg base CX0 1 T.draw.f T.draw.fd ["_law_rng_here", "_law_many"] spDraw := ok_draw T
  refine T.choice.F.ok scChoice (fun vs H Q E h => ?_) (fun cdv A outer s H vs Q E hr h => ?_)
  · obtain ⟨r, l, xs, rfl, _⟩ := h
    rfl
  · obtain ⟨r, l, xs, rfl, hR, nrl, hl, h1, h2, k⟩ := h
    refine ⟨_, (pss_one (ps_ret (pe_ix ix_list (pv 1) (pe_call GD hr (by rfl) T.gDraw T.draw.kp T.draw.b .nil pass0 (pa_cons (pv 0) (pa_cons (pe_callB call_len_seq (by rfl) T.B.len PySem.boot_len (pa_cons (pv 1) pa_nil)) pa_nil))) (fun _ _ => rfl)))), ?_⟩
    refine ⟨_, rfl, _, rfl, _, rfl, l, xs, rfl, .inl hl, r, _, rfl, hR, by omega, by omega, fun d H1 s1 R1 d0 d1 => ?_⟩
    have hd : d.toNat < xs.length := by omega
    exact ⟨l, xs, d, xs[d.toNat], rfl, rfl, s1.sql nrl hl, at_of (j := d.toNat) (by omega) (List.getElem?_eq_getElem hd), k _ _ s1 R1 (List.getElem_mem hd)⟩
/-- the same, of a list whose object is known: which value -/
theorem raw_choice (T : T4 K mg) : ItemRun P w K mg base 2 T.choice.f T.choice.fd ["_law_rng_here", "_law_some"] ["_law_rng_here", "_law_some"] 1
    (tCall spDraw [] E0 (tCons (tVar 0) (tCons (tCB (fun xs H Q => ∃ p ys, xs = [.ref p] ∧ (SqL K H p ys ∨ SqT K H p ys) ∧ Q (.int (ys.length : Nat)) H) (tCons (tVar 1) tNil)) tNil))) := by
  have GD : FnOk P w K mg base CX0 1 T.draw.f T.draw.fd ["_law_rng_here", "_law_many"] spDraw := ok_draw T
  refine item_run T.choice.F scChoice rfl rfl (Or.inl rfl) (by decide) (by decide) (fun _ _ => rfl) (fun cdv A outer s H hr => ?_)
  exact pe_call GD hr (by rfl) T.gDraw T.draw.kp T.draw.b .nil pass0 (pa_cons (pv 0) (pa_cons (pe_callB call_len_seq (by rfl) T.B.len PySem.boot_len (pa_cons (pv 1) pa_nil)) pa_nil))
end
end Q
set_option Elab.async false
set_option maxRecDepth 100000
set_option maxHeartbeats 4000000
namespace Q
open PySem L2 QR QM TL
def one (c : Nat) : Str := ⟨#[c]⟩
theorem joinL_nil : ∀ ls : List (List Nat), TL.joinL [] ls = ls.flatten
  | [] => rfl
  | [p] => by simp [TL.joinL]
  | p :: q :: r => by
    show p ++ ([] ++ TL.joinL [] (q :: r)) = _
    rw [joinL_nil (q :: r)]
    simp
theorem flatten_ones : ∀ cs : List Nat, ((cs.map one).map fun x => x.cps.toList).flatten = cs
  | [] => rfl
  | c :: r => by
    rw [List.map_cons, List.map_cons, List.flatten_cons, flatten_ones r]
    rfl
theorem join_codes (cs : List Nat) : (Txt.join ("" : Str) (cs.map one)).cps.toList = cs := by
  rw [TL.join_eq]
  have e := TL.tl_join ("" : Str) (cs.map one)
  have e0 : TL.tl ("" : Str) = [] := by decide +kernel
  rw [e0, joinL_nil] at e
  show TL.tl (Str.join ("" : Str) (cs.map one)) = cs
  rw [e]
  exact flatten_ones cs
theorem sum_ones : ∀ cs : List Nat, (cs.map fun _ => 1).sum = cs.length
  | [] => rfl
  | a :: r => by rw [List.map_cons, List.sum_cons, sum_ones r, List.length_cons]; omega
theorem app_codes (x y : Str) : (x ++ y).cps.toList = x.cps.toList ++ y.cps.toList := by
  show (x.cps ++ y.cps).toList = _
  simp
theorem let_sig : ∀ c ∈ lettersS.cps.toList, c ∈ signsS.cps.toList := by decide +kernel
theorem nm_of {z : Str} {c : Nat} {cs : List Nat} (h : z.cps.toList = c :: cs) (hc : c ∈ lettersS.cps.toList) (hs : ∀ x ∈ cs, x ∈ signsS.cps.toList) (hl : cs.length ≤ 11) : IsNm z := by
  have hz : z.cps.size = cs.length + 1 := by rw [← Array.length_toList, h, List.length_cons]
  refine ⟨by omega, fun d hd => ?_, fun d hd => ?_⟩
  · have : z.cps.toList[0]? = some d := by rw [Array.getElem?_toList]; exact hd
    rw [h] at this
    cases this
    exact hc
  · rw [h] at hd
    rcases List.mem_cons.mp hd with e | e
    · rw [e]; exact let_sig c hc
    · exact hs d e
theorem item_of {z : Str} {i : Int} (h0 : 0 ≤ i) (h1 : i < (z.cps.size : Int)) : ∃ c, z.cps[i.toNat]? = some c ∧ c ∈ z.cps.toList := by
  have h : i.toNat < z.cps.size := by omega
  exact ⟨z.cps[i.toNat], by simp [h], by simp⟩
theorem let_size : lettersS.cps.size = 26 := by decide +kernel
theorem sig_size : signsS.cps.size = 36 := by decide +kernel
section
variable {P : Program} {w : World} {K : PySem.W.Frag} {mg : Str → Option Value} {base : Heap}
/-! ### _law_name -/
def spName : Sp := fun vs H Q _ => ∃ r : Addr, vs = [.ref r] ∧ RngAt H r ∧ ∀ z H', SameX r H H' → RngAt H' r → IsNm z → Q (.str z) H'
abbrev nName : List Str := ["_law_rng_here", "_law_size", "_law_name_here", "_law_turn"]
theorem scName : FnScope nName ["_law_rng_here"] (defScope sLName) := ⟨rfl, rfl, rfl, by decide +kernel, rfl, by decide +kernel, by decide +kernel⟩
theorem ok_name (T : T4 K mg) : FnOk P w K mg base CX0 2 T.name.f T.name.fd ["_law_rng_here"] spName := by
  have GD : FnOk P w K mg base CX0 1 T.draw.f T.draw.fd ["_law_rng_here", "_law_many"] spDraw := ok_draw T
  refine T.name.F.ok scName (fun vs H Q E h => ?_) (fun cdv A outer s H vs Q E hr h => ?_)
  · obtain ⟨r, rfl, _⟩ := h
    rfl
  · obtain ⟨r, rfl, hR, kk⟩ := h
    refine ⟨_, (pss_cons (ps_set (i := 1) scName.nd rfl (Or.inl rfl) (pe_ix ix_list (pe_lst (pa_cons pe_int (pa_cons pe_int (pa_cons pe_int (pa_cons pe_int (pa_cons pe_int pa_nil)))))) (pe_call GD hr (by rfl) T.gDraw T.draw.kp T.draw.b .nil pass0 (pa_cons (pv 0) (pa_cons pe_int pa_nil))) (fun _ _ => rfl))) (pss_cons (ps_set (i := 2) scName.nd rfl (Or.inl rfl) (pe_item_str pe_str (pe_call GD hr (by rfl) T.gDraw T.draw.kp T.draw.b .nil pass0 (pa_cons (pv 0) (pa_cons pe_int pa_nil))) (fun _ _ => rfl))) (pss_one (ps_ret (pe_op op_add_str (pv 2) (pe_join pe_str (pe_lc (own := [("_law_turn", 3)]) (g := (gName 3)) (tt := tYes) rfl scName.nd (pi_range1 (by rfl) T.B.range (pa_cons (pv 1) pa_nil)) (blkOk_by (own := [("_law_turn", 3)]) (N := nName) (sc := defScope sLName) (by decide +kernel)) (fun _ _ _ _ _ => (pg_name (i := 3) scName.nd rfl (Or.inl rfl))) (fun _ _ _ _ _ => pts_nil) (fun _ _ _ _ _ => (pe_item_str pe_str (pe_call GD hr (by rfl) T.gDraw T.draw.kp T.draw.b .nil pass0 (pa_cons (pv 0) (pa_cons pe_int pa_nil))) (fun _ _ => rfl)))))))))), ?_⟩
    have hrr : ∃ o, H r = some o := let ⟨_, _, z, _⟩ := hR; ⟨_, z⟩
    obtain ⟨o2, hr2⟩ := hrr
    refine ⟨by show 5 ≤ sizeLine; decide, fun t ht => ?_⟩
    refine ⟨_, rfl, r, 5, rfl, hR.same (Same.new ht), by omega, by omega, fun d H3 s3 R3 hd0 hd4 => ?_⟩
    have nrt : t ≠ r := fun z => by rw [z, hr2] at ht; cases ht
    have ht3 := s3 t _ nrt upd_same
    obtain ⟨sz, hsz, hsz0, hsz1⟩ : ∃ sz : Int, atI [V.int 0, V.int 0, V.int 1, V.int 2, V.int 11] d = some (.int sz) ∧ 0 ≤ sz ∧ sz ≤ 11 := by
      have : d = 0 ∨ d = 1 ∨ d = 2 ∨ d = 3 ∨ d = 4 := by omega
      rcases this with rfl | rfl | rfl | rfl | rfl
      · exact ⟨0, rfl, by omega, by omega⟩
      · exact ⟨0, rfl, by omega, by omega⟩
      · exact ⟨1, rfl, by omega, by omega⟩
      · exact ⟨2, rfl, by omega, by omega⟩
      · exact ⟨11, rfl, by omega, by omega⟩
    refine ⟨t, _, d, .int sz, rfl, rfl, SqL.of ht3, hsz, ?_⟩
    have s23 : SameX r H H3 := (SameX.new ht).trans s3
    refine ⟨_, rfl, r, 26, rfl, R3, by omega, by omega, fun e H4 s4 R4 he0 he1 => ?_⟩
    obtain ⟨c, hc, hcm⟩ := item_of (z := lettersS) he0 (by rw [let_size]; exact he1)
    refine ⟨lettersS, e, c, rfl, rfl, he0, by omega, by show e < (lettersS.cps.size : Int); rw [let_size]; exact he1, hc, ?_⟩
    have R4r : ∃ o, H4 r = some o := let ⟨_, _, z, _⟩ := R4; ⟨_, z⟩
    obtain ⟨o4, hr4⟩ := R4r
    have s24 := s23.trans s4
    refine ⟨_, rfl, ⟨_, rfl⟩, _, rfl, sz, rfl, by omega, by omega, fun D hD => ?_⟩
    have hDH : H D = none := s24.free hr4 hD
    have nrD : D ≠ r := fun z => by rw [z, hr4] at hD; cases hD
    refine lc_it walk_range (fun j H5 => ∃ cs : List Nat, SameX r H H5 ∧ RngAt H5 r ∧ H5 D = some (.lst ((cs.map one).map V.str)) ∧ cs.length = j ∧ ∀ x ∈ cs, x ∈ signsS.cps.toList)
      ⟨[], SameX.mut s24 hDH, R4.same (Same.new hD), upd_same, rfl, fun x h => by cases h⟩ (fun _ _ _ _ => True.intro) ?_ ?_
    · rintro j z H5 H5' hj ⟨cs, s5, R5, hD5, hcl, hcs⟩ ⟨rfl, rfl⟩
      refine ⟨rfl, ?_⟩
      refine ⟨_, rfl, r, 36, rfl, R5, by omega, by omega, fun f H6 s6 R6 hf0 hf1 => ?_⟩
      obtain ⟨c', hc', hcm'⟩ := item_of (z := signsS) hf0 (by rw [sig_size]; exact hf1)
      refine ⟨signsS, f, c', rfl, rfl, hf0, by omega, by show f < (signsS.cps.size : Int); rw [sig_size]; exact hf1, hc', ?_⟩
      refine ⟨_, s6 D _ nrD hD5, ?_, cs ++ [c'], SameX.mut (s5.trans s6) hDH, ?_, ?_, ?_, ?_⟩
      · rw [List.length_map, List.length_map, hcl]; exact sz_lt (by omega)
      · obtain ⟨x, y, q1, q2⟩ := R6
        exact ⟨x, y, by rw [upd_ne nrD.symm]; exact q1, q2⟩
      · rw [upd_same, List.map_append, List.map_append]; rfl
      · rw [List.length_append, hcl]; rfl
      · intro x hx
        rcases List.mem_append.mp hx with hx | hx
        · exact hcs x hx
        · rw [List.mem_singleton.mp hx]; exact hcm'
    · rintro H5 ⟨cs, s5, R5, hD5, hcl, hcs⟩
      have hcl' : cs.length ≤ 11 := by omega
      refine ⟨_, D, cs.map one, rfl, rfl, .inl (SqL.of hD5), ?_, ?_⟩
      · have e1 : (cs.map one).map (·.length) = cs.map fun _ => 1 := by rw [List.map_map]; rfl
        have e2 : (cs.map fun _ => 1).sum = cs.length := sum_ones cs
        have e3 : ("" : Str).length = 0 := by decide +kernel
        rw [e1, e2, e3]; omega
      · have hz : (one c ++ Txt.join ("" : Str) (cs.map one)).cps.toList = c :: cs := by rw [app_codes, join_codes]; rfl
        have hzN : IsNm (one c ++ Txt.join ("" : Str) (cs.map one)) := nm_of hz hcm hcs hcl'
        refine ⟨one c, Txt.join ("" : Str) (cs.map one), rfl, rfl, ?_, kk _ _ s5 R5 hzN⟩
        have e5 : (Txt.join ("" : Str) (cs.map one)).length = cs.length := by
          show (Txt.join ("" : Str) (cs.map one)).cps.size = _
          rw [← Array.length_toList, join_codes]
        rw [e5]
        show 1 + cs.length ≤ sizeLine
        exact sz_le (by omega)
/-! ### _law_is_name -/
theorem inV_signs (c : Nat) (z : Str) : inV (.str ⟨#[c]⟩) (z.cps.toList.map fun d => V.str ⟨#[d]⟩) = decide (c ∈ z.cps.toList) := by
  have := inV_txts ⟨#[c]⟩ (z.cps.toList.map fun d => (⟨#[d]⟩ : Str))
  rw [List.map_map] at this
  have e2 : inV (.str ⟨#[c]⟩) (z.cps.toList.map fun d => V.str ⟨#[d]⟩) = decide ((⟨#[c]⟩ : Str) ∈ z.cps.toList.map fun d => (⟨#[d]⟩ : Str)) := this
  rw [e2]
  by_cases h : c ∈ z.cps.toList
  · rw [decide_eq_true h, decide_eq_true (List.mem_map.mpr ⟨c, h, rfl⟩)]
  · rw [decide_eq_false h, decide_eq_false]
    intro q
    obtain ⟨d, hd, e⟩ := List.mem_map.mp q
    have : d = c := by
      have e1 := congrArg (fun s : Str => s.cps.toList) e
      simpa using e1
    exact h (this ▸ hd)
theorem flat_signs (z : Str) : (z.cps.toList.map fun d => V.str ⟨#[d]⟩).all flatV = true := by
  rw [List.all_map]
  exact List.all_eq_true.mpr fun x _ => rfl
abbrev rLstS : List V → Hp → VK → Prop := fun xs H Q => ∃ a : Str, xs = [.str a] ∧ a.cps.size ≤ sizeLine ∧ ∀ p, H p = none → Q (.ref p) (upd H p (.lst (a.cps.toList.map fun c => V.str ⟨#[c]⟩)))
theorem scLIs : FnScope ["_law_text", "_law_sign"] ["_law_text"] (defScope sLIsName) := ⟨rfl, rfl, rfl, by decide +kernel, rfl, by decide +kernel, by decide +kernel⟩
theorem ok_lisName (T : T4 K mg) : FnOk P w K mg base CX0 1 T.lisName.f T.lisName.fd ["_law_text"] spIsName := by
  refine T.lisName.F.ok scLIs (fun vs H Q E h => ?_) (fun cdv A outer s H vs Q E hr h => ?_)
  · obtain ⟨n, rfl, _⟩ := h
    rfl
  · obtain ⟨n, rfl, hn, k⟩ := h
    refine ⟨_, (pss_cons (ps_if (PW.pt (pw_or (pt_cmpR op_lt (pe_callB call_len_str (by rfl) T.B.len PySem.boot_len (pa_cons (pv 0) pa_nil)) pe_int (nomark _)) (pw_or (pt_cmpR op_gt (pe_callB call_len_str (by rfl) T.B.len PySem.boot_len (pa_cons (pv 0) pa_nil)) pe_int (nomark _)) (pw_or1 (pt_cmpR op_notIn_seq (pe_item_str (pv 0) pe_int (fun _ _ => rfl)) (pe_callTy (cr_listS rfl) (by rfl) T.B.list (by decide +kernel) (pa_cons pe_str pa_nil)) (by rfl)))))) (pss_one (ps_ret pe_bl)) pss_nil) (pss_one (ps_ret (pe_callB (cr_all rfl) (by rfl) T.B.all (by decide +kernel) (pa_cons (pe_lc (own := [("_law_sign", 1)]) (g := (gName 1)) (tt := tYes) (te := (tOp (rIn K false) (tVar 1) (tCB rLstS (tCons (tC (.str signsS)) tNil)))) rfl scLIs.nd (pi_str (pv 0)) (blkOk_by (own := [("_law_sign", 1)]) (N := ["_law_text", "_law_sign"]) (sc := defScope sLIsName) (by decide +kernel)) (fun _ _ _ _ _ => (pg_name (i := 1) scLIs.nd rfl (Or.inl rfl))) (fun _ _ _ _ _ => pts_nil) (fun _ _ _ _ _ => (pe_cmpR op_in_seq (pv 1) (pe_callTy (cr_listS rfl) (by rfl) T.B.list (by decide +kernel) (pa_cons pe_str pa_nil)) (by rfl)))) pa_nil))))), ?_⟩
    have no : ¬ IsNm n → Q (.bl false) H := fun z => by
      have := k H (Same.refl H)
      rw [isNm_f z] at this
      exact this
    refine ⟨_, rfl, _, rfl, sz_le (by show n.cps.size ≤ 100000; omega), _, _, rfl, rfl, _, rfl, ?_⟩
    by_cases l1 : (n.length : Int) < 1
    · rw [decide_eq_true l1]
      refine iteT ?_
      exact iteT (no fun z => by have := z.len.1; have e : (n.length : Int) = (n.cps.size : Int) := rfl; omega)
    rw [decide_eq_false l1]
    refine iteF ?_
    refine ⟨_, rfl, _, rfl, sz_le (by show n.cps.size ≤ 100000; omega), _, _, rfl, rfl, _, rfl, ?_⟩
    by_cases l2 : (n.length : Int) > 12
    · rw [decide_eq_true l2]
      refine iteT ?_
      exact iteT (no fun z => by have := z.len.2; have e : (n.length : Int) = (n.cps.size : Int) := rfl; omega)
    rw [decide_eq_false l2]
    refine iteF ?_
    have e0 : (n.length : Int) = (n.cps.size : Int) := rfl
    have m1 : 1 ≤ n.cps.size := by omega
    have m2 : n.cps.size ≤ 12 := by omega
    obtain ⟨c0, hc0⟩ : ∃ c, n.cps[0]? = some c := ⟨n.cps[0], by simp⟩
    refine ⟨_, rfl, n, 0, c0, rfl, rfl, by decide, by decide, by show (0 : Int) < (n.cps.size : Int); omega, hc0, ?_⟩
    refine ⟨lettersS, rfl, by decide +kernel, fun p hp => ?_⟩
    refine ⟨p, _, rfl, .inl (SqL.of upd_same), rfl, flat_signs lettersS, _, rfl, ?_⟩
    rw [if_pos rfl, inV_signs]
    have sp : Same H (upd H p (.lst (lettersS.cps.toList.map fun c => V.str ⟨#[c]⟩))) := Same.new hp
    by_cases l3 : c0 ∈ lettersS.cps.toList
    rotate_left
    · rw [decide_eq_false l3]
      refine iteT ?_
      have := k _ sp
      rw [isNm_f (fun z => l3 (z.hd c0 hc0))] at this
      exact this
    rw [decide_eq_true l3]
    refine iteF ?_
    generalize upd H p (.lst (lettersS.cps.toList.map fun c => V.str ⟨#[c]⟩)) = H1 at sp
    refine ⟨_, rfl, n, rfl, fun D hD => lc_map walk_str (n.cps.toList.map fun c => V.bl (decide (c ∈ signsS.cps.toList))) (by rw [List.length_map]; exact Array.length_toList) (fun _ _ => True.intro) hD (by omega) (fun i x H2 H' hi s1 y P1 kp => ?_) fun H2 s1 hD1 => ?_⟩
    · obtain ⟨rfl, c, hc, rfl⟩ := y
      refine ⟨rfl, ?_⟩
      refine ⟨_, rfl, signsS, rfl, by decide +kernel, fun p2 hp2 => ?_⟩
      refine ⟨p2, _, rfl, .inl (SqL.of upd_same), rfl, flat_signs signsS, ?_⟩
      rw [if_neg (by decide), inV_signs]
      exact kp _ _ (by rw [List.getElem?_map, Array.getElem?_toList, hc]; rfl) (Same.new hp2)
    · refine ⟨D, n.cps.toList.map fun c => decide (c ∈ signsS.cps.toList), rfl, SqL.of (by rw [hD1, List.map_map]; rfl), ?_⟩
      show Q (.bl ((n.cps.toList.map fun c => decide (c ∈ signsS.cps.toList)).all id)) H2
      rw [all_map]
      have e : isNm n = decide (∀ c ∈ n.cps.toList, c ∈ signsS.cps.toList) := by
        by_cases l4 : ∀ c ∈ n.cps.toList, c ∈ signsS.cps.toList
        · rw [decide_eq_true l4]
          exact isNm_t ⟨⟨m1, m2⟩, fun c hc => by rw [hc0] at hc; cases hc; exact l3, l4⟩
        · rw [decide_eq_false l4]
          exact isNm_f fun z => l4 z.all
      rw [← e]
      exact k _ (sp.trans s1)
/-! ### _law_terms -/
def spTerms : Sp := fun vs H Q _ => ∃ (d : Addr) (c : Int) (n : Nat) (N : List Str) (R : Ws), vs = [.ref d, .int c] ∧ H d = some (.dK (dk R)) ∧ Dct 1 (n : Int) N R ∧ Nms N ∧ n ≤ 13 ∧ 0 ≤ c ∧ c < n ∧
  ∀ (l : Addr) (ws : Ws) (H' : Hp), H l = none → Same H H' → Canon (n : Int) N ws → (∀ m, wt ws m = wt R m) → H' l = some (.lst ((tms ws c).map V.str)) → Q (.ref l) H'
theorem scTerms : FnScope ["_law_weights", "_law_constant", "_law_terms_here", "_law_name_here"] ["_law_weights", "_law_constant"] (defScope sLTerms) := ⟨rfl, rfl, rfl, by decide +kernel, rfl, by decide +kernel, by decide +kernel⟩
theorem ok_terms (T : T4 K mg) : FnOk P w K mg base CX0 1 T.terms.f T.terms.fd ["_law_weights", "_law_constant"] spTerms := by
  refine T.terms.F.ok scTerms (fun vs H Q E h => ?_) (fun cdv A outer s H vs Q E hr h => ?_)
  · obtain ⟨d, c, n, N, R, rfl, _⟩ := h
    rfl
  · obtain ⟨d, c, n, N, R, rfl, hd, hR, hN, hn, c0, c1, kk⟩ := h
    have hu := hu_of hr
    refine ⟨_, (pss_cons (ps_set (i := 2) scTerms.nd rfl (Or.inl rfl) (pe_lst pa_nil)) (pss_cons (ps_for PassesOwn.never rfl (pi_list (pe_callB (call_sortedD rfl) (by rfl) T.B.sorted (by decide +kernel) (pa_cons (pv 0) pa_nil))) (pg_name (i := 3) scTerms.nd rfl (Or.inl rfl)) (pss_one (ps_expr (pe_bm PySem.F.plainAttrs_list PySem.F.slot_list_append PySem.F.type_list_append mt_append (pv 2) (pa_cons (pe_ifExp (pt_cmpR op_eq (pe_dget hu (pv 0) (pv 3) (fun _ _ => rfl)) pe_int (nomark _)) (pv 3) (pe_op op_add_str (pe_op op_add_str (pe_callTy call_str_int (by rfl) T.B.str (by decide +kernel) (pa_cons (pe_dget hu (pv 0) (pv 3) (fun _ _ => rfl)) pa_nil)) pe_str) (pv 3))) pa_nil))))) (pss_cons (ps_if (PW.pt (pw_or (pt_cmpR op_ne (pv 1) pe_int (nomark _)) (pw_or1 (pt_cmpR (op_eqD hr.units) (pv 2) (pe_lst pa_nil) (nomark _))))) (pss_one (ps_expr (pe_bm PySem.F.plainAttrs_list PySem.F.slot_list_append PySem.F.type_list_append mt_append (pv 2) (pa_cons (pe_callTy call_str_int (by rfl) T.B.str (by decide +kernel) (pa_cons (pv 1) pa_nil)) pa_nil)))) pss_nil) (pss_one (ps_ret (pv 2)))))), ?_⟩
    refine ⟨Nat.zero_le _, fun l hl => ?_⟩
    have hlen := hR.len
    have hlen2 := hN.len
    have s1 : Same H (upd H l (.lst [])) := Same.new hl
    generalize hH1 : upd H l (.lst []) = H1 at s1
    have hl1 : H1 l = some (.lst []) := by rw [← hH1]; exact upd_same
    refine ⟨_, rfl, d, dk R, R.map (·.1), rfl, .inl (s1 _ _ hd), dk_keys R, by rw [List.length_map]; omega, fun ys p hp hs hpn => ?_⟩
    have hle := sorted_le hs
    have hyl : ys.length = R.length := by rw [hp.length_eq, List.length_map]
    obtain ⟨hcan, hwt⟩ := mkW_canon hR.weak hp hle
    have s2 : Same H1 (upd H1 p (.lst (ys.map V.str))) := Same.new hpn
    generalize hH2 : upd H1 p (.lst (ys.map V.str)) = H2 at s2
    have hp2 : H2 p = some (.lst (ys.map V.str)) := by rw [← hH2]; exact upd_same
    have npl : p ≠ l := fun z => by rw [z, hl1] at hpn; cases hpn
    have ndl : d ≠ l := ne_of_none hd hl
    have hd2 := s2 _ _ (s1 _ _ hd)
    have hrep : Rep n (mkW R ys) c := ⟨fun q hq => ⟨hN.nm _ (hcan.d.mem q hq).1, (hcan.d.mem q hq).2.1, (hcan.d.mem q hq).2.2⟩, hcan.srt, c0, c1⟩
    have hws : (mkW R ys).length ≤ ys.length := mkW_len R ys
    have fl0 : ∀ H3, SameX l H2 H3 → Same H H3 := fun H3 s3 b o hb => s3 _ _ (ne_of_none hb hl) (s2 _ _ (s1 _ _ hb))
    refine ⟨p, rfl, ⟨_, SqL.of hp2⟩, for_it (walk_list (xs := ys.map V.str)) (fun i σ H3 => ∃ v3 : Option V, σ = [some (.ref d), some (.int c), some (.ref l), v3] ∧ SameX l H2 H3 ∧ H3 l = some (.lst (((mkW R (ys.take i)).map tt).map V.str)))
      ⟨none, rfl, SameX.refl _ _, s2 _ _ hl1⟩ (fun i σ H3 _ z => ?_) ?_ ?_⟩
    · obtain ⟨_, _, s3, _⟩ := z
      exact SqL.of (s3 _ _ npl hp2)
    · rintro i x σ H3 H3' hi ⟨v3, rfl, s3, hl3⟩ ⟨rfl, hx⟩
      rw [List.length_map] at hi
      have hyi : ys[i]? = some ys[i] := List.getElem?_eq_getElem hi
      rw [List.getElem?_map, hyi] at hx
      cases hx
      have hmem : ys[i] ∈ R.map (·.1) := hp.mem_iff.mp (List.getElem_mem hi)
      have hw0 : wt R ys[i] ≠ 0 := by
        obtain ⟨q, hq, e⟩ := List.mem_map.mp hmem
        rw [← e, mem_wt hR.nd hq]
        have := (hR.mem q hq).2.1
        omega
      have etk : ys.take (i + 1) = ys.take i ++ [ys[i]] := by rw [List.take_add_one, hyi]; rfl
      have emk : mkW R (ys.take (i + 1)) = mkW R (ys.take i) ++ [(ys[i], wt R ys[i])] := by rw [etk, mkW_snoc, if_pos hw0]
      have hwr := hR.wt0 (by omega) (by omega) ys[i]
      have hnm : IsNm ys[i] := by
        obtain ⟨q, hq, e⟩ := List.mem_map.mp hmem
        rw [← e]; exact hN.nm _ (hR.mem q hq).1
      have hg : DGet H3' d (.str ys[i]) (some (.int (wt R ys[i]))) := by
        have := DGet.k (k := (Sum.inr ys[i] : Key)) (s3 _ _ ndl hd2)
        rw [valV_of_mem hmem] at this
        exact this
      have hz : (((mkW R (ys.take i)).map tt).map V.str).length < sizeLine := by
        have := mkW_len R (ys.take i)
        rw [List.length_take] at this
        rw [List.length_map, List.length_map]; exact sz_lt (by omega)
      have fin : ∀ t : Str, t = tt (ys[i], wt R ys[i]) → ∃ v3 : Option V, ([some (.ref d), some (.int c), some (.ref l), v3].set 3 (some (.str ys[i])) : List (Option V)) = [some (.ref d), some (.int c), some (.ref l), v3] ∧ SameX l H2 (upd H3' l (.lst (((mkW R (ys.take i)).map tt).map V.str ++ [.str t]))) ∧ upd H3' l (.lst (((mkW R (ys.take i)).map tt).map V.str ++ [.str t])) l = some (.lst (((mkW R (ys.take (i + 1))).map tt).map V.str)) := by
        intro t ht
        refine ⟨some (.str ys[i]), rfl, SameX.own s3, ?_⟩
        rw [upd_same, emk, List.map_append, List.map_append, ht]; rfl
      refine ⟨_, rfl, .inl ⟨rfl, _, SqL.of hl3⟩, _, rfl, _, rfl, d, _, rfl, hg, rfl, _, rfl, ?_⟩
      by_cases e1 : wt R ys[i] = 1
      · rw [decide_eq_true (show V.int (wt R ys[i]) = V.int 1 by rw [e1])]
        refine iteT ?_
        refine ⟨_, rfl, l, _, _, rfl, rfl, hl3, hz, ?_⟩
        have et : ys[i] = tt (ys[i], wt R ys[i]) := by unfold tt; rw [if_pos e1]
        obtain ⟨_, h1, h2, h3⟩ := fin _ et
        exact ⟨_, rfl, h2, h3⟩
      · rw [decide_eq_false (show ¬ V.int (wt R ys[i]) = V.int 1 from fun z => e1 (V.int.inj z))]
        refine iteF ?_
        have b1 := numS_len (k := wt R ys[i]) hwr.1 (by omega)
        have b2 := hnm.len.2
        have b3 : (numS (wt R ys[i]) ++ spS).length = (numS (wt R ys[i])).length + 1 := by rw [len_tl, tl_append, List.length_append, ← len_tl, tl_sp]; rfl
        refine ⟨_, rfl, _, rfl, d, _, rfl, hg, _, rfl, log_small (by omega) (by omega), numS (wt R ys[i]), spS, rfl, rfl, sz_le (by show (numS (wt R ys[i])).length + 1 ≤ 100000; omega), ?_⟩
        refine ⟨_, rfl, numS (wt R ys[i]) ++ spS, ys[i], rfl, rfl, sz_le (by rw [b3]; show (numS (wt R ys[i])).length + 1 + ys[i].cps.size ≤ 100000; omega), l, _, _, rfl, rfl, hl3, hz, ?_⟩
        have et : numS (wt R ys[i]) ++ spS ++ ys[i] = tt (ys[i], wt R ys[i]) := by unfold tt; rw [if_neg e1]
        obtain ⟨_, h1, h2, h3⟩ := fin _ et
        exact ⟨_, rfl, h2, h3⟩
    · rintro σ H3 ⟨v3, rfl, s3, hl3⟩
      rw [List.length_map, List.take_length] at hl3
      have done : ∀ H4, Same H H4 → H4 l = some (.lst ((tms (mkW R ys) c).map V.str)) → tRet (tVar 2) { nx := fun _ H' => Q .non H', rt := Q } [some (.ref d), some (.int c), some (.ref l), v3] H4 := fun H4 s4 h4 => ⟨_, rfl, kk l _ H4 hl s4 hcan hwt h4⟩
      have app : ∀ H4, Same H H4 → H4 l = some (.lst (((mkW R ys).map tt).map V.str)) → c ≠ 0 ∨ mkW R ys = [] →
          tDrop (tBM K "list" rAppend (tVar 2) (tCons (tCB (fun xs H Q => ∃ i, xs = [.int i] ∧ i.natAbs.log2 < 1920 ∧ Q (.str (toString i)) H) (tCons (tVar 1) tNil)) tNil)) { nx := tRet (tVar 2) { nx := fun _ H' => Q .non H', rt := Q }, rt := Q } [some (.ref d), some (.int c), some (.ref l), v3] H4 := by
        intro H4 s4 h4 hor
        refine ⟨_, rfl, .inl ⟨rfl, _, SqL.of h4⟩, _, rfl, c, rfl, log_small (by omega) (by omega), l, _, _, rfl, rfl, h4, ?_, ?_⟩
        · rw [List.length_map, List.length_map]; exact sz_lt (by omega)
        · refine done _ (Same.mut s4 hl) ?_
          rw [upd_same]
          unfold tms
          rw [if_pos hor, List.map_append]; rfl
      refine ⟨_, rfl, rfl, _, rfl, ?_⟩
      by_cases e0 : c = 0
      · rw [e0]
        refine iteF ?_
        refine ⟨_, rfl, by show 0 ≤ sizeLine; decide, fun e1 he1 => ?_⟩
        have s4 : Same H3 (upd H3 e1 (.lst [])) := Same.new he1
        refine eqD_txts (l := (mkW R ys).map tt) (m := []) (SqL.of (s4 _ _ hl3)) (SqL.of upd_same) (fun t ht => ?_) (fun t ht => nomatch ht) ?_
        · obtain ⟨q, hq, rfl⟩ := List.mem_map.mp ht
          exact asc_tt (hrep.gd q hq)
        · refine ⟨_, rfl, ?_⟩
          by_cases ew : mkW R ys = []
          · rw [decide_eq_true (show (mkW R ys).map tt = [] by rw [ew]; rfl)]
            refine iteT ?_
            have := app _ ((fl0 _ s3).trans s4) (s4 _ _ hl3) (.inr ew)
            rw [e0] at this
            exact this
          · rw [decide_eq_false (show ¬ (mkW R ys).map tt = [] from fun z => ew (List.map_eq_nil_iff.mp z))]
            refine iteF ?_
            have := done _ ((fl0 _ s3).trans s4) (by
              rw [s4 _ _ hl3]
              unfold tms
              rw [if_neg (fun z => z.elim (fun z => z e0) fun z => ew z), List.append_nil])
            rw [e0] at this
            exact this
      · have e1 : (!decide (V.int c = V.int 0)) = true := by
          rw [decide_eq_false (fun z => e0 (V.int.inj z))]; rfl
        rw [e1]
        refine iteT ?_
        refine iteT ?_
        exact app _ (fl0 _ s3) hl3 (.inl e0)
end
end Q
set_option Elab.async false
set_option maxRecDepth 100000
set_option maxHeartbeats 4000000
namespace QR
open PySem PySem.Spec PyProof.Rows L2
/-- two dicts of ints and texts: != -/
def rNeDL : R2 := fun x y H Q => ∃ a b ks ls, x = .ref a ∧ y = .ref b ∧ H a = some (.dK ks) ∧ H b = some (.dK ls) ∧ (ks.length = ls.length → ∀ p ∈ ks, valV ls p.1 = some p.2 ∧ flatB p.2 = true) ∧ Q (.bl (!decide (ks.length = ls.length))) H
theorem op_neDL {X : Cx} (hu : X.A.units < cLine) : OpR X (compareOp .NotEq) rNeDL := by
  intro pins s σ H x y v u Q I rx ry h
  obtain ⟨a, b, ks, ls, rfl, rfl, ea, eb, hp, q⟩ := h
  obtain rfl : v = Value.ref a := rx
  obtain rfl : u = Value.ref b := ry
  obtain ⟨_, ya, va, ra, da⟩ := (show ObjOk X.prog X.w H s.heap a (.dK ks) from I.hok a _ ea)
  obtain ⟨_, yb, vb, rb, db⟩ := (show ObjOk X.prog X.w H s.heap b (.dK ls) from I.hok b _ eb)
  have l1 : ks.length = va.length := ra.length
  have l2 : ls.length = vb.length := rb.length
  have e : (!(va.length == vb.length && true)) = (!decide (ks.length = ls.length)) := by
    rw [Bool.and_true, l1, l2]
    by_cases h : va.length = vb.length
    · rw [h]; simp
    · rw [decide_eq_false h]; simpa using h
  exact PySem.W.keq_ne (knd := mixKind X.prog X.w) (r := true) ya yb da db hu (fun hl => hits_all rb ra (hp (by omega))) (fin_bl I q e.symm)
end QR
namespace Q
open PySem L2 QR QM TL
theorem mem_joinL (S : List Nat) {c : Nat} {p : List Nat} (hc : c ∈ p) : ∀ {parts : List (List Nat)}, p ∈ parts → c ∈ joinL S parts
  | [], h => by cases h
  | [q], h => by
    rw [List.mem_singleton.mp h] at hc
    exact hc
  | q :: q2 :: r, h => by
    show c ∈ q ++ (S ++ joinL S (q2 :: r))
    rcases List.mem_cons.mp h with e | e
    · rw [e] at hc; exact List.mem_append_left _ hc
    · exact List.mem_append_right _ (List.mem_append_right _ (mem_joinL S hc e))
theorem asc_trms {t : Str} (h : Asc t) : ∀ p ∈ trms t, Asc p := fun p hp c hc => by
  refine h c ?_
  rw [← trms_back t, tl_join]
  exact mem_joinL _ hc (List.mem_map_of_mem hp)
theorem cut_drop (l : List Str) (d : Nat) (hd : d ≤ l.length) : cutV (l.map V.str) (some (d : Int)) none = (l.drop d).map V.str := by
  unfold cutV
  rw [HT.sIx_nat, HT.sIx_none, List.length_map, Nat.min_eq_left hd, List.map_drop]
  exact List.take_of_length_le (by rw [List.length_drop, List.length_map]; exact Nat.le_refl _)
section
variable {P : Program} {w : World} {K : PySem.W.Frag} {mg : Str → Option Value} {base : Heap}
abbrev tL8 (K : PySem.W.Frag) : TE := tOp (rIxL K) (tVar 8) (tUn (rU fun i => V.int (-i)) (tC (.int 1)))
abbrev tH8 (K : PySem.W.Frag) : TE := tOp (rIxL K) (tVar 8) (tC (.int 0))
abbrev tLen8 (K : PySem.W.Frag) : TE := tCB (fun xs H Q => ∃ p ys, xs = [.ref p] ∧ (SqL K H p ys ∨ SqT K H p ys) ∧ Q (.int (ys.length : Nat)) H) (tCons (tVar 8) tNil)
def tR2 (K : PySem.W.Frag) : TS := tIfS (tOr (tNot (tB (tCall spIsName [] E0 (tCons (tL8 K) tNil)))) (tTest (tOp (rI0 fun i j => .bl (decide (j < i))) (tLen8 K) (tC (.int 2))))) (tRet (tC .non))
  (tIfS (tAnd (tTest (tOp rEq (tLen8 K) (tC (.int 2)))) (tTest (tOp (rIn K true) (tH8 K) (tSl (rSlL K) (tVar 2) (tPart (tC (.int 2))) tNoPart)))) (tRet (tC .non))
  (tIfS (tAnd (tTest (tOp rNeDL (tVar 3) tDNewK)) (tTest (tOp (fun x y H Q => ∃ i j, x = .str i ∧ y = .str j ∧ Q (.bl (!decide (j.cps.toList < i.cps.toList))) H) (tL8 K) (tCB rMaxK (tCons (tVar 3) tNil))))) (tRet (tC .non))
  (sDPut (tVar 3) (tL8 K) (tIf (tTest (tOp rEq (tLen8 K) (tC (.int 1)))) (tC (.int 1)) (tBM K "list" (rIndex K) (tVar 2) (tCons (tH8 K) tNil))))))
theorem lt_tr {a b c : Str} (h1 : ¬ b.cps.toList < a.cps.toList) (h2 : b.cps.toList < c.cps.toList) : stLt a c := by
  unfold stLt
  exact Std.lt_of_le_of_lt (List.not_lt.mp h1) h2
theorem rest_ok {D : Ends} {H8 : Hp} {W0 p Nu : Addr} {ws : Ws} {c : Int} {u : Str} {n : Nat} {last : Bool} {v0 v5 v6 v7 : Option V} (hn2 : 2 ≤ n) (hW : H8 W0 = some (.dK (dk ws))) (hz : ws.length < 1000) (hp : H8 p = some (.lst ((wds u).map V.str))) (hNu : H8 Nu = some (.lst ((nums n).map V.str)))
    (hpar : ∀ z ∈ wds u, z.cps.size ≤ 1000) (hnot : ¬ (u ∈ (nums n).drop 1 ∧ last = true))
    (kN : ∀ H9, Same H8 H9 → rstep n last (ws, c) u = none → D.rt .non H9)
    (kS : ∀ H9 ws', SameX W0 H8 H9 → H9 W0 = some (.dK (dk ws')) → rstep n last (ws, c) u = some (ws', c) → D.nx [v0, some (.int (n : Int)), some (.ref Nu), some (.ref W0), some (.int c), v5, v6, v7, some (.ref p), none] H9) :
    tR2 K D [v0, some (.int (n : Int)), some (.ref Nu), some (.ref W0), some (.int c), v5, v6, v7, some (.ref p), none] H8 := by
  have hw1 := wds_pos u
  have hne : wds u ≠ [] := fun z => by rw [z] at hw1; simp at hw1
  have e2 : (wds u).getLastD u = (wds u).getLast hne := by rw [List.getLastD_eq_getLast?, List.getLast?_eq_some_getLast hne]; rfl
  have lmem : (wds u).getLastD u ∈ wds u := by rw [e2]; exact List.getLast_mem hne
  have head : (wds u)[0]? = some ((wds u).headD u) := by
    cases hw : wds u with
    | nil => exact absurd hw hne
    | cons a r => rfl
  have hat : atI ((wds u).map V.str) (-1) = some (V.str ((wds u).getLastD u)) := by
    have e1 := List.dropLast_concat_getLast hne
    rw [e2]
    conv => lhs; rw [← e1]
    rw [List.map_append]
    exact atI_last _ _
  have tl8 : ∀ {H6 : Hp} {Q : VK}, H6 p = some (.lst ((wds u).map V.str)) → Q (.str ((wds u).getLastD u)) H6 → tL8 K [v0, some (.int (n : Int)), some (.ref Nu), some (.ref W0), some (.int c), v5, v6, v7, some (.ref p), none] H6 Q := by
    intro H6 Q h2 h3
    exact ⟨_, rfl, 1, rfl, p, _, _, _, rfl, rfl, SqL.of h2, hat, h3⟩
  have th8 : ∀ {H6 : Hp} {Q : VK}, H6 p = some (.lst ((wds u).map V.str)) → Q (.str ((wds u).headD u)) H6 → tH8 K [v0, some (.int (n : Int)), some (.ref Nu), some (.ref W0), some (.int c), v5, v6, v7, some (.ref p), none] H6 Q := by
    intro H6 Q h2 h3
    exact ⟨_, rfl, p, _, 0, _, rfl, rfl, SqL.of h2, at_of (j := 0) rfl (by rw [List.getElem?_map, head]; rfl), h3⟩
  refine tl8 hp ?_
  refine ⟨_, rfl, hpar _ lmem, fun H9 s9 => ⟨_, rfl, ?_⟩⟩
  cases hi : isNm ((wds u).getLastD u) with
  | false =>
    refine iteT (iteT ?_)
    refine kN H9 s9 ?_
    unfold rstep
    rw [if_neg hnot, if_pos (.inl hi)]
  | true =>
    refine iteF ?_
    refine ⟨_, rfl, p, _, rfl, .inl (SqL.of (s9 _ _ hp)), _, _, rfl, rfl, _, rfl, ?_⟩
    rw [List.length_map]
    by_cases g2 : 2 < (wds u).length
    · rw [decide_eq_true (show (2 : Int) < ((wds u).length : Nat) by omega)]
      refine iteT ?_
      refine kN H9 s9 ?_
      unfold rstep
      rw [if_neg hnot, if_pos (.inr g2)]
    rw [decide_eq_false (show ¬ (2 : Int) < ((wds u).length : Nat) by omega)]
    refine iteF ?_
    have h1n : ¬ (isNm ((wds u).getLastD u) = false ∨ 2 < (wds u).length) := fun z => z.elim (fun z => by rw [hi] at z; cases z) g2
    -- the put
    have put : ∀ H10, Same H8 H10 → ¬ ((wds u).length = 2 ∧ (wds u).headD u ∉ (nums n).drop 2) → (∀ q ∈ ws, stLt q.1 ((wds u).getLastD u)) →
        sDPut (tVar 3) (tL8 K) (tIf (tTest (tOp rEq (tLen8 K) (tC (.int 1)))) (tC (.int 1)) (tBM K "list" (rIndex K) (tVar 2) (tCons (tH8 K) tNil))) D [v0, some (.int (n : Int)), some (.ref Nu), some (.ref W0), some (.int c), v5, v6, v7, some (.ref p), none] H10 := by
      intro H10 s10 h2n hall
      have hst : rstep n last (ws, c) u = some (putS ws ((wds u).getLastD u) (if (wds u).length = 1 then 1 else nv n ((wds u).headD u)), c) := by
        unfold rstep
        rw [if_neg hnot, if_neg h1n, if_neg h2n, if_neg (fun z => z hall)]
      have fin : ∀ v : Int, v = (if (wds u).length = 1 then 1 else nv n ((wds u).headD u)) → ∃ a H8', V.ref W0 = .ref a ∧ DPut H10 a (.str ((wds u).getLastD u)) (.int v) H8' ∧ D.nx [v0, some (.int (n : Int)), some (.ref Nu), some (.ref W0), some (.int c), v5, v6, v7, some (.ref p), none] H8' := by
        intro v hv
        refine ⟨W0, _, rfl, DPut.k (k := Sum.inr ((wds u).getLastD u)) (s10 _ _ hW) (by rw [dk_len]; exact sz_lt (by omega)), ?_⟩
        refine kS _ _ (SameX.own (SameX.of s10)) ?_ hst
        rw [upd_same, putK_dk, hv]
      refine ⟨_, rfl, p, _, rfl, .inl (SqL.of (s10 _ _ hp)), rfl, _, rfl, ?_⟩
      rw [List.length_map]
      by_cases e1 : (wds u).length = 1
      · rw [decide_eq_true (show V.int ((wds u).length : Nat) = V.int 1 by rw [e1]; rfl)]
        refine iteT ?_
        exact ⟨_, rfl, tl8 (s10 _ _ hp) (fin 1 (by rw [if_pos e1]))⟩
      · rw [decide_eq_false (show ¬ V.int ((wds u).length : Nat) = V.int 1 from fun z => e1 (by have := V.int.inj z; omega))]
        refine iteF ?_
        have hl2 : (wds u).length = 2 := by omega
        have hm : (wds u).headD u ∈ (nums n).drop 2 := Classical.byContradiction fun z => h2n ⟨hl2, z⟩
        obtain ⟨j, j1, j2, ej⟩ := nums_drop.mp hm
        refine ⟨_, rfl, .inl ⟨rfl, _, SqL.of (s10 _ _ hNu)⟩, th8 (s10 _ _ hp) ?_⟩
        refine ⟨Nu, _, _, j, .str (numS (j : Int)), rfl, rfl, SqL.of (s10 _ _ hNu), rfl, flat_txts _, by rw [List.getElem?_map, nums_get j2]; rfl, by rw [ej]; simp [eqV], fun m z hmj hz2 => ?_, ?_⟩
        · rw [List.getElem?_map, nums_get (by omega)] at hz2
          cases hz2
          rw [ej]
          simp only [eqV, beq_eq_false_iff_ne]
          intro e
          have := numS_inj e
          omega
        · exact ⟨_, rfl, tl8 (s10 _ _ hp) (fin _ (by rw [if_neg e1, ej, nv_num j2]))⟩
    -- the order
    have ord : ∀ H10, Same H8 H10 → ¬ ((wds u).length = 2 ∧ (wds u).headD u ∉ (nums n).drop 2) →
        tIfS (tAnd (tTest (tOp rNeDL (tVar 3) tDNewK)) (tTest (tOp (fun x y H Q => ∃ i j, x = .str i ∧ y = .str j ∧ Q (.bl (!decide (j.cps.toList < i.cps.toList))) H) (tL8 K) (tCB rMaxK (tCons (tVar 3) tNil))))) (tRet (tC .non))
          (sDPut (tVar 3) (tL8 K) (tIf (tTest (tOp rEq (tLen8 K) (tC (.int 1)))) (tC (.int 1)) (tBM K "list" (rIndex K) (tVar 2) (tCons (tH8 K) tNil)))) D [v0, some (.int (n : Int)), some (.ref Nu), some (.ref W0), some (.int c), v5, v6, v7, some (.ref p), none] H10 := by
      intro H10 s10 h2n
      refine ⟨_, rfl, fun e3 he3 => ?_⟩
      have s11 : Same H10 (upd H10 e3 (.dK [])) := Same.new he3
      refine ⟨W0, e3, dk ws, [], rfl, rfl, s11 _ _ (s10 _ _ hW), upd_same, fun hl x hx => ?_, _, rfl, ?_⟩
      · have : dk ws = [] := List.eq_nil_of_length_eq_zero hl
        rw [this] at hx; cases hx
      generalize upd H10 e3 (.dK []) = H11 at s11 ⊢
      have s811 := s10.trans s11
      rw [dk_len]
      by_cases ew : ws = []
      · rw [decide_eq_true (show ws.length = ([] : List (Key × V)).length by rw [ew]; rfl)]
        refine iteF ?_
        exact put H11 s811 h2n (fun q hq => by rw [ew] at hq; cases hq)
      · rw [decide_eq_false (show ¬ ws.length = ([] : List (Key × V)).length from fun z => ew (List.eq_nil_of_length_eq_zero z))]
        refine iteT ?_
        refine tl8 (s811 _ _ hp) ?_
        have hpos : 0 < ws.length := List.length_pos_iff.mpr ew
        refine ⟨_, rfl, W0, dk ws, ws.map (·.1), rfl, .inl (s811 _ _ hW), dk_keys ws, by rw [List.length_map]; exact hpos, fun m hm hmax => ⟨_, _, rfl, rfl, _, rfl, ?_⟩⟩
        by_cases hlt : m.cps.toList < ((wds u).getLastD u).cps.toList
        · rw [decide_eq_true hlt]
          refine iteF ?_
          exact put H11 s811 h2n fun q hq => lt_tr (hmax q.1 (List.mem_map_of_mem hq)) hlt
        · rw [decide_eq_false hlt]
          refine iteT ?_
          refine kN H11 s811 ?_
          unfold rstep
          rw [if_neg hnot, if_neg h1n, if_neg h2n, if_pos]
          intro hall
          obtain ⟨q, hq, rfl⟩ := List.mem_map.mp hm
          exact hlt (hall q hq)
    refine ⟨_, rfl, p, _, rfl, .inl (SqL.of (s9 _ _ hp)), rfl, _, rfl, ?_⟩
    rw [List.length_map]
    by_cases e2l : (wds u).length = 2
    · rw [decide_eq_true (show V.int ((wds u).length : Nat) = V.int 2 by rw [e2l]; rfl)]
      refine iteT ?_
      refine th8 (s9 _ _ hp) ?_
      refine ⟨_, rfl, 2, rfl, Nu, _, rfl, SqL.of (s9 _ _ hNu), fun q hq => ?_⟩
      have ec : cutV ((nums n).map V.str) (some 2) none = ((nums n).drop 2).map V.str := cut_drop (nums n) 2 (by rw [nums_len]; omega)
      rw [ec]
      have s10 : Same H9 (upd H9 q (.lst (((nums n).drop 2).map V.str))) := Same.new hq
      refine ⟨q, _, rfl, .inl (SqL.of upd_same), rfl, flat_txts _, _, rfl, ?_⟩
      rw [if_pos rfl, inV_txts]
      generalize upd H9 q (.lst (((nums n).drop 2).map V.str)) = H10 at s10 ⊢
      by_cases hm : (wds u).headD u ∈ (nums n).drop 2
      · rw [decide_eq_true hm]
        refine iteF ?_
        exact ord H10 (s9.trans s10) fun z => z.2 hm
      · rw [decide_eq_false hm]
        refine iteT ?_
        refine kN H10 (s9.trans s10) ?_
        unfold rstep
        rw [if_neg hnot, if_neg h1n, if_pos ⟨e2l, hm⟩]
    · rw [decide_eq_false (show ¬ V.int ((wds u).length : Nat) = V.int 2 from fun z => e2l (by have := V.int.inj z; omega))]
      refine iteF ?_
      exact ord H9 s9 fun z => e2l z.1
def spRead : Sp := fun vs H Q _ => ∃ (t : Str) (n : Nat), vs = [.str t, .int (n : Int)] ∧ 2 ≤ n ∧ n ≤ 13 ∧ t.length ≤ 170 ∧ Asc t ∧ (∀ H', Same H H' → rd n t = none → Q .non H') ∧
  ∀ (p d : Addr) (ws : Ws) (c : Int) (H' : Hp), Same H H' → H p = none → H d = none → rd n t = some (ws, c) → H' p = some (.tup [.ref d, .int c]) → H' d = some (.dK (dk ws)) → Q (.ref p) H'
abbrev nRead : List Str := ["_law_text", "_law_q", "_law_numbers", "_law_weights", "_law_constant", "_law_terms_here", "_law_at", "_law_term", "_law_words", "_law_number"]
theorem scRead : FnScope nRead ["_law_text", "_law_q"] (defScope sLRead) := ⟨rfl, rfl, rfl, by decide +kernel, rfl, by decide +kernel, by decide +kernel⟩
theorem ok_read (T : T4 K mg) : FnOk P w K mg base CX0 2 T.read.f T.read.fd ["_law_text", "_law_q"] spRead := by
  have GLi : FnOk P w K mg base CX0 1 T.lisName.f T.lisName.fd ["_law_text"] spIsName := ok_lisName T
  refine T.read.F.ok scRead (fun vs H Q E h => ?_) (fun cdv A outer s H vs Q E hr h => ?_)
  · obtain ⟨t, n, rfl, _⟩ := h
    rfl
  · obtain ⟨t, n, rfl, hn2, hn, ht, hasc, kN, kS⟩ := h
    have hu := hu_of hr
    refine ⟨_, (pss_cons (ps_par3 (i := 2) (j := 3) (l := 4) (by rfl) scRead.nd rfl rfl rfl (by decide) (by decide) (by decide) rfl rfl rfl (pa_cons (pe_lc (own := [("_law_number", 9)]) (g := gName 9) (tt := tYes) rfl scRead.nd (pi_range1 (by rfl) T.B.range (pa_cons (pv 1) pa_nil)) (blkOk_by (own := [("_law_number", 9)]) (N := nRead) (sc := defScope sLRead) (by decide +kernel)) (fun _ _ _ _ _ => pg_name (i := 9) scRead.nd rfl (Or.inl rfl)) (fun _ _ _ _ _ => pts_nil) (fun _ _ _ _ _ => pe_callTy call_str_int (by rfl) T.B.str (by decide +kernel) (pa_cons (pv 9) pa_nil))) (pa_cons pe_dnewK (pa_cons pe_int pa_nil))) (by rfl)) (pss_cons (ps_set (i := 5) scRead.nd rfl (Or.inl rfl) (pe_split (pv 0) pe_str)) (pss_cons (ps_if (pt_cmpR (op_eqD hr.units) (pv 5) (pe_lst (pa_cons pe_str pa_nil)) (nomark _)) (pss_one (ps_ret (pe_tup (pa_cons pe_dnewK (pa_cons pe_int pa_nil))))) pss_nil) (pss_cons (ps_for PassesOwn.never rfl (pi_enum (by rfl) T.B.enumerate (pa_cons (pv 5) pa_nil)) (pg_tup rfl (pgs_cons (pg_name (i := 6) scRead.nd rfl (Or.inl rfl)) (pgs_cons (pg_name (i := 7) scRead.nd rfl (Or.inl rfl)) pgs_nil))) (pss_cons (ps_set (i := 8) scRead.nd rfl (Or.inl rfl) (pe_split (pv 7) pe_str)) (pss_one (ps_if (PW.pt (pw_and (pt_cmpR op_in_seq (pv 7) (pe_slice sl_list (pv 2) (po_some pe_int) po_none) (by rfl)) (pw_and1 (pt_cmpR op_eq (pv 6) (pe_op op_sub (pe_callB call_len_seq (by rfl) T.B.len PySem.boot_len (pa_cons (pv 5) pa_nil)) pe_int) (nomark _))))) (pss_one (ps_set (i := 4) scRead.nd rfl (Or.inl rfl) (pe_bm PySem.F.plainAttrs_list PySem.F.slot_list_index PySem.F.type_list_index mt_index (pv 2) (pa_cons (pv 7) pa_nil)))) (pss_one (ps_if (PW.pt (pw_or (pt_not (pt_val (pe_call GLi hr (by rfl) T.gLisName T.lisName.kp T.lisName.b .nil pass0 (pa_cons (pe_ix ix_list (pv 8) (pe_un un_neg pe_int) (fun _ _ => rfl)) pa_nil)))) (pw_or1 (pt_cmpR op_gt (pe_callB call_len_seq (by rfl) T.B.len PySem.boot_len (pa_cons (pv 8) pa_nil)) pe_int (nomark _))))) (pss_one (ps_ret pe_non)) (pss_one (ps_if (PW.pt (pw_and (pt_cmpR op_eq (pe_callB call_len_seq (by rfl) T.B.len PySem.boot_len (pa_cons (pv 8) pa_nil)) pe_int (nomark _)) (pw_and1 (pt_cmpR op_notIn_seq (pe_ix ix_list (pv 8) pe_int (fun _ _ => rfl)) (pe_slice sl_list (pv 2) (po_some pe_int) po_none) (by rfl))))) (pss_one (ps_ret pe_non)) (pss_one (ps_if (PW.pt (pw_and (pt_cmpR (op_neDL hr.units0) (pv 3) pe_dnewK (nomark _)) (pw_and1 (pt_cmpR op_le_str (pe_ix ix_list (pv 8) (pe_un un_neg pe_int) (fun _ _ => rfl)) (pe_callB (cr_maxK rfl) (by rfl) T.B.max (by decide +kernel) (pa_cons (pv 3) pa_nil)) (nomark _))))) (pss_one (ps_ret pe_non)) (pss_one (ps_dput hu (pv 3) (pe_ix ix_list (pv 8) (pe_un un_neg pe_int) (fun _ _ => rfl)) (pe_ifExp (pt_cmpR op_eq (pe_callB call_len_seq (by rfl) T.B.len PySem.boot_len (pa_cons (pv 8) pa_nil)) pe_int (nomark _)) pe_int (pe_bm PySem.F.plainAttrs_list PySem.F.slot_list_index PySem.F.type_list_index mt_index (pv 2) (pa_cons (pe_ix ix_list (pv 8) pe_int (fun _ _ => rfl)) pa_nil))) rfl)))))))))))) (pss_one (ps_ret (pe_tup (pa_cons (pv 3) (pa_cons (pv 4) pa_nil))))))))), ?_⟩
    refine ⟨_, rfl, n, rfl, by omega, by omega, fun Nu hNu => ?_⟩
    refine lc_map walk_range ((nums n).map V.str) (by rw [List.length_map, nums_len]; omega) (fun _ _ => True.intro) hNu (by omega) (fun i x H1 H' hi s1 y P1 kp => ?_) fun H1 s1 hNu1 => ?_
    · obtain ⟨rfl, rfl⟩ := y
      refine ⟨rfl, ?_⟩
      refine ⟨_, rfl, _, rfl, log_small (by omega) (by omega), ?_⟩
      refine kp _ _ ?_ (Same.refl _)
      rw [List.getElem?_map, nums_get (show i < n by omega), Int.zero_add]; rfl
    · refine fun W0 hW0 => ⟨_, _, _, rfl, ?_⟩
      have fW : H W0 = none := s1.free hW0
      have s2 : Same H1 (upd H1 W0 (.dK [])) := Same.new hW0
      generalize hH2 : upd H1 W0 (.dK []) = H2 at s2
      have hW2 : H2 W0 = some (.dK (dk [])) := by rw [← hH2]; exact upd_same
      refine ⟨_, rfl, ⟨t, rfl⟩, t, plS, rfl, rfl, by decide +kernel, sz_le (by omega), fun l hl => ?_⟩
      generalize hH3 : upd H2 l (.lst ((Txt.split t plS).map V.str)) = H3
      have s3 : Same H2 H3 := by rw [← hH3]; exact Same.new hl
      have hl3 : H3 l = some (.lst ((trms t).map V.str)) := by rw [← hH3]; exact upd_same
      have hW3 := s3 _ _ hW2
      have hNu3 := s3 _ _ (s2 _ _ hNu1)
      have sH3 : Same H H3 := (s1.trans s2).trans s3
      have nlW : l ≠ W0 := fun z => by rw [z, hW2] at hl; cases hl
      have nNW : Nu ≠ W0 := fun z => by rw [z, hW0] at hNu1; cases hNu1
      refine ⟨_, rfl, by show 1 ≤ sizeLine; decide, fun e1 he1 => ?_⟩
      have s4 : Same H3 (upd H3 e1 (.lst [.str ("0" : Str)])) := Same.new he1
      refine eqD_txts (l := trms t) (m := [numS 0]) (SqL.of (s4 _ _ hl3)) (SqL.of upd_same) (asc_trms hasc) (fun z hz => by rw [List.mem_singleton.mp hz]; exact asc_num (by omega)) ?_
      refine ⟨_, rfl, ?_⟩
      generalize upd H3 e1 (.lst [.str ("0" : Str)]) = H4 at s4 ⊢
      by_cases e0 : trms t = [numS 0]
      · rw [decide_eq_true e0]
        refine iteT ?_
        have hrd : rd n t = some ([], 0) := by unfold rd; rw [if_pos e0]
        refine fun d hd => ⟨by show 2 ≤ sizeLine; decide, fun p hp => ?_⟩
        have s5 : Same H4 (upd H4 d (.dK [])) := Same.new hd
        have s6 : Same (upd H4 d (.dK [])) (upd (upd H4 d (.dK [])) p (.tup [.ref d, .int 0])) := Same.new hp
        exact kS p d [] 0 _ (((sH3.trans s4).trans s5).trans s6) (((sH3.trans s4).trans s5).free hp) ((sH3.trans s4).free hd) hrd upd_same (s6 _ _ upd_same)
      · rw [decide_eq_false e0]
        refine iteF ?_
        have hrd : rd n t = rpre n (trms t) (trms t).length := by unfold rd; rw [if_neg e0]
        have hl4 := s4 _ _ hl3
        have hNu4 := s4 _ _ hNu3
        have hW4 := s4 _ _ hW3
        have sH4 : Same H H4 := sH3.trans s4
        have none_ : ∀ i H5, SameX W0 H4 H5 → H5 W0 ≠ none → i < (trms t).length → rpre n (trms t) (i + 1) = none → Q .non H5 := by
          intro i H5 s5 _ hi h5
          refine kN H5 (fun b o hb => s5 _ _ (ne_of_none hb fW) (sH4 _ _ hb)) ?_
          have := rpre_none h5 ((trms t).length - (i + 1))
          rw [show i + 1 + ((trms t).length - (i + 1)) = (trms t).length by omega] at this
          rw [hrd, this]
        refine ⟨_, rfl, l, _, rfl, SqL.of hl4, for_it (walk_enum (xs := (trms t).map V.str)) (fun i σ H5 => ∃ (ws : Ws) (c : Int) (v6 v7 v8 : Option V), σ = [some (.str t), some (.int (n : Int)), some (.ref Nu), some (.ref W0), some (.int c), some (.ref l), v6, v7, v8, none] ∧ SameX W0 H4 H5 ∧ H5 W0 = some (.dK (dk ws)) ∧ rpre n (trms t) i = some (ws, c))
          ⟨[], 0, none, none, none, rfl, SameX.refl _ _, hW4, rfl⟩ (fun i σ H5 _ z => ?_) ?_ ?_⟩
        · obtain ⟨_, _, _, _, _, _, s5, _⟩ := z
          exact SqL.of (s5 _ _ nlW hl4)
        · rintro i x σ H5 H5' hi ⟨ws, c, v6, v7, v8, rfl, s5, hW5, hpre⟩ ⟨T0, x0, y0, rfl, hT, rfl, e1, e2⟩
          rw [List.length_map] at hi
          have hti : (trms t)[i]? = some (trms t)[i] := List.getElem?_eq_getElem hi
          cases e1
          have e2' : ((trms t).map V.str)[i]? = some y0 := e2
          rw [List.getElem?_map, hti] at e2'
          cases e2'
          have hgd : (trms t).getD i spS = (trms t)[i] := by rw [List.getD_eq_getElem?_getD, hti]; rfl
          have hstep : rpre n (trms t) (i + 1) = rstep n (decide (i + 1 = (trms t).length)) (ws, c) (trms t)[i] := by
            show (rpre n (trms t) i).bind _ = _
            rw [hpre, ← hgd]; rfl
          have hpl : ((trms t)[i]).length ≤ t.length := PyProof.Rows.part_short (x := t) (y := plS) (List.getElem_mem hi)
          have hrep := (rpre_inv hn2 (by omega) hpre).rep
          generalize (trms t)[i] = u at hstep hpl
          have s6 : Same H5 (upd H5 T0 (.tup [.int (i : Nat), .str u])) := Same.new hT
          refine ⟨T0, _, rfl, SqT.of upd_same, rfl, _, _, rfl, _, _, rfl, rfl, ?_⟩
          generalize upd H5 T0 (.tup [.int (i : Nat), .str u]) = H6 at s6
          refine ⟨_, rfl, ⟨u, rfl⟩, u, spS, rfl, rfl, by decide +kernel, sz_le (by omega), fun p hp => ?_⟩
          generalize hH7 : upd H6 p (.lst ((Txt.split u spS).map V.str)) = H7
          have s7 : Same H6 H7 := by rw [← hH7]; exact Same.new hp
          have hp7 : H7 p = some (.lst ((wds u).map V.str)) := by rw [← hH7]; exact upd_same
          have s57 : SameX W0 H4 H7 := s5.trans (SameX.of (s6.trans s7))
          have hW7 := s7 _ _ (s6 _ _ hW5)
          have hNu7 := s57 _ _ nNW hNu4
          have hl7 := s57 _ _ nlW hl4
          -- term in numbers[1:]
          refine ⟨_, rfl, _, rfl, 1, rfl, Nu, _, rfl, SqL.of hNu7, fun q hq => ?_⟩
          have ec : cutV ((nums n).map V.str) (some 1) none = ((nums n).drop 1).map V.str := cut_drop (nums n) 1 (by rw [nums_len]; omega)
          rw [ec]
          have s8 : Same H7 (upd H7 q (.lst (((nums n).drop 1).map V.str))) := Same.new hq
          refine ⟨q, _, rfl, .inl (SqL.of upd_same), rfl, flat_txts _, _, rfl, ?_⟩
          rw [if_neg (by decide), inV_txts]
          generalize upd H7 q (.lst (((nums n).drop 1).map V.str)) = H8 at s8 ⊢
          have hws : ws.length ≤ i := by
            have h1 := (rpre_inv hn2 (by omega) hpre).tk
            have h2 := congrArg List.length h1
            rw [List.length_take, List.length_append, List.length_map] at h2
            have h3 : (ws, c).1.length = ws.length := rfl
            omega
          have hcnt := trms_len t
          have hpar : ∀ z ∈ wds u, z.cps.size ≤ 1000 := fun z hz => by
            have : z.length ≤ u.length := PyProof.Rows.part_short (x := u) (y := spS) hz
            show z.length ≤ 1000
            omega
          have rest : ¬ (u ∈ (nums n).drop 1 ∧ decide (i + 1 = (trms t).length) = true) → tR2 K { nx := fun σ H5 => ∃ (ws : Ws) (c : Int) (v6 v7 v8 : Option V), σ = [some (.str t), some (.int (n : Int)), some (.ref Nu), some (.ref W0), some (.int c), some (.ref l), v6, v7, v8, none] ∧ SameX W0 H4 H5 ∧ H5 W0 = some (.dK (dk ws)) ∧ rpre n (trms t) (i + 1) = some (ws, c), rt := Q }
              [some (.str t), some (.int (n : Int)), some (.ref Nu), some (.ref W0), some (.int c), some (.ref l), some (.int (i : Nat)), some (.str u), some (.ref p), none] H8 := by
            intro hnot
            refine rest_ok (ws := ws) (u := u) (last := decide (i + 1 = (trms t).length)) hn2 (s8 _ _ hW7) (by omega) (s8 _ _ hp7) (s8 _ _ hNu7) hpar hnot (fun H9 s9 h9 => ?_) (fun H9 ws' s9 h9 hst => ?_)
            · exact none_ i H9 (s57.trans (SameX.of (s8.trans s9))) (by rw [s9 _ _ (s8 _ _ hW7)]; simp) hi (by rw [hstep, h9])
            · exact ⟨ws', c, _, _, _, rfl, (s57.trans (SameX.of s8)).trans s9, h9, by rw [hstep, hst]⟩
          by_cases t1 : u ∈ (nums n).drop 1
          · rw [decide_eq_true t1]
            refine iteT ?_
            refine ⟨_, rfl, _, rfl, l, _, rfl, .inl (SqL.of (s8 _ _ hl7)), _, _, rfl, rfl, rfl, _, rfl, ?_⟩
            rw [List.length_map]
            by_cases t2 : i + 1 = (trms t).length
            · rw [decide_eq_true (show V.int (i : Nat) = V.int (((trms t).length : Nat) - 1) by rw [← t2]; congr 1; omega)]
              refine iteT ?_
              obtain ⟨j, j1, j2, ej⟩ := nums_drop.mp t1
              refine ⟨_, rfl, .inl ⟨rfl, _, SqL.of (s8 _ _ hNu7)⟩, _, rfl, Nu, _, _, j, .str (numS (j : Int)), rfl, rfl, SqL.of (s8 _ _ hNu7), rfl, flat_txts _, by rw [List.getElem?_map, nums_get j2]; rfl, by rw [ej]; simp [eqV], fun m z hmj hz2 => ?_, ?_⟩
              · rw [List.getElem?_map, nums_get (by omega)] at hz2
                cases hz2
                rw [ej]
                simp only [eqV, beq_eq_false_iff_ne]
                intro e
                have := numS_inj e
                omega
              · refine ⟨ws, (j : Int), _, _, _, rfl, s57.trans (SameX.of s8), s8 _ _ hW7, ?_⟩
                rw [hstep]
                unfold rstep
                rw [if_pos ⟨t1, decide_eq_true t2⟩, ej, nv_num j2]
            · rw [decide_eq_false (show ¬ V.int (i : Nat) = V.int (((trms t).length : Nat) - 1) from fun z => t2 (by have := V.int.inj z; omega))]
              refine iteF ?_
              exact rest fun z => t2 (of_decide_eq_true z.2)
          · rw [decide_eq_false t1]
            refine iteF ?_
            exact rest fun z => t1 z.1
        · rintro σ H5 ⟨ws, c, v6, v7, v8, rfl, s5, hW5, hpre⟩
          rw [List.length_map] at hpre
          refine ⟨_, rfl, _, rfl, by show 2 ≤ sizeLine; decide, fun p hp => ?_⟩
          have sH5 : Same H H5 := fun b o hb => s5 _ _ (ne_of_none hb fW) (sH4 _ _ hb)
          have s6 : Same H5 (upd H5 p (.tup [.ref W0, .int c])) := Same.new hp
          exact kS p W0 ws c _ (sH5.trans s6) (sH5.free hp) fW (by rw [hrd, hpre]) upd_same (s6 _ _ hW5)
end
end Q
set_option Elab.async false
set_option maxRecDepth 100000
set_option maxHeartbeats 4000000
namespace QR
open PySem PySem.Spec PyProof.Rows L2
section
variable {X : Cx} {CX : CXT} {k : Nat} {C p g : Addr} {mc : Value} {sp : Sp} {E : L2.St → XK} {o e : Expr} {es : List Expr} {m : Str} {pos apos : Pos} {ta : TE} {t : TA} {pl : Sem Bool}
/-- C.m(e, ..), m a classmethod that may raise; the wish by the slots -/
def tCMethS (C : Addr) (sp : Sp) (E : L2.St → XK) (ta : TE) (t : TA) : TE := fun σ H Q => ta σ H fun x H1 => x = .ref C ∧ t σ H1 fun vs H2 => sp (.ref C :: vs) H2 Q (E σ)
theorem pe_cmethS (ho : PE X o ta) (cr : ClX.CRead X.K C mc) (cm : ClX.CMet X.K C mc m p g) (Fg : FnR X.prog X.w X.K X.mg X.base CX k g sp) (room : Room k X.A) (ps : ∀ σ, PassesAt CX X σ (E σ)) (pa : PA X (e :: es) t)
    (h1 : starEach (e :: es) X.env = (false, eval e X.env) :: starEach es X.env := by rfl) (h2 : (backTo pos (starEach es X.env)).any (·.1) = false := by rfl)
    (h3 : eval (.Call (.Attribute o m apos) (e :: es) [] pos) X.env = (do let w1 ← eval o X.env; standAt apos.atName; let (w2, w3) ← holding [w1] (getMethod w1 m pl); callWith pos w2 w3 (backTo pos (starEach (e :: es) X.env)) (backToKw pos (keywordEach [] X.env))) := by rfl) :
    PE X (.Call (.Attribute o m apos) (e :: es) [] pos) (tCMethS C sp E ta t) := by
  refine ⟨fun pins s σ H Q I h => ?_⟩
  refine PySem.W.methodCall_KW (pl := pl) (thn (ho.run pins s σ H _ I h) fun v0 s1 z1 => ?_) h3
  obtain ⟨x, H1, I1, rx, rfl, q⟩ := z1
  obtain rfl : v0 = Value.ref C := rx
  refine ClX.getmethcm_ok I1 cr cm fun s2 I2 => ?_
  refine ClX.callwith_cm I2 (ClX.base_none I1 (Nat.le_refl _)) cm.fi (thn (pa.run pos _ s2 σ H1 _ I2 q) fun us s3 z3 => ?_) h1 h2
  obtain ⟨vs, H2, I3, rv, q2⟩ := z3
  refine ⟨⟨ClX.pin_at I3, I3.kIn⟩, ?_⟩
  have I4 := ClX.unpin I3
  refine wpAny_call (PySem.W.method_call (ClX.pin_at I3) (codeAny_mono (Fg X.A X.stack s3 H2 (.ref C :: us) (.ref C :: vs) Q (E σ) room I4.env0 (.cons rfl rv) q2) fun r s4 hq => ?_))
  cases r with
  | error er => exact ps σ pins H2 s3 er s4 I4 hq
  | ok fl =>
    cases fl with
    | ret u => exact I4.after hq
    | next => exact False.elim hq
    | brk => exact False.elim hq
    | cont => exact False.elim hq
end
end QR
namespace Q
open PySem L2 QR QM TL
section
variable {P : Program} {w : World} {K : PySem.W.Frag} {mg : Str → Option Value} {base : Heap}
/-! ### _law_told -/
def spTold (K : PySem.W.Frag) : Sp := fun vs H Q _ => ∃ (n : Nat) (v : V), vs = [.int (n : Int), v] ∧ IsMod (n : Int) ∧
  ((∃ t : Str, v = .str t ∧ t.length ≤ 170 ∧ (∀ (p d : Addr) ws c H', Same H H' → H p = none → H d = none → H' p = some (.tup [.ref d, .int c]) → H' d = some (.dK (dk ws)) → Rep n ws c → t = txt ws c → Q (.ref p) H') ∧
      ((∀ ws c, Rep n ws c → t ≠ txt ws c) → ∀ H', Same H H' → Q (.int 1) H')) ∨
    (NotStr K H v ∧ ∀ H', Same H H' → Q (.int 1) H'))
abbrev nTold : List Str := ["_law_q", "_law_value", "_law_found", "e"]
theorem scTold : FnScope nTold ["_law_q", "_law_value"] (defScope sLTold) := ⟨rfl, rfl, rfl, by decide +kernel, rfl, by decide +kernel, by decide +kernel⟩
theorem ok_told (T : T4 K mg) : FnOk P w K mg base CX0 8 T.told.f T.told.fd ["_law_q", "_law_value"] (spTold K) := by
  have GP : FnOk P w K mg base (L2.CX P w) 6 T.parse.f T.parse.fd ["cls", "modulus", "text"] (spParse K T.S T.Er) := ok_parse T.toT3
  have GWe : FnOk P w K mg base CX0 1 T.weights.f T.weights.fd ["self"] (spWeights T.S) := ok_weights T.toT3
  have GC : FnOk P w K mg base CX0 1 T.constant.f T.constant.fd ["self"] (getSp T.S "own_constant") := ok_constant T.toT3
  refine T.told.F.ok scTold (fun vs H Q E h => ?_) (fun cdv A outer s H vs Q E hr h => ?_)
  · obtain ⟨n, v, rfl, _⟩ := h
    rfl
  · obtain ⟨n, v, rfl, hq, h⟩ := h
    have hr1 : Room 1 _ := hr.mono (by decide)
    have hr2 : Room 2 _ := hr.mono (by decide)
    have hr6 : Room 6 _ := hr.mono (by decide)
    refine ⟨_, pss_one (ps_try_asE (i := 3) (tb := fun W => tAsg (tCMethS T.S (fun vs H Q E => spParse K T.S T.Er (vs ++ []) H Q E) (WE W) (tC (.ref T.S)) (tCons (tVar 0) (tCons (tVar 1) tNil))) (gName 2)) (ts := fun a cls d => tRet (tXf a cls d T.Er "line" (tVar 3))) rfl rfl scTold.nd rfl rfl ⟨rfl, by decide, .inl T.gEr⟩
      (fun W pn xe tk _ => pss_one (ps_set (i := 2) scTold.nd rfl (Or.inl rfl) (pe_cmethS (pe_glob (v := .ref T.S) rfl T.gS rfl) T.cr T.cm (GP.raw T.parse.b .nil) hr6 (fun σ => passAt tk σ) (pa_cons (pv 0) (pa_cons (pv 1) pa_nil)))))
      (fun a oe cls d pn hz hf => pss_one (ps_ret (pe_xf T.erX T.erL hz hf (pv 3))))
      (pss_one (ps_ret (pe_tup (pa_cons (pe_meth0 (pv 2) T.cl T.weights.m GWe hr1 T.weights.b .nil pass0) (pa_cons (pe_prop (pv 2) T.cl T.constant.pr GC hr2 T.constant.b .nil pass0 rfl) pa_nil)))))), ?_⟩
    have er : ∀ (d : Addr) (H' : Hp), Same H H' → H d = none → H' d = some (.xd [("line", .int 1)]) → (∀ H'', Same H H'' → Q (.int 1) H'') →
        wAs K (.ref T.Er) 3 (fun a cls d => tRet (tXf a cls d T.Er "line" (tVar 3))) noX { nx := fun _ H' => Q .non H', rt := Q } (.ref T.Er) (some d) [some (.int (n : Int)), some v, none, none] H' := by
      intro d H' s1 hd h1 kk
      refine ⟨true, T.erM, fun _ a ha => ?_, fun q => nomatch q⟩
      exact ⟨_, rfl, rfl, rfl, d, _, .int 1, rfl, h1, rfl, kk H' s1⟩
    refine ⟨rfl, _, rfl, _, rfl, n, v, rfl, hq, ?_⟩
    rcases h with ⟨t, rfl, ht, kQ, kE⟩ | ⟨ns, kE⟩
    · refine .inl ⟨t, rfl, ht, fun p N ws c H1 s1 fp hsum hnms et => ?_, fun hno d H1 s1 hd h1 => er d H1 s1 hd h1 (kE hno)⟩
      have hrep := sumAt_rep hsum hnms
      obtain ⟨dx, dd, g1, g2, g3⟩ := id hsum
      refine ⟨_, rfl, p, dx, _, rfl, g1, fl_no (by decide +kernel) (by decide +kernel) (by decide +kernel), p, n, N, ws, c, rfl, hsum, fun e he => ?_⟩
      have s2 : Same H1 (upd H1 e (.dK (dk ws))) := Same.new he
      have he2 : upd H1 e (.dK (dk ws)) e = some (.dK (dk ws)) := upd_same
      generalize upd H1 e (.dK (dk ws)) = H2 at s2 he2 ⊢
      refine ⟨_, rfl, p, dx, _, rfl, s2 _ _ g1, p, dx, _, _, rfl, s2 _ _ g1, fl_c _ _ _, by show 2 ≤ sizeLine; decide, fun r hr0 => ?_⟩
      have s3 : Same H2 (upd H2 r (.tup [.ref e, .int c])) := Same.new hr0
      exact kQ r e ws c _ ((s1.trans s2).trans s3) ((s1.trans s2).free hr0) (s1.free he) upd_same (s3 _ _ he2) hrep et
    · exact .inr ⟨ns, fun d H1 s1 hd h1 => er d H1 s1 hd h1 kE⟩
end
end Q
set_option Elab.async false
set_option maxRecDepth 100000
set_option maxHeartbeats 4000000
namespace Q
open PySem L2 QR QM TL
/-- a text that may be handed to the program -/
structure OkT (z : Str) : Prop where
  len : z.length ≤ 170
  asc : Asc z
/-- a term -/
structure OkP (z : Str) : Prop where
  lo : 1 ≤ z.length
  len : z.length ≤ 18
  asc : Asc z
theorem cut_take (l : List Str) (d : Nat) (hd : d ≤ l.length) : cutV (l.map V.str) none (some (d : Int)) = (l.take d).map V.str := by
  unfold cutV
  rw [HT.sIx_nat, HT.sIx_none, List.length_map, Nat.min_eq_left hd, List.drop_zero, Nat.sub_zero, List.map_take]
theorem asc_cut {z : Str} (h : Asc z) (lo hi : Option Int) : Asc (cutS z lo hi) := fun c hc => by
  have : c ∈ (z.cps.toList.drop (HT.sIx z.length 0 lo)).take (HT.sIx z.length z.length hi - HT.sIx z.length 0 lo) := hc
  exact h c (List.mem_of_mem_drop (List.mem_of_mem_take this))
theorem mem_of_joinL (S : List Nat) {c : Nat} : ∀ {parts : List (List Nat)}, c ∈ joinL S parts → c ∈ S ∨ ∃ p ∈ parts, c ∈ p
  | [], h => by cases h
  | [q], h => .inr ⟨q, List.mem_cons_self, h⟩
  | q :: q2 :: r, h => by
    have h' : c ∈ q ++ (S ++ joinL S (q2 :: r)) := h
    rcases List.mem_append.mp h' with z | z
    · exact .inr ⟨q, List.mem_cons_self, z⟩
    · rcases List.mem_append.mp z with z | z
      · exact .inl z
      · rcases mem_of_joinL S z with z | ⟨p, hp, hc⟩
        · exact .inl z
        · exact .inr ⟨p, List.mem_cons_of_mem _ hp, hc⟩
theorem asc_join {ls : List Str} (h : ∀ t ∈ ls, Asc t) : Asc (Txt.join plS ls) := fun c hc => by
  rw [join_eq, tl_join] at hc
  rcases mem_of_joinL _ hc with z | ⟨p, hp, hc⟩
  · exact asc_pl c z
  · obtain ⟨t, ht, rfl⟩ := List.mem_map.mp hp
    exact h t ht c hc
theorem sum_le {m : Nat} : ∀ {ls : List Str}, (∀ t ∈ ls, t.length ≤ m) → (ls.map (·.length)).sum ≤ m * ls.length
  | [], _ => Nat.zero_le _
  | a :: r, h => by
    have h1 := h a List.mem_cons_self
    have h2 := sum_le (ls := r) fun t ht => h t (List.mem_cons_of_mem _ ht)
    simp only [List.map_cons, List.sum_cons, List.length_cons, Nat.mul_add, Nat.mul_one]
    omega
/-- terms, at most seven -/
structure OkL (ls : List Str) : Prop where
  len : ls.length ≤ 7
  ok : ∀ t ∈ ls, t.length ≤ 18 ∧ Asc t
theorem OkL.txt {ls : List Str} (h : OkL ls) : OkT (Txt.join plS ls) := by
  refine ⟨?_, asc_join fun t ht => (h.ok t ht).2⟩
  have h1 := sum_le (m := 18) fun t ht => (h.ok t ht).1
  have h2 := join_len plS ls
  have h3 : plS.length = 3 := by decide +kernel
  have h4 := h.len
  rw [join_eq, h2, h3]
  omega
theorem OkL.fit {ls : List Str} (h : OkL ls) : (ls.map (·.length)).sum + ls.length * plS.length ≤ 16777216 := by
  have h1 := sum_le (m := 18) fun t ht => (h.ok t ht).1
  have h3 : plS.length = 3 := by decide +kernel
  have h4 := h.len
  rw [h3]; omega
/-- y of three signs, z of four at most: the text grows by a third at most -/
theorem replL_len {y z : List Nat} (hy : y.length = 3) (hz : z.length ≤ 4) : ∀ (k : Nat) (l : List Nat), l.length ≤ k → 3 * (StrLaws.replL y z l).length ≤ 4 * l.length
  | _, [], _ => by rw [StrLaws.replL_nil]; simp
  | 0, c :: r, h => by simp at h
  | k + 1, c :: r, h => by
    have hne : y ≠ [] := fun e => by rw [e] at hy; cases hy
    by_cases hit : (c :: r).take y.length = y
    · rw [StrLaws.replL_hit hne hit, List.length_append]
      have h3 : 3 ≤ (c :: r).length := by
        have := congrArg List.length hit
        rw [List.length_take, hy] at this
        omega
      have hd : ((c :: r).drop y.length).length = (c :: r).length - 3 := by rw [List.length_drop, hy]
      have ih := replL_len hy hz k ((c :: r).drop y.length) (by rw [hd]; rw [List.length_cons] at h ⊢; omega)
      rw [hd] at ih
      omega
    · rw [StrLaws.replL_miss hit]
      have ih := replL_len hy hz k r (by rw [List.length_cons] at h; omega)
      simp only [List.length_cons]
      omega
theorem replL_asc {y z : List Nat} (hy : y ≠ []) (hz : ∀ c ∈ z, c < 128) : ∀ (k : Nat) (l : List Nat), l.length ≤ k → (∀ c ∈ l, c < 128) → ∀ c ∈ StrLaws.replL y z l, c < 128
  | _, [], _, _, c, hc => by rw [StrLaws.replL_nil] at hc; cases hc
  | 0, c :: r, h, _, _, _ => by simp at h
  | k + 1, d :: r, h, ha, c, hc => by
    by_cases hit : (d :: r).take y.length = y
    · rw [StrLaws.replL_hit hy hit] at hc
      rcases List.mem_append.mp hc with q | q
      · exact hz c q
      · refine replL_asc hy hz k ((d :: r).drop y.length) ?_ (fun x hx => ha x (List.mem_of_mem_drop hx)) c q
        have : 0 < y.length := List.length_pos_iff.mpr hy
        rw [List.length_drop]; rw [List.length_cons] at h ⊢; omega
    · rw [StrLaws.replL_miss hit] at hc
      rcases List.mem_cons.mp hc with q | q
      · rw [q]; exact ha d List.mem_cons_self
      · exact replL_asc hy hz k r (by rw [List.length_cons] at h; omega) (fun x hx => ha x (List.mem_cons_of_mem _ hx)) c q
theorem repl_ok {x z : Str} (hx : x.length ≤ 120) (ha : Asc x) (hz : z.length ≤ 4) (hza : Asc z) : OkT (Txt.replace x plS z) := by
  have e := StrLaws.replace_list (x := x) (y := plS) (z := z) (by decide +kernel)
  have h3 : plS.cps.toList.length = 3 := by decide +kernel
  have hne : plS.cps.toList ≠ [] := by decide +kernel
  refine ⟨?_, fun c hc => ?_⟩
  · have := replL_len (y := plS.cps.toList) (z := z.cps.toList) h3 (by rw [← len_tl]; exact hz) _ x.cps.toList (Nat.le_refl _)
    rw [← e] at this
    rw [len_tl] at hx ⊢
    have h4 : (tl x).length = x.cps.toList.length := rfl
    have h5 : (tl (Txt.replace x plS z)).length = (Txt.replace x plS z).cps.toList.length := rfl
    omega
  · have hc' : c ∈ (Txt.replace x plS z).cps.toList := hc
    rw [e] at hc'
    exact replL_asc hne hza _ x.cps.toList (Nat.le_refl _) ha c hc'
theorem upper_ok {x : Str} (hx : x.length ≤ 120) (ha : Asc x) : OkT (Txt.upper x) := by
  rw [PyProof.Rows.upper_ascii ha]
  refine ⟨?_, fun c hc => ?_⟩
  · show (x.cps.map PyProof.Rows.up1).size ≤ 170
    rw [Array.size_map]
    have : x.cps.size = x.length := rfl
    omega
  · have hc' : c ∈ (x.cps.map PyProof.Rows.up1).toList := hc
    rw [Array.toList_map] at hc'
    obtain ⟨d, hd, rfl⟩ := List.mem_map.mp hc'
    have := ha d hd
    unfold PyProof.Rows.up1
    split <;> omega
abbrev txs (l : List Str) : List V := l.map V.str
theorem one_ok : ∀ z ∈ ([" ", "+", "0", "1", "a", "A", "-", "_", "2", "9"] : List Str), z.length ≤ 1 ∧ Asc z := by
  unfold Asc; decide +kernel
theorem rep_ok : ∀ z ∈ ([" - ", "  + ", " +  ", " * "] : List Str), z.length ≤ 4 ∧ Asc z := by
  unfold Asc; decide +kernel
theorem odd_ok : ∀ z ∈ (["0", "1 a", "0 a", "01", "00", "+1", "-1", "a b", "2 3"] : List Str), z.length ≤ 18 ∧ Asc z := by
  unfold Asc; decide +kernel
theorem app_len (a b : Str) : (a ++ b).length = a.length + b.length := by rw [len_tl, tl_append, List.length_append, ← len_tl, ← len_tl]
theorem cut_lenT (z : Str) (d : Nat) : (cutS z none (some (d : Int))).length ≤ d := by
  show (((z.cps.toList.drop (HT.sIx z.length 0 none)).take (HT.sIx z.length z.length (some (d : Int)) - HT.sIx z.length 0 none)).toArray).size ≤ d
  rw [List.size_toArray, List.length_take, HT.sIx_nat, HT.sIx_none]
  omega
theorem cut_lenD (z : Str) (d : Nat) (hd : d ≤ z.length) : (cutS z (some (d : Int)) none).length ≤ z.length - d := by
  show (((z.cps.toList.drop (HT.sIx z.length 0 (some (d : Int)))).take (HT.sIx z.length z.length none - HT.sIx z.length 0 (some (d : Int)))).toArray).size ≤ z.length - d
  rw [List.size_toArray, List.length_take, HT.sIx_nat, HT.sIx_none, Nat.min_eq_left hd]
  omega
section
variable {P : Program} {w : World} {K : PySem.W.Frag} {mg : Str → Option Value} {base : Heap}
def spSpoilt : Sp := fun vs H Q _ => ∃ (r l : Addr) (n : Nat) (ts : List Str), vs = [.ref r, .ref l, .int (n : Int)] ∧ RngAt H r ∧ H l = some (.lst (ts.map V.str)) ∧ 1 ≤ ts.length ∧ ts.length ≤ 6 ∧ (∀ t ∈ ts, 1 ≤ t.length ∧ t.length ≤ 15 ∧ Asc t) ∧ 2 ≤ n ∧ n ≤ 13 ∧
  ∀ z H', SameX r H H' → RngAt H' r → OkT z → Q (.str z) H'
abbrev nSp : List Str := ["_law_rng_here", "_law_terms_here", "_law_q", "_law_way", "_law_at", "_law_text", "_law_place", "_law_more", "_law_odd", "_law_k", "_law_term"]
theorem scSp : FnScope nSp ["_law_rng_here", "_law_terms_here", "_law_q"] (defScope sLSpoilt) := ⟨rfl, rfl, rfl, by decide +kernel, rfl, by decide +kernel, by decide +kernel⟩
theorem ok_spoilt (T : T4 K mg) : FnOk P w K mg base CX0 3 T.spoilt.f T.spoilt.fd ["_law_rng_here", "_law_terms_here", "_law_q"] spSpoilt := by
  have GD : FnOk P w K mg base CX0 1 T.draw.f T.draw.fd ["_law_rng_here", "_law_many"] spDraw := ok_draw T
  have GCh : FnOk P w K mg base CX0 2 T.choice.f T.choice.fd ["_law_rng_here", "_law_some"] (spChoice K) := ok_choice T
  refine T.spoilt.F.ok scSp (fun vs H Q E h => ?_) (fun cdv A outer s H vs Q E hr h => ?_)
  · obtain ⟨r, l, n, ts, rfl, _⟩ := h
    rfl
  · obtain ⟨r, l, n, ts, rfl, hR, hl, h1, h6, hts, hn2, hn, k⟩ := h
    have hr1 : Room 1 _ := hr.mono (by decide)
    have hr2 : Room 2 _ := hr.mono (by decide)
    refine ⟨_, (pss_cons (ps_asg (pe_tup (pa_cons (pe_call GD hr1 (by rfl) T.gDraw T.draw.kp T.draw.b .nil pass0 (pa_cons (pv 0) (pa_cons pe_int pa_nil))) (pa_cons (pe_call GD hr1 (by rfl) T.gDraw T.draw.kp T.draw.b .nil pass0 (pa_cons (pv 0) (pa_cons (pe_callB call_len_seq (by rfl) T.B.len PySem.boot_len (pa_cons (pv 1) pa_nil)) pa_nil))) pa_nil))) (pg_tup rfl (pgs_cons (pg_name (i := 3) scSp.nd rfl (Or.inl rfl)) (pgs_cons (pg_name (i := 4) scSp.nd rfl (Or.inr rfl)) pgs_nil)))) (pss_set1 (i := 5) scSp.nd rfl (Or.inl rfl) (pe1_join (pv 1)) (psst_cons (PST.of (ps_set (i := 6) scSp.nd rfl (Or.inl rfl) (pe_call GD hr1 (by rfl) T.gDraw T.draw.kp T.draw.b .nil pass0 (pa_cons (pv 0) (pa_cons (pe_callB call_len_str (by rfl) T.B.len PySem.boot_len (pa_cons (pv 5) pa_nil)) pa_nil))))) (psst_cons (PST.of (ps_if (pt_cmpR op_eq (pv 3) pe_int (nomark _)) (pss_one (ps_ret (pe_op op_add_str (pe_op op_add_str (pe_slice sl_str (pv 5) po_none (po_some (pv 6))) (pe_call GCh hr2 (by rfl) T.gChoice T.choice.kp T.choice.b .nil pass0 (pa_cons (pv 0) (pa_cons (pe_lst (pa_cons pe_str (pa_cons pe_str (pa_cons pe_str (pa_cons pe_str (pa_cons pe_str (pa_cons pe_str (pa_cons pe_str (pa_cons pe_str (pa_cons pe_str (pa_cons pe_str pa_nil))))))))))) pa_nil)))) (pe_slice sl_str (pv 5) (po_some (pv 6)) po_none)))) pss_nil)) (psst_cons (PST.of (ps_if (pt_cmpR op_eq (pv 3) pe_int (nomark _)) (pss_one (ps_ret (pe_op op_add_str (pe_slice sl_str (pv 5) po_none (po_some (pv 6))) (pe_slice sl_str (pv 5) (po_some (pe_op op_add (pv 6) pe_int)) po_none)))) pss_nil)) (psst_cons (PST.of (ps_if (pt_cmpR op_eq (pv 3) pe_int (nomark _)) (pss_one (ps_ret (pe_join pe_str (pe_op op_cat (pe_op op_cat (pe_slice sl_list (pv 1) po_none (po_some (pv 4))) (pe_lst (pa_cons (pe_ix ix_list (pv 1) (pv 4) (fun _ _ => rfl)) (pa_cons (pe_ix ix_list (pv 1) (pv 4) (fun _ _ => rfl)) pa_nil)))) (pe_slice sl_list (pv 1) (po_some (pe_op op_add (pv 4) pe_int)) po_none))))) pss_nil)) (psst_cons (PST.of (ps_if (pt_cmpR op_eq (pv 3) pe_int (nomark _)) (pss_one (ps_ret (pe_join pe_str (pe_revL (pv 1))))) pss_nil)) (psst_cons (PST.of (ps_if (pt_cmpR op_eq (pv 3) pe_int (nomark _)) (pss_one (ps_ret (pe_join pe_str (pe_op op_cat (pv 1) (pe_lst (pa_cons (pe_callTy call_str_int (by rfl) T.B.str (by decide +kernel) (pa_cons (pe_call GD hr1 (by rfl) T.gDraw T.draw.kp T.draw.b .nil pass0 (pa_cons (pv 0) (pa_cons (pe_op op_add (pv 2) pe_int) pa_nil))) pa_nil)) pa_nil)))))) pss_nil)) (psst_cons (PST.of (ps_if (pt_cmpR op_eq (pv 3) pe_int (nomark _)) (pss_cons (ps_set (i := 7) scSp.nd rfl (Or.inl rfl) (pe_op op_add_str (pe_op op_add_str (pe_callTy call_str_int (by rfl) T.B.str (by decide +kernel) (pa_cons (pe_call GD hr1 (by rfl) T.gDraw T.draw.kp T.draw.b .nil pass0 (pa_cons (pv 0) (pa_cons (pe_op op_add (pv 2) pe_int) pa_nil))) pa_nil)) pe_str) (pe_ix ix_list (pv 1) (pv 4) (fun _ _ => rfl)))) (pss_one (ps_ret (pe_join pe_str (pe_op op_cat (pe_op op_cat (pe_lst (pa_cons (pv 7) pa_nil)) (pe_slice sl_list (pv 1) po_none (po_some (pv 4)))) (pe_slice sl_list (pv 1) (po_some (pe_op op_add (pv 4) pe_int)) po_none)))))) pss_nil)) (psst_cons (CwR.pst_if (pt_cmpR op_eq (pv 3) pe_int (nomark _)) (CwR.psst_one (CwR.pst_ret (pet_call GCh hr2 (by rfl) T.gChoice T.choice.kp T.choice.b .nil pass0 (pat_cons (CwR.PET.of (pv 0)) (pat_cons (pet_lst (pat_cons (CwR.PET.of (pe_op op_add_str pe_str (pv 5))) (pat_cons (CwR.PET.of (pe_op op_add_str (pv 5) pe_str)) (pat_cons (CwR.PET.of (pe_op op_add_str pe_str (pv 5))) (pat_cons (CwR.PET.of (pe_op op_add_str (pv 5) pe_str)) (pat_cons (CwR.pet_replC (pv 5)) (pat_cons (CwR.PET.of pe_str) pat_nil))))))) pat_nil))))) CwR.psst_nil) (psst_cons (CwR.pst_if (pt_cmpR op_eq (pv 3) pe_int (nomark _)) (CwR.psst_one (CwR.pst_ret (pet_replD (m := 4) (raw_choice T) rfl hr2 (by rfl) T.gChoice T.choice.kp T.choice.b (pv 5) (pv 0) (by decide +kernel) (by decide +kernel) (by decide +kernel) (by decide +kernel) (by decide)))) CwR.psst_nil) (psst_cons (PST.of (ps_if (pt_cmpR op_eq (pv 3) pe_int (nomark _)) (pss_cons (ps_set (i := 8) scSp.nd rfl (Or.inl rfl) (pe_lst (pa_cons pe_str (pa_cons pe_str (pa_cons pe_str (pa_cons pe_str (pa_cons pe_str (pa_cons pe_str (pa_cons pe_str (pa_cons pe_str (pa_cons pe_str pa_nil))))))))))) (pss_one (ps_ret (pe_join pe_str (pe_op op_cat (pe_slice sl_list (pv 1) po_none (po_some (pv 4))) (pe_lst (pa_cons (pe_call GCh hr2 (by rfl) T.gChoice T.choice.kp T.choice.b .nil pass0 (pa_cons (pv 0) (pa_cons (pv 8) pa_nil))) pa_nil))))))) pss_nil)) (psst_cons (PST.of (ps_if (pt_cmpR op_eq (pv 3) pe_int (nomark _)) (pss_one (ps_ret (pe_join pe_str (pe_op op_cat (pe_slice sl_list (pv 1) po_none (po_some (pv 4))) (pe_lst (pa_cons (pe_op op_mulS pe_str (pe_op op_add pe_int (pe_call GD hr1 (by rfl) T.gDraw T.draw.kp T.draw.b .nil pass0 (pa_cons (pv 0) (pa_cons pe_int pa_nil))))) pa_nil)))))) pss_nil)) (psst_cons (PST.of (ps_if (pt_cmpR op_eq (pv 3) pe_int (nomark _)) (pss_one (ps_ret (pe_upper (pv 5)))) pss_nil)) (CwR.psst_one (PST.of (ps_ret (pe_join pe_str (pe_lc (own := [("_law_k", 9), ("_law_term", 10)]) (g := (gTup K 2 (gCons (gName 9) (gCons (gName 10) gNil)))) rfl scSp.nd (pi_enum (by rfl) T.B.enumerate (pa_cons (pv 1) pa_nil)) (blkOk_by (own := [("_law_k", 9), ("_law_term", 10)]) (N := nSp) (sc := defScope sLSpoilt) (by decide +kernel)) (fun _ _ _ _ _ => (pg_tup rfl (pgs_cons (pg_name (i := 9) scSp.nd rfl (Or.inl rfl)) (pgs_cons (pg_name (i := 10) scSp.nd rfl (Or.inl rfl)) pgs_nil)))) (fun _ _ _ _ _ => (pts_one (pt_cmpR op_ne (pv 9) (pv 4) (nomark _)))) (fun _ _ _ _ _ => (pv 10))))))))))))))))))))), ?_⟩
    have nlr : l ≠ r := fun z => by
      obtain ⟨x, y, q1, _⟩ := hR
      rw [z, q1] at hl
      injection hl with e
      injection e with e2
      cases ts with
      | nil => simp at h1
      | cons a b => cases e2
    have hk0 : OkL ts := ⟨by omega, fun t ht => ⟨by have := (hts t ht).2.1; omega, (hts t ht).2.2⟩⟩
    refine ⟨_, rfl, r, 12, rfl, hR, by omega, by omega, fun way H1 s1 R1 w0 w1 => ?_⟩
    have hl1 := s1 _ _ nlr hl
    refine ⟨_, rfl, _, rfl, l, _, rfl, .inl (SqL.of hl1), r, _, rfl, R1, by rw [List.length_map]; omega, by rw [List.length_map]; omega, fun at_ H2 s2 R2 a0 a1 => ?_⟩
    rw [List.length_map] at a1
    have hl2 := s2 _ _ nlr hl1
    refine ⟨by show 2 ≤ sizeLine; decide, fun T0 hT0 => ?_⟩
    have s3 : Same H2 (upd H2 T0 (.tup [.int way, .int at_])) := Same.new hT0
    refine ⟨T0, _, rfl, SqT.of upd_same, rfl, _, _, rfl, _, _, rfl, rfl, ?_⟩
    generalize upd H2 T0 (.tup [.int way, .int at_]) = H3 at s3 ⊢
    have hl3 := s3 _ _ hl2
    have R3 := R2.same s3
    have sH3 : SameX r H H3 := (s1.trans s2).trans (SameX.of s3)
    refine ⟨⟨plS, rfl⟩, _, rfl, plS, l, ts, rfl, rfl, .inl (SqL.of hl3), hk0.fit, ?_⟩
    have htx := hk0.txt
    have htl : (Txt.join plS ts).length ≤ 120 := by
      have h1 := sum_le (m := 15) fun t ht => (hts t ht).2.1
      have h2 := join_len plS ts
      have h3 : plS.length = 3 := by decide +kernel
      rw [join_eq, h2, h3]
      omega
    have htp : 1 ≤ (Txt.join plS ts).length := by
      have h2 := join_len plS ts
      cases ts with
      | nil => simp at h1
      | cons a b =>
        have := (hts a List.mem_cons_self).1
        rw [join_eq, h2]
        simp only [List.map_cons, List.sum_cons]
        omega
    generalize Txt.join plS ts = tx at htx htl htp ⊢
    refine ⟨_, rfl, _, rfl, tx, rfl, sz_le (by omega), r, _, rfl, R3, by omega, by omega, fun place H4 s4 R4 p0 p1 => ?_⟩
    have hl4 := s4 _ _ nlr hl3
    have kk : ∀ z H', SameX r H4 H' → RngAt H' r → OkT z → Q (.str z) H' := fun z H' s' R' o => k z H' ((sH3.trans s4).trans s') R' o
    obtain ⟨d, rfl⟩ := Int.eq_ofNat_of_zero_le a0
    obtain ⟨pl, rfl⟩ := Int.eq_ofNat_of_zero_le p0
    have hd : d < ts.length := by omega
    have hat : atI (ts.map V.str) ((d : Nat) : Int) = some (V.str ts[d]) := at_of (j := d) rfl (by rw [List.getElem?_map, List.getElem?_eq_getElem hd]; rfl)
    have od := hts ts[d] (List.getElem_mem hd)
    -- way 0
    refine ⟨_, rfl, rfl, _, rfl, ?_⟩
    by_cases e0 : way = 0
    · rw [decide_eq_true (show V.int way = V.int 0 by rw [e0])]
      refine iteT ?_
      refine ⟨_, rfl, _, rfl, _, rfl, tx, rfl, sz_le (by omega), ?_⟩
      refine ⟨_, rfl, by show 10 ≤ sizeLine; decide, fun q hq => ?_⟩
      have nrq : r ≠ q := fun z => by
        obtain ⟨x, y, q1, _⟩ := R4
        rw [← z, q1] at hq; cases hq
      have s5 := SameX.new (r := r) (o := .lst (txs [" ", "+", "0", "1", "a", "A", "-", "_", "2", "9"])) hq
      refine ⟨r, q, txs [" ", "+", "0", "1", "a", "A", "-", "_", "2", "9"], rfl, R4.same (Same.new hq), nrq, SqL.of upd_same, by decide, by decide, fun x H5 s6 R5 hx => ?_⟩
      obtain ⟨z, hz, rfl⟩ := List.mem_map.mp hx
      have oz : z.length ≤ 1 ∧ Asc z := one_ok z hz
      have c1 := cut_lenT tx pl
      have c2 := cut_lenD tx pl (by omega)
      refine ⟨_, _, rfl, rfl, sz_le (by omega), ?_⟩
      refine ⟨_, rfl, _, rfl, _, rfl, tx, rfl, sz_le (by omega), ?_⟩
      refine ⟨_, _, rfl, rfl, sz_le (by rw [app_len]; omega), kk _ _ (s5.trans s6) R5 ⟨by rw [app_len, app_len]; omega, asc_app (asc_app (asc_cut htx.asc _ _) oz.2) (asc_cut htx.asc _ _)⟩⟩
    rw [decide_eq_false (show ¬ V.int way = V.int 0 from fun z => e0 (V.int.inj z))]
    refine iteF ?_
    -- way 1
    refine ⟨_, rfl, rfl, _, rfl, ?_⟩
    by_cases e1 : way = 1
    · rw [decide_eq_true (show V.int way = V.int 1 by rw [e1])]
      refine iteT ?_
      have c1 := cut_lenT tx pl
      have c2 := cut_lenD tx (pl + 1) (by omega)
      refine ⟨_, rfl, _, rfl, _, rfl, tx, rfl, sz_le (by omega), ?_⟩
      refine ⟨_, rfl, _, rfl, _, _, rfl, rfl, _, rfl, tx, rfl, sz_le (by omega), ?_⟩
      have e : ((pl : Int) + 1) = ((pl + 1 : Nat) : Int) := by omega
      rw [e]
      refine ⟨_, _, rfl, rfl, sz_le (by omega), kk _ _ (SameX.refl _ _) R4 ⟨by rw [app_len]; omega, asc_app (asc_cut htx.asc _ _) (asc_cut htx.asc _ _)⟩⟩
    rw [decide_eq_false (show ¬ V.int way = V.int 1 from fun z => e1 (V.int.inj z))]
    refine iteF ?_
    -- way 2
    refine ⟨_, rfl, rfl, _, rfl, ?_⟩
    by_cases e2 : way = 2
    · rw [decide_eq_true (show V.int way = V.int 2 by rw [e2])]
      refine iteT ?_
      refine ⟨⟨plS, rfl⟩, _, rfl, _, rfl, _, rfl, l, _, rfl, SqL.of hl4, fun q1 hq1 => ?_⟩
      rw [cut_take ts d (by omega)]
      generalize hG1 : upd H4 q1 (.lst ((ts.take d).map V.str)) = G1
      have t1 : Same H4 G1 := by rw [← hG1]; exact Same.new hq1
      have g1 : G1 q1 = some (.lst ((ts.take d).map V.str)) := by rw [← hG1]; exact upd_same
      refine ⟨_, rfl, _, rfl, l, _, _, _, rfl, rfl, SqL.of (t1 _ _ hl4), hat, _, rfl, _, rfl, l, _, _, _, rfl, rfl, SqL.of (t1 _ _ hl4), hat, by show 2 ≤ sizeLine; decide, fun q2 hq2 => ?_⟩
      generalize hG2 : upd G1 q2 (.lst [.str ts[d], .str ts[d]]) = G2
      have t2 : Same G1 G2 := by rw [← hG2]; exact Same.new hq2
      have g2 : G2 q2 = some (.lst ([ts[d], ts[d]].map V.str)) := by rw [← hG2]; exact upd_same
      refine ⟨q1, q2, _, _, rfl, rfl, t2 _ _ g1, g2, sz_le (by rw [List.length_map, List.length_take]; show min d ts.length + 2 ≤ 100000; omega), fun q3 hq3 => ?_⟩
      rw [← List.map_append]
      generalize hG3 : upd G2 q3 (.lst ((ts.take d ++ [ts[d], ts[d]]).map V.str)) = G3
      have t3 : Same G2 G3 := by rw [← hG3]; exact Same.new hq3
      have g3 : G3 q3 = some (.lst ((ts.take d ++ [ts[d], ts[d]]).map V.str)) := by rw [← hG3]; exact upd_same
      have hl7 := t3 _ _ (t2 _ _ (t1 _ _ hl4))
      refine ⟨_, rfl, _, rfl, _, _, rfl, rfl, _, rfl, l, _, rfl, SqL.of hl7, fun q4 hq4 => ?_⟩
      rw [show ((d : Int) + 1) = ((d + 1 : Nat) : Int) by omega, cut_drop ts (d + 1) (by omega)]
      generalize hG4 : upd G3 q4 (.lst ((ts.drop (d + 1)).map V.str)) = G4
      have t4 : Same G3 G4 := by rw [← hG4]; exact Same.new hq4
      have g4 : G4 q4 = some (.lst ((ts.drop (d + 1)).map V.str)) := by rw [← hG4]; exact upd_same
      refine ⟨q3, q4, _, _, rfl, rfl, t4 _ _ g3, g4, sz_le (by rw [List.length_map, List.length_map, List.length_append, List.length_take, List.length_drop]; show min d ts.length + 2 + _ ≤ 100000; omega), fun q5 hq5 => ?_⟩
      rw [← List.map_append]
      have ok2 : OkL (ts.take d ++ [ts[d], ts[d]] ++ ts.drop (d + 1)) := by
        refine ⟨by rw [List.length_append, List.length_append, List.length_take, List.length_drop]; show min d ts.length + 2 + _ ≤ 7; omega, fun t ht => ?_⟩
        rcases List.mem_append.mp ht with ht | ht
        · rcases List.mem_append.mp ht with ht | ht
          · exact hk0.ok t (List.mem_of_mem_take ht)
          · simp only [List.mem_cons, List.not_mem_nil, or_false, or_self] at ht
            rw [ht]; exact hk0.ok _ (List.getElem_mem hd)
        · exact hk0.ok t (List.mem_of_mem_drop ht)
      have t5 := Same.new (o := .lst ((ts.take d ++ [ts[d], ts[d]] ++ ts.drop (d + 1)).map V.str)) hq5
      have sa := (((t1.trans t2).trans t3).trans t4).trans t5
      exact ⟨plS, q5, _, rfl, rfl, .inl (SqL.of upd_same), ok2.fit, kk _ _ (SameX.of sa) (R4.same sa) ok2.txt⟩
    rw [decide_eq_false (show ¬ V.int way = V.int 2 from fun z => e2 (V.int.inj z))]
    refine iteF ?_
    -- way 3
    refine ⟨_, rfl, rfl, _, rfl, ?_⟩
    by_cases e3 : way = 3
    · rw [decide_eq_true (show V.int way = V.int 3 by rw [e3])]
      refine iteT ?_
      refine ⟨⟨plS, rfl⟩, _, rfl, l, _, rfl, SqL.of hl4, fun q1 hq1 => ?_⟩
      rw [← List.map_reverse]
      have ok3 : OkL ts.reverse := ⟨by rw [List.length_reverse]; exact hk0.len, fun t ht => hk0.ok t (List.mem_reverse.mp ht)⟩
      have t1 := Same.new (o := .lst (ts.reverse.map V.str)) hq1
      exact ⟨plS, q1, _, rfl, rfl, .inl (SqL.of upd_same), ok3.fit, kk _ _ (SameX.of t1) (R4.same t1) ok3.txt⟩
    rw [decide_eq_false (show ¬ V.int way = V.int 3 from fun z => e3 (V.int.inj z))]
    refine iteF ?_
    -- way 4
    refine ⟨_, rfl, rfl, _, rfl, ?_⟩
    by_cases e4 : way = 4
    · rw [decide_eq_true (show V.int way = V.int 4 by rw [e4])]
      refine iteT ?_
      refine ⟨⟨plS, rfl⟩, _, rfl, _, rfl, _, rfl, _, _, rfl, rfl, r, _, rfl, R4, by omega, by omega, fun v H5 s5 R5 v0 v1 => ⟨v, rfl, log_small (by omega) (by omega), by show 1 ≤ sizeLine; decide, fun q hq => ?_⟩⟩
      have hl5 := s5 _ _ nlr hl4
      generalize hG1 : upd H5 q (.lst [.str (Str.ofString (toString v))]) = G1
      have t1 : Same H5 G1 := by rw [← hG1]; exact Same.new hq
      have g1 : G1 q = some (.lst ([numS v].map V.str)) := by rw [← hG1]; exact upd_same
      show rCat _ _ _ _
      refine ⟨l, q, _, _, rfl, rfl, t1 _ _ hl5, g1, sz_le (by rw [List.length_map]; show ts.length + 1 ≤ 100000; omega), fun q2 hq2 => ?_⟩
      rw [← List.map_append]
      have ok4 : OkL (ts ++ [numS v]) := by
        refine ⟨by rw [List.length_append]; show ts.length + 1 ≤ 7; omega, fun t ht => ?_⟩
        rcases List.mem_append.mp ht with ht | ht
        · exact hk0.ok t ht
        · rw [List.mem_singleton.mp ht]
          have := numS_len (k := v) v0 (by omega)
          exact ⟨by omega, asc_num v0⟩
      have t2 := Same.new (o := .lst ((ts ++ [numS v]).map V.str)) hq2
      have sa := t1.trans t2
      exact ⟨plS, q2, _, rfl, rfl, .inl (SqL.of upd_same), ok4.fit, kk _ _ (s5.trans (SameX.of sa)) (R5.same sa) ok4.txt⟩
    rw [decide_eq_false (show ¬ V.int way = V.int 4 from fun z => e4 (V.int.inj z))]
    refine iteF ?_
    -- way 5
    refine ⟨_, rfl, rfl, _, rfl, ?_⟩
    by_cases e5 : way = 5
    · rw [decide_eq_true (show V.int way = V.int 5 by rw [e5])]
      refine iteT ?_
      refine ⟨_, rfl, _, rfl, _, _, rfl, rfl, r, _, rfl, R4, by omega, by omega, fun v H5 s5 R5 v0 v1 => ⟨v, rfl, log_small (by omega) (by omega), ?_⟩⟩
      have hl5 := s5 _ _ nlr hl4
      have b1 := numS_len (k := v) v0 (by omega)
      have b2 : (numS v ++ spS).length = (numS v).length + 1 := app_len _ _
      refine ⟨numS v, spS, rfl, rfl, sz_le (by show (numS v).length + 1 ≤ 100000; omega), ?_⟩
      refine ⟨_, rfl, _, rfl, l, _, _, _, rfl, rfl, SqL.of hl5, hat, ?_⟩
      refine ⟨numS v ++ spS, ts[d], rfl, rfl, sz_le (by rw [b2]; omega), ?_⟩
      have om : (numS v ++ spS ++ ts[d]).length ≤ 18 ∧ Asc (numS v ++ spS ++ ts[d]) := ⟨by rw [app_len, b2]; omega, asc_app (asc_app (asc_num v0) asc_sp) od.2.2⟩
      generalize numS v ++ spS ++ ts[d] = mo at om ⊢
      refine ⟨⟨plS, rfl⟩, _, rfl, by show 1 ≤ sizeLine; decide, fun q1 hq1 => ?_⟩
      generalize hG1 : upd H5 q1 (.lst [.str mo]) = G1
      have t1 : Same H5 G1 := by rw [← hG1]; exact Same.new hq1
      have g1 : G1 q1 = some (.lst ([mo].map V.str)) := by rw [← hG1]; exact upd_same
      refine ⟨_, rfl, _, rfl, _, rfl, l, _, rfl, SqL.of (t1 _ _ hl5), fun q2 hq2 => ?_⟩
      rw [cut_take ts d (by omega)]
      generalize hG2 : upd G1 q2 (.lst ((ts.take d).map V.str)) = G2
      have t2 : Same G1 G2 := by rw [← hG2]; exact Same.new hq2
      have g2 : G2 q2 = some (.lst ((ts.take d).map V.str)) := by rw [← hG2]; exact upd_same
      refine ⟨q1, q2, _, _, rfl, rfl, t2 _ _ g1, g2, sz_le (by rw [List.length_map, List.length_map, List.length_take]; show 1 + _ ≤ 100000; omega), fun q3 hq3 => ?_⟩
      rw [← List.map_append]
      generalize hG3 : upd G2 q3 (.lst (([mo] ++ ts.take d).map V.str)) = G3
      have t3 : Same G2 G3 := by rw [← hG3]; exact Same.new hq3
      have g3 : G3 q3 = some (.lst (([mo] ++ ts.take d).map V.str)) := by rw [← hG3]; exact upd_same
      have hl7 := t3 _ _ (t2 _ _ (t1 _ _ hl5))
      refine ⟨_, rfl, _, rfl, _, _, rfl, rfl, _, rfl, l, _, rfl, SqL.of hl7, fun q4 hq4 => ?_⟩
      rw [show ((d : Int) + 1) = ((d + 1 : Nat) : Int) by omega, cut_drop ts (d + 1) (by omega)]
      generalize hG4 : upd G3 q4 (.lst ((ts.drop (d + 1)).map V.str)) = G4
      have t4 : Same G3 G4 := by rw [← hG4]; exact Same.new hq4
      have g4 : G4 q4 = some (.lst ((ts.drop (d + 1)).map V.str)) := by rw [← hG4]; exact upd_same
      refine ⟨q3, q4, _, _, rfl, rfl, t4 _ _ g3, g4, sz_le (by rw [List.length_map, List.length_map, List.length_append, List.length_take, List.length_drop]; show 1 + _ + _ ≤ 100000; omega), fun q5 hq5 => ?_⟩
      rw [← List.map_append]
      have ok5 : OkL ([mo] ++ ts.take d ++ ts.drop (d + 1)) := by
        refine ⟨by rw [List.length_append, List.length_append, List.length_take, List.length_drop]; show 1 + _ + _ ≤ 7; omega, fun t ht => ?_⟩
        rcases List.mem_append.mp ht with ht | ht
        · rcases List.mem_append.mp ht with ht | ht
          · rw [List.mem_singleton.mp ht]; exact om
          · exact hk0.ok t (List.mem_of_mem_take ht)
        · exact hk0.ok t (List.mem_of_mem_drop ht)
      have t5 := Same.new (o := .lst (([mo] ++ ts.take d ++ ts.drop (d + 1)).map V.str)) hq5
      have sa := (((t1.trans t2).trans t3).trans t4).trans t5
      exact ⟨plS, q5, _, rfl, rfl, .inl (SqL.of upd_same), ok5.fit, kk _ _ (s5.trans (SameX.of sa)) (R5.same sa) ok5.txt⟩
    rw [decide_eq_false (show ¬ V.int way = V.int 5 from fun z => e5 (V.int.inj z))]
    refine iteF ?_
    -- way 6
    refine ⟨_, rfl, rfl, _, rfl, ?_⟩
    by_cases e6 : way = 6
    · rw [decide_eq_true (show V.int way = V.int 6 by rw [e6])]
      refine iteT ?_
      refine ⟨_, rfl, _, rfl, _, _, rfl, rfl, sz_le (by show 1 + tx.length ≤ 100000; omega), _, rfl, _, _, rfl, rfl, sz_le (by show tx.length + 1 ≤ 100000; omega), _, rfl, _, _, rfl, rfl, sz_le (by show 2 + tx.length ≤ 100000; omega), _, rfl, _, _, rfl, rfl, sz_le (by show tx.length + 2 ≤ 100000; omega), _, rfl, tx, rfl, by show tx.length + (tx.length + 1) * 1 ≤ 16777216; omega, by show 6 ≤ sizeLine; decide, fun q hq => ?_⟩
      have nrq : r ≠ q := fun z => by
        obtain ⟨x, y, q1, _⟩ := R4
        rw [← z, q1] at hq; cases hq
      refine ⟨r, q, txs [(" " : Str) ++ tx, tx ++ (" " : Str), ("+ " : Str) ++ tx, tx ++ (" +" : Str), Txt.replace tx plS ("+" : Str), ("" : Str)], rfl, R4.same (Same.new hq), nrq, SqL.of upd_same, by show 1 ≤ 6; decide, by show 6 ≤ 1000; decide, fun x H5 s6 R5 hx => ?_⟩
      obtain ⟨z, hz, rfl⟩ := List.mem_map.mp hx
      have a1 : Asc (" " : Str) ∧ Asc ("+ " : Str) ∧ Asc (" +" : Str) ∧ Asc ("+" : Str) ∧ Asc ("" : Str) := by unfold Asc; decide +kernel
      have l1 : (" " : Str).length = 1 ∧ ("+ " : Str).length = 2 ∧ (" +" : Str).length = 2 ∧ ("+" : Str).length = 1 ∧ ("" : Str).length = 0 := by decide +kernel
      have oz : OkT z := by
        simp only [List.mem_cons, List.not_mem_nil, or_false] at hz
        rcases hz with rfl | rfl | rfl | rfl | rfl | rfl
        · exact ⟨by rw [app_len]; omega, asc_app a1.1 htx.asc⟩
        · exact ⟨by rw [app_len]; omega, asc_app htx.asc a1.1⟩
        · exact ⟨by rw [app_len]; omega, asc_app a1.2.1 htx.asc⟩
        · exact ⟨by rw [app_len]; omega, asc_app htx.asc a1.2.2.1⟩
        · exact repl_ok htl htx.asc (by omega) a1.2.2.2.1
        · exact ⟨by omega, a1.2.2.2.2⟩
      exact kk _ _ ((SameX.new hq).trans s6) R5 oz
    rw [decide_eq_false (show ¬ V.int way = V.int 6 from fun z => e6 (V.int.inj z))]
    refine iteF ?_
    -- way 7
    refine ⟨_, rfl, rfl, _, rfl, ?_⟩
    by_cases e7 : way = 7
    · rw [decide_eq_true (show V.int way = V.int 7 by rw [e7])]
      refine iteT ?_
      refine ⟨_, rfl, tx, rfl, by omega, _, rfl, fun q o hq => ?_⟩
      have nqr : q ≠ r := fun z => by
        obtain ⟨x, y, q1, _⟩ := R4
        rw [z, q1] at hq; cases hq
      have t1 := Same.new (o := .frz o (.lst (txs [" - ", "  + ", " +  ", " * "]))) hq
      refine ⟨_, rfl, _, rfl, q, txs [" - ", "  + ", " +  ", " * "], rfl, .inl (.inl (.inr ⟨o, upd_same⟩)), r, 4, rfl, R4.same t1, by omega, by omega, fun v H5 s5 R5 v0 v1 => ?_⟩
      refine ⟨v.toNat, by congr 1; omega, by omega, by omega, s5 _ _ nqr upd_same, fun x _ z hz => ?_⟩
      have oz : z.length ≤ 4 ∧ Asc z := rep_ok z hz
      exact kk _ _ ((SameX.of t1).trans s5) R5 (repl_ok htl htx.asc oz.1 oz.2)
    rw [decide_eq_false (show ¬ V.int way = V.int 7 from fun z => e7 (V.int.inj z))]
    refine iteF ?_
    -- way 8
    refine ⟨_, rfl, rfl, _, rfl, ?_⟩
    by_cases e8 : way = 8
    · rw [decide_eq_true (show V.int way = V.int 8 by rw [e8])]
      refine iteT ?_
      refine ⟨by show 9 ≤ sizeLine; decide, fun q hq => ?_⟩
      have nrq : r ≠ q := fun z => by
        obtain ⟨x, y, q1, _⟩ := R4
        rw [← z, q1] at hq; cases hq
      generalize hG0 : upd H4 q (.lst [V.str "0", V.str "1 a", V.str "0 a", V.str "01", V.str "00", V.str "+1", V.str "-1", V.str "a b", V.str "2 3"]) = G0
      have t0 : Same H4 G0 := by rw [← hG0]; exact Same.new hq
      have g0 : G0 q = some (.lst (txs ["0", "1 a", "0 a", "01", "00", "+1", "-1", "a b", "2 3"])) := by rw [← hG0]; exact upd_same
      refine ⟨⟨plS, rfl⟩, _, rfl, _, rfl, _, rfl, l, _, rfl, SqL.of (t0 _ _ hl4), fun q1 hq1 => ?_⟩
      rw [cut_take ts d (by omega)]
      generalize hG1 : upd G0 q1 (.lst ((ts.take d).map V.str)) = G1
      have t1 : Same G0 G1 := by rw [← hG1]; exact Same.new hq1
      have g1 : G1 q1 = some (.lst ((ts.take d).map V.str)) := by rw [← hG1]; exact upd_same
      have nq1r : q1 ≠ r := fun z => by
        obtain ⟨x, y, q1', _⟩ := R4.same t0
        rw [z, q1'] at hq1; cases hq1
      refine ⟨_, rfl, _, rfl, r, q, txs ["0", "1 a", "0 a", "01", "00", "+1", "-1", "a b", "2 3"], rfl, R4.same (t0.trans t1), nrq, SqL.of (t1 _ _ g0), by show 1 ≤ 9; decide, by show 9 ≤ 1000; decide, fun x H5 s5 R5 hx => ?_⟩
      obtain ⟨z, hz, rfl⟩ := List.mem_map.mp hx
      have oz : z.length ≤ 18 ∧ Asc z := odd_ok z hz
      refine ⟨by show 1 ≤ sizeLine; decide, fun q2 hq2 => ?_⟩
      generalize hG2 : upd H5 q2 (.lst [.str z]) = G2
      have t2 : Same H5 G2 := by rw [← hG2]; exact Same.new hq2
      have g2 : G2 q2 = some (.lst ([z].map V.str)) := by rw [← hG2]; exact upd_same
      refine ⟨q1, q2, _, _, rfl, rfl, t2 _ _ (s5 _ _ nq1r g1), g2, sz_le (by rw [List.length_map, List.length_take]; show _ + 1 ≤ 100000; omega), fun q3 hq3 => ?_⟩
      rw [← List.map_append]
      have ok8 : OkL (ts.take d ++ [z]) := by
        refine ⟨by rw [List.length_append, List.length_take]; show _ + 1 ≤ 7; omega, fun t ht => ?_⟩
        rcases List.mem_append.mp ht with ht | ht
        · exact hk0.ok t (List.mem_of_mem_take ht)
        · rw [List.mem_singleton.mp ht]; exact oz
      have t3 := Same.new (o := .lst ((ts.take d ++ [z]).map V.str)) hq3
      exact ⟨plS, q3, _, rfl, rfl, .inl (SqL.of upd_same), ok8.fit, kk _ _ (((SameX.of (t0.trans t1)).trans s5).trans (SameX.of (t2.trans t3))) (R5.same (t2.trans t3)) ok8.txt⟩
    rw [decide_eq_false (show ¬ V.int way = V.int 8 from fun z => e8 (V.int.inj z))]
    refine iteF ?_
    -- way 9
    refine ⟨_, rfl, rfl, _, rfl, ?_⟩
    by_cases e9 : way = 9
    · rw [decide_eq_true (show V.int way = V.int 9 by rw [e9])]
      refine iteT ?_
      refine ⟨⟨plS, rfl⟩, _, rfl, _, rfl, _, rfl, l, _, rfl, SqL.of hl4, fun q1 hq1 => ?_⟩
      rw [cut_take ts d (by omega)]
      generalize hG1 : upd H4 q1 (.lst ((ts.take d).map V.str)) = G1
      have t1 : Same H4 G1 := by rw [← hG1]; exact Same.new hq1
      have g1 : G1 q1 = some (.lst ((ts.take d).map V.str)) := by rw [← hG1]; exact upd_same
      have nq1r : q1 ≠ r := fun z => by
        obtain ⟨x, y, q1', _⟩ := R4
        rw [z, q1'] at hq1; cases hq1
      refine ⟨_, rfl, r, _, rfl, R4.same t1, by omega, by omega, fun v H5 s5 R5 v0 v1 => ⟨_, _, rfl, rfl, ?_⟩⟩
      have hz : ∃ z : Str, Txt.mul ("z" : Str) (12 + v) = z ∧ MulOk ("z" : Str) (12 + v) ∧ z.length ≤ 18 ∧ Asc z := by
        have : v = 0 ∨ v = 1 := by omega
        rcases this with rfl | rfl
        · exact ⟨_, rfl, by unfold MulOk; decide +kernel, by decide +kernel, by unfold Asc; decide +kernel⟩
        · exact ⟨_, rfl, by unfold MulOk; decide +kernel, by decide +kernel, by unfold Asc; decide +kernel⟩
      obtain ⟨z, ez, mz, oz⟩ := hz
      refine ⟨("z" : Str), _, rfl, rfl, mz, ?_⟩
      rw [ez]
      refine ⟨by show 1 ≤ sizeLine; decide, fun q2 hq2 => ?_⟩
      generalize hG2 : upd H5 q2 (.lst [.str z]) = G2
      have t2 : Same H5 G2 := by rw [← hG2]; exact Same.new hq2
      have g2 : G2 q2 = some (.lst ([z].map V.str)) := by rw [← hG2]; exact upd_same
      refine ⟨q1, q2, _, _, rfl, rfl, t2 _ _ (s5 _ _ nq1r g1), g2, sz_le (by rw [List.length_map, List.length_take]; show _ + 1 ≤ 100000; omega), fun q3 hq3 => ?_⟩
      rw [← List.map_append]
      have ok9 : OkL (ts.take d ++ [z]) := by
        refine ⟨by rw [List.length_append, List.length_take]; show _ + 1 ≤ 7; omega, fun t ht => ?_⟩
        rcases List.mem_append.mp ht with ht | ht
        · exact hk0.ok t (List.mem_of_mem_take ht)
        · rw [List.mem_singleton.mp ht]; exact oz
      have t3 := Same.new (o := .lst ((ts.take d ++ [z]).map V.str)) hq3
      exact ⟨plS, q3, _, rfl, rfl, .inl (SqL.of upd_same), ok9.fit, kk _ _ (((SameX.of t1).trans s5).trans (SameX.of (t2.trans t3))) (R5.same (t2.trans t3)) ok9.txt⟩
    rw [decide_eq_false (show ¬ V.int way = V.int 9 from fun z => e9 (V.int.inj z))]
    refine iteF ?_
    -- way 10
    refine ⟨_, rfl, rfl, _, rfl, ?_⟩
    by_cases e10 : way = 10
    · rw [decide_eq_true (show V.int way = V.int 10 by rw [e10])]
      refine iteT ?_
      exact ⟨_, rfl, ⟨tx, rfl⟩, tx, rfl, rfl, by omega, kk _ _ (SameX.refl _ _) R4 (upper_ok htl htx.asc)⟩
    rw [decide_eq_false (show ¬ V.int way = V.int 10 from fun z => e10 (V.int.inj z))]
    refine iteF ?_
    -- way 11
    refine ⟨⟨plS, rfl⟩, _, rfl, l, _, rfl, SqL.of hl4, fun D hD => ?_⟩
    refine lc_it (walk_enum (xs := ts.map V.str)) (fun i Hx => Same H4 Hx ∧ ∃ us : List Str, Hx D = some (.lst (us.map V.str)) ∧ us.length ≤ i ∧ ∀ t ∈ us, t ∈ ts) ⟨Same.new hD, [], upd_same, Nat.le_refl _, fun t ht => by cases ht⟩ (fun i Hx _ z => SqL.of (z.1 _ _ hl4)) ?_ ?_
    · rintro i y Hx Hx' hi ⟨sx, us, hDx, hul, hus⟩ ⟨T1, x1, y1, rfl, hT1, rfl, e1, e2⟩
      rw [List.length_map] at hi
      have e1' : some (V.int (i : Nat)) = some x1 := e1
      have e2' : some (V.str ts[i]) = some y1 := by rw [← e2]; show _ = (ts.map V.str)[i]?; rw [List.getElem?_map, List.getElem?_eq_getElem hi]; rfl
      cases e1'
      cases e2'
      have sn : Same Hx (upd Hx T1 (.tup [.int (i : Nat), .str ts[i]])) := Same.new hT1
      refine ⟨T1, _, rfl, SqT.of upd_same, rfl, _, _, rfl, _, _, rfl, rfl, rfl, ?_⟩
      refine ⟨_, rfl, _, rfl, rfl, _, rfl, ?_⟩
      refine ite2 (fun _ => ?_) (fun _ => ⟨sx.trans sn, us, sn _ _ hDx, by omega, hus⟩)
      have hDn := sn _ _ hDx
      refine ⟨_, rfl, us.map V.str, hDn, sz_lt (by rw [List.length_map]; omega), ?_⟩
      refine ⟨Same.mut (sx.trans sn) hD, us ++ [ts[i]], by rw [upd_same, List.map_append]; rfl, by rw [List.length_append]; show us.length + 1 ≤ i + 1; omega, fun t ht => ?_⟩
      rcases List.mem_append.mp ht with ht | ht
      · exact hus t ht
      · rw [List.mem_singleton.mp ht]; exact List.getElem_mem hi
    · rintro Hx ⟨sx, us, hDx, hul, hus⟩
      rw [List.length_map] at hul
      have ok11 : OkL us := ⟨by omega, fun t ht => hk0.ok t (hus t ht)⟩
      exact ⟨plS, D, us, rfl, rfl, .inl (SqL.of hDx), ok11.fit, kk _ _ (SameX.of sx) (R4.same sx) ok11.txt⟩
end
end Q
set_option Elab.async false
set_option maxRecDepth 100000
set_option maxHeartbeats 4000000
namespace Q
open PySem L2 QR QM TL
theorem RngAt.some {H : Hp} {r : Addr} (h : RngAt H r) : ∃ o, H r = some o := by
  obtain ⟨x, y, h, _⟩ := h
  exact ⟨_, h⟩
theorem RngAt.upd {H : Hp} {r p : Addr} {o : HO} (h : RngAt H r) (hp : p ≠ r) : RngAt (upd H p o) r := by
  obtain ⟨x, y, h1, h2⟩ := h
  exact ⟨x, y, by rw [upd_ne hp.symm]; exact h1, h2⟩
theorem Dct.mono {lo q : Int} {N N' : List Str} {ws : Ws} (h : Dct lo q N ws) (s : ∀ n ∈ N, n ∈ N') : Dct lo q N' ws := ⟨h.nd, fun p hp => ⟨s _ (h.mem p hp).1, (h.mem p hp).2⟩⟩
theorem tt_nf {n : Nat} {p : Str × Int} (h : Gd n p) : 10 ∉ tl (tt p) := by
  unfold tt
  by_cases e : p.2 = 1
  · rw [if_pos e]; exact h.nm.free (by omega)
  · rw [if_neg e, tl_append, tl_append, tl_sp]
    intro z
    have hl := h.lo
    rcases List.mem_append.mp z with z | z
    · rcases List.mem_append.mp z with z | z
      · exact numS_free (by omega) (.inl (by omega)) z
      · simp at z
    · exact h.nm.free (by omega) z
theorem tms_nf {n : Nat} {ws : Ws} {c : Int} (h : Rep n ws c) : ∀ t ∈ tms ws c, 10 ∉ tl t := fun t ht => by
  unfold tms at ht
  rcases List.mem_append.mp ht with z | z
  · obtain ⟨p, hp, rfl⟩ := List.mem_map.mp z
    exact tt_nf (h.gd p hp)
  · by_cases e : c ≠ 0 ∨ ws = []
    · rw [if_pos e] at z
      rw [List.mem_singleton.mp z]
      exact numS_free h.c0 (.inl (by omega))
    · rw [if_neg e] at z; cases z
theorem txt_nf {n : Nat} {ws : Ws} {c : Int} (h : Rep n ws c) : 10 ∉ tl (txt ws c) := fun z => by
  unfold txt at z
  rw [join_eq, tl_join] at z
  rcases mem_of_joinL _ z with z | ⟨p, hp, hc⟩
  · revert z; decide +kernel
  · obtain ⟨t, ht, rfl⟩ := List.mem_map.mp hp
    exact tms_nf h t ht hc
theorem no_feed {t : Str} (h : 10 ∈ tl t) (n : Nat) : ∀ ws c, Rep n ws c → t ≠ txt ws c := fun _ _ r e => txt_nf r (e ▸ h)
theorem txt_len {n : Nat} (hn : n ≤ 13) {ws : Ws} {c : Int} (h : Rep n ws c) (h5 : ws.length ≤ 5) : (txt ws c).length ≤ 120 := by
  have h1 := tms_sum hn h
  have h2 := tms_count ws c
  have h3 : plS.length = 3 := by decide +kernel
  unfold txt
  rw [join_eq, join_len, h3]
  omega
theorem tms_fit {n : Nat} (hn : n ≤ 13) {ws : Ws} {c : Int} (h : Rep n ws c) (h5 : ws.length ≤ 5) : ((tms ws c).map (·.length)).sum + (tms ws c).length * plS.length ≤ 16777216 := by
  have h1 := tms_sum hn h
  have h2 := tms_count ws c
  have h3 : plS.length = 3 := by decide +kernel
  rw [h3]
  omega
theorem tms_each {n : Nat} (hn : n ≤ 13) {ws : Ws} {c : Int} (h : Rep n ws c) : ∀ t ∈ tms ws c, 1 ≤ t.length ∧ t.length ≤ 15 ∧ Asc t := fun t ht => by
  have ha := asc_tms h t ht
  unfold tms at ht
  rcases List.mem_append.mp ht with z | z
  · obtain ⟨p, hp, rfl⟩ := List.mem_map.mp z
    refine ⟨?_, tt_len hn (h.gd p hp), ha⟩
    unfold tt
    by_cases e : p.2 = 1
    · rw [if_pos e]; exact (h.gd p hp).nm.len.1
    · rw [if_neg e, app_len, app_len]
      have : spS.length = 1 := by decide +kernel
      omega
  · by_cases e : c ≠ 0 ∨ ws = []
    · rw [if_pos e] at z
      rw [List.mem_singleton.mp z] at ha ⊢
      have h1 := numS_len h.c0 (by have := h.c1; omega)
      refine ⟨?_, by omega, ha⟩
      obtain ⟨x, hx, _⟩ := numS_head h.c0
      have : 0 < (numS c).cps.size := (Array.getElem?_eq_some_iff.mp hx).1
      exact this
    · rw [if_neg e] at z; cases z
theorem dict_eq {q : Int} {N : List Str} {ws R : Ws} (h : Dct 1 q N ws) (h' : Dct 1 q N R) (e : ∀ n, wt ws n = wt R n) : (dk ws).length = (dk R).length ∧ ∀ p ∈ dk ws, valV (dk R) p.1 = some p.2 ∧ flatB p.2 = true := by
  have hp := h.same h' e
  refine ⟨by rw [dk_len, dk_len]; exact hp.length_eq, fun p hpm => ?_⟩
  obtain ⟨x, hx, rfl⟩ := List.mem_map.mp hpm
  refine ⟨?_, rfl⟩
  show valV (dk R) (Sum.inr x.1) = some (V.int x.2)
  rw [valV_dk, mem_lk h'.nd (hp.mem_iff.mp hx)]
  rfl
theorem dict_refl {ws : Ws} (h : (ws.map (·.1)).Nodup) : ∀ p ∈ dk ws, valV (dk ws) p.1 = some p.2 ∧ flatB p.2 = true := fun p hpm => by
  obtain ⟨x, hx, rfl⟩ := List.mem_map.mp hpm
  refine ⟨?_, rfl⟩
  show valV (dk ws) (Sum.inr x.1) = some (V.int x.2)
  rw [valV_dk, mem_lk h hx]
  rfl
abbrev nRi : List Str := ["_law_rng_here", "_law_q", "_law_weights", "_law_turn", "_law_name_here", "_law_constant", "_law_terms_here", "_law_one", "_law_text", "_law_due", "_law_values", "_law_value"]
theorem eqv_ints : ∀ l m : List Int, PyData.eqvAll (l.map .int) (m.map .int) = decide (l = m)
  | [], [] => rfl
  | [], _ :: _ => rfl
  | _ :: _, [] => rfl
  | a :: r, b :: t => by
    simp only [List.map_cons, PyData.eqvAll, PyData.eqv, eqv_ints r t]
    by_cases h : a = b <;> by_cases h2 : r = t <;> simp [h, h2]
section
variable {P : Program} {w : World} {K : PySem.W.Frag} {mg : Str → Option Value} {base : Heap}
theorem _root_.L2.TyX.same {K : PySem.W.Frag} {H H' : Hp} {v : V} {c : Value} (h : TyX K H v c) (s : Same H H') : TyX K H' v c := by
  cases h with
  | base b =>
    refine .base ?_
    cases b with
    | non => exact .non
    | bl x => exact .bl x
    | int i => exact .int i
    | str x => exact .str x
    | flt x => exact .flt x
    | lst e => exact .lst (s _ _ e)
    | frz e => exact .frz (s _ _ e)
    | tup e => exact .tup (s _ _ e)
    | dK e => exact .dK (s _ _ e)
    | dT e => exact .dT (s _ _ e)
    | ins e a1 a2 a3 a4 a5 => exact .ins (s _ _ e) a1 a2 a3 a4 a5
  | byt b => exact .byt b
  | set e => exact .set (s _ _ e)
  | kList e c => exact .kList e c
  | kTuple e c => exact .kTuple e c
  | kDict e c => exact .kDict e c
  | fTuple e => exact .fTuple (s _ _ e)
  | fDict e => exact .fDict (s _ _ e)
def spRight : Sp := fun xs H Q _ => ∃ r : Addr, xs = [.ref r] ∧ RngAt H r ∧ ∀ H', SameX r H H' → RngAt H' r → Q (.bl true) H'
theorem scRi : FnScope nRi ["_law_rng_here"] (defScope sLRight) := ⟨rfl, rfl, rfl, by decide +kernel, rfl, by decide +kernel, by decide +kernel⟩
/-- a value of another kind, or a text with a line feed -/
def Bad (K : PySem.W.Frag) (H : Hp) (v : V) : Prop := NotStr K H v ∨ ∃ t : Str, v = .str t ∧ t.length ≤ 170 ∧ 10 ∈ tl t
theorem ok_right (T : T4 K mg) (hns : PySem.W.kitOne K (.ref T.S) (.type "str") = some false) : FnOk P w K mg base CX0 9 T.right.f T.right.fd ["_law_rng_here"] spRight := by
  have GD : FnOk P w K mg base CX0 1 T.draw.f T.draw.fd ["_law_rng_here", "_law_many"] spDraw := ok_draw T
  have GCh : FnOk P w K mg base CX0 2 T.choice.f T.choice.fd ["_law_rng_here", "_law_some"] (spChoice K) := ok_choice T
  have GNm : FnOk P w K mg base CX0 2 T.name.f T.name.fd ["_law_rng_here"] spName := ok_name T
  have GTe : FnOk P w K mg base CX0 1 T.terms.f T.terms.fd ["_law_weights", "_law_constant"] spTerms := ok_terms T
  have GS : FnOk P w K mg base CX0 4 T.fI T.fdI psInit (spInit T.S) := ok_init T.toT2
  have GSt : FnOk P w K mg base CX0 2 T.str_.f T.str_.fd ["self"] (spStr T.S) := ok_str T.toT3
  have GTo : FnOk P w K mg base CX0 8 T.told.f T.told.fd ["_law_q", "_law_value"] (spTold K) := ok_told T
  have GSp : FnOk P w K mg base CX0 3 T.spoilt.f T.spoilt.fd ["_law_rng_here", "_law_terms_here", "_law_q"] spSpoilt := ok_spoilt T
  have GRd : FnOk P w K mg base CX0 2 T.read.f T.read.fd ["_law_text", "_law_q"] spRead := ok_read T
  have GMul : FnOk P w K mg base CX0 6 T.mul.f T.mul.fd ["self", "number"] (spMul T.S) := ok_mul T.toT3
  obtain ⟨fo, hi1⟩ := T.imul
  obtain ⟨ro, hi2⟩ := T.irmul
  refine T.right.F.ok scRi (fun vs H Q E h => ?_) (fun cdv A outer s H vs Q E hr h => ?_)
  · obtain ⟨r, rfl, _⟩ := h
    rfl
  · obtain ⟨r, rfl, hR, kk⟩ := h
    have hu := hu_of hr
    have hr1 : Room 1 _ := hr.mono (by decide)
    have hr2 : Room 2 _ := hr.mono (by decide)
    have hr3 : Room 3 _ := hr.mono (by decide)
    have hr4 : Room (2 + 2) _ := hr.mono (by decide)
    have hr5 : Room (4 + 1) _ := hr.mono (by decide)
    have hr6 : Room 6 _ := hr.mono (by decide)
    have hr8 : Room 8 _ := hr
    refine ⟨_, (pss_cons (ps_set (i := 1) scRi.nd rfl (Or.inr rfl) (pe_ix ix_list (pe_lst (pa_cons pe_int (pa_cons pe_int (pa_cons pe_int (pa_cons pe_int (pa_cons pe_int (pa_cons pe_int pa_nil))))))) (pe_call GD hr1 (by rfl) T.gDraw T.draw.kp T.draw.b .nil pass0 (pa_cons (pv 0) (pa_cons pe_int pa_nil))) (fun _ _ => rfl))) (pss_cons (ps_set (i := 2) scRi.nd rfl (Or.inl rfl) pe_dnewK) (pss_cons (ps_for PassesOwn.never rfl (pi_range1 (by rfl) T.B.range (pa_cons (pe_call GD hr1 (by rfl) T.gDraw T.draw.kp T.draw.b .nil pass0 (pa_cons (pv 0) (pa_cons pe_int pa_nil))) pa_nil)) (pg_name (i := 3) scRi.nd rfl (Or.inl rfl)) (pss_cons (ps_set (i := 4) scRi.nd rfl (Or.inl rfl) (pe_call GNm hr2 (by rfl) T.gName T.name.kp T.name.b .nil pass0 (pa_cons (pv 0) pa_nil))) (pss_one (ps_dput hu (pv 2) (pv 4) (pe_op op_add pe_int (pe_call GD hr1 (by rfl) T.gDraw T.draw.kp T.draw.b .nil pass0 (pa_cons (pv 0) (pa_cons (pe_op op_sub (pv 1) pe_int) pa_nil)))) rfl)))) (pss_cons (ps_set (i := 5) scRi.nd rfl (Or.inl rfl) (pe_call GCh hr2 (by rfl) T.gChoice T.choice.kp T.choice.b .nil pass0 (pa_cons (pv 0) (pa_cons (pe_lst (pa_cons pe_int (pa_cons (pe_call GD hr1 (by rfl) T.gDraw T.draw.kp T.draw.b .nil pass0 (pa_cons (pv 0) (pa_cons (pv 1) pa_nil))) pa_nil))) pa_nil)))) (pss_cons (ps_set (i := 6) scRi.nd rfl (Or.inl rfl) (pe_call GTe hr1 (by rfl) T.gTerms T.terms.kp T.terms.b .nil pass0 (pa_cons (pv 2) (pa_cons (pv 5) pa_nil)))) (pss_cons (ps_set (i := 7) scRi.nd rfl (Or.inl rfl) (pe_make T.MI GS hr5 rfl T.gS T.bI .nil pass0 (pa_cons (pv 1) (pa_cons (pv 2) (pa_cons (pv 5) pa_nil))))) (pss_cons (ps_if (PW.pt (pw_or (pt_cmpR op_ne (pe_callTy (cr_strOwn GSt hr4 T.str_.m.at_ T.str_.m.fn T.str_.b pass0) (by rfl) T.B.str (by decide +kernel) (pa_cons (pv 7) pa_nil)) (pe_join pe_str (pv 6)) (nomark _)) (pw_or (pt_cmpR (op_or (op_neTD hr.units) op_ne) (pe_call GTo hr8 (by rfl) T.gTold T.told.kp T.told.b .nil pass0 (pa_cons (pv 1) (pa_cons (pe_callTy (cr_strOwn GSt hr4 T.str_.m.at_ T.str_.m.fn T.str_.b pass0) (by rfl) T.B.str (by decide +kernel) (pa_cons (pv 7) pa_nil)) pa_nil))) (pe_tup (pa_cons (pv 2) (pa_cons (pv 5) pa_nil))) (nomark _)) (pw_or1 (pt_cmpR op_ne (pe_callTy (cr_strOwn GSt hr4 T.str_.m.at_ T.str_.m.fn T.str_.b pass0) (by rfl) T.B.str (by decide +kernel) (pa_cons (pv 7) pa_nil)) (pe_callTy (cr_strOwn GSt hr4 T.str_.m.at_ T.str_.m.fn T.str_.b pass0) (by rfl) T.B.str (by decide +kernel) (pa_cons (pe_op (op_ownI (op := .Mult) GMul hr6 T.sf T.mul.m.at_ T.mul.m.fn T.rmul (.inl rfl) hi1 hi2 T.isub T.mul.b pass0) (pv 7) pe_int) pa_nil)) (nomark _)))))) (pss_one (ps_ret pe_bl)) pss_nil) (pss_cons (ps_for PassesOwn.never rfl (pi_range1 (by rfl) T.B.range (pa_cons pe_int pa_nil)) (pg_name (i := 3) scRi.nd rfl (Or.inl rfl)) (pss_cons (ps_set (i := 8) scRi.nd rfl (Or.inl rfl) (pe_call GSp hr3 (by rfl) T.gSpoilt T.spoilt.kp T.spoilt.b .nil pass0 (pa_cons (pv 0) (pa_cons (pv 6) (pa_cons (pv 1) pa_nil))))) (pss_cons (ps_set (i := 9) scRi.nd rfl (Or.inl rfl) (pe_call GRd hr2 (by rfl) T.gRead T.read.kp T.read.b .nil pass0 (pa_cons (pv 8) (pa_cons (pv 1) pa_nil)))) (pss_one (ps_if (pt_cmpR (op_or (op_neTD hr.units) op_ne) (pe_call GTo hr8 (by rfl) T.gTold T.told.kp T.told.b .nil pass0 (pa_cons (pv 1) (pa_cons (pv 8) pa_nil))) (pe_ifExp (pt_cmpR op_isN (pv 9) pe_non (nomark _)) pe_int (pv 9)) (nomark _)) (pss_one (ps_ret pe_bl)) pss_nil))))) (pss_cons (ps_set (i := 10) scRi.nd rfl (Or.inl rfl) (pe_lst (pa_cons pe_non (pa_cons pe_int (pa_cons pe_int (pa_cons pe_bl (pa_cons (pe_lst pa_nil) (pa_cons (pe_lst (pa_cons pe_str pa_nil)) (pa_cons (pe_tup (pa_cons pe_str pa_nil)) (pa_cons pe_dnewK (pa_cons (pv 7) (pa_cons (pe_callTy (cr_listS rfl) (by rfl) T.B.list (by decide +kernel) (pa_cons (pe_callTy (cr_strOwn GSt hr4 T.str_.m.at_ T.str_.m.fn T.str_.b pass0) (by rfl) T.B.str (by decide +kernel) (pa_cons (pv 7) pa_nil)) pa_nil)) pa_nil)))))))))))) (pss_cons (ps_set (i := 10) scRi.nd rfl (Or.inl rfl) (pe_op op_cat (pv 10) (pe_lst (pa_cons (pe_op op_add_str (pe_callTy (cr_strOwn GSt hr4 T.str_.m.at_ T.str_.m.fn T.str_.b pass0) (by rfl) T.B.str (by decide +kernel) (pa_cons (pv 7) pa_nil)) pe_str) (pa_cons (pe_op op_add_str pe_str (pe_callTy (cr_strOwn GSt hr4 T.str_.m.at_ T.str_.m.fn T.str_.b pass0) (by rfl) T.B.str (by decide +kernel) (pa_cons (pv 7) pa_nil))) (pa_cons pe_str (pa_cons pe_str (pa_cons pe_str (pa_cons pe_str (pa_cons pe_str pa_nil)))))))))) (pss_one (ps_ret (pe_cmpR (op_eqD hr.units) (pe_lc (own := [("_law_value", 11)]) (g := (gName 11)) (tt := tYes) rfl scRi.nd (pi_list (pv 10)) (blkOk_by (own := [("_law_value", 11)]) (N := nRi) (sc := defScope sLRight) (by decide +kernel)) (fun _ _ _ _ _ => (pg_name (i := 11) scRi.nd rfl (Or.inl rfl))) (fun _ _ _ _ _ => pts_nil) (fun _ _ _ _ _ => (pe_call GTo hr8 (by rfl) T.gTold T.told.kp T.told.b .nil pass0 (pa_cons (pv 1) (pa_cons (pv 11) pa_nil))))) (pe_op op_rep (pe_lst (pa_cons pe_int pa_nil)) pe_int) (nomark _)))))))))))))), ?_⟩
    have nr : ∀ {Hx : Hp} {p : Addr}, RngAt Hx r → Hx p = none → p ≠ r := fun R h z => by
      obtain ⟨x, y, q1, _⟩ := R
      rw [z, q1] at h; cases h
    -- the modulus
    refine ⟨by show 6 ≤ sizeLine; decide, fun t0 ht0 => ?_⟩
    have nt0 : t0 ≠ r := nr hR ht0
    refine ⟨_, rfl, r, 6, rfl, hR.same (Same.new ht0), by omega, by omega, fun d0 Ha sa Ra hd0 hd1 => ?_⟩
    have hta := sa t0 _ nt0 upd_same
    have sXa : SameX r H Ha := (SameX.new ht0).trans sa
    obtain ⟨n, hqi, hq⟩ : ∃ n : Nat, atI [V.int 2, V.int 3, V.int 5, V.int 7, V.int 11, V.int 13] d0 = some (.int (n : Int)) ∧ IsMod (n : Int) := by
      have : d0 = 0 ∨ d0 = 1 ∨ d0 = 2 ∨ d0 = 3 ∨ d0 = 4 ∨ d0 = 5 := by omega
      rcases this with rfl | rfl | rfl | rfl | rfl | rfl
      · exact ⟨2, rfl, by unfold IsMod; decide⟩
      · exact ⟨3, rfl, by unfold IsMod; decide⟩
      · exact ⟨5, rfl, by unfold IsMod; decide⟩
      · exact ⟨7, rfl, by unfold IsMod; decide⟩
      · exact ⟨11, rfl, by unfold IsMod; decide⟩
      · exact ⟨13, rfl, by unfold IsMod; decide⟩
    refine ⟨t0, _, d0, .int (n : Int), rfl, rfl, SqL.of hta, hqi, ?_⟩
    have hq2 := hq.pos
    -- the weights
    refine fun W0 hW0 => ?_
    have sW : Same Ha (upd Ha W0 (.dK [])) := Same.new hW0
    have nWr : W0 ≠ r := nr Ra hW0
    have gW : upd Ha W0 (.dK []) W0 = some (.dK (dk [])) := upd_same
    generalize upd Ha W0 (.dK []) = Hb at sW gW
    have Rb := Ra.same sW
    have hW0H : H W0 = none := by
      obtain ⟨o, ho⟩ := Ra.some
      exact sXa.free ho hW0
    refine ⟨_, rfl, r, 6, rfl, Rb, by omega, by omega, fun m Hc sc Rc hm0 hm1 => ?_⟩
    refine ⟨m, rfl, by omega, by omega, for_it walk_range (fun i σ Hx => ∃ (v3 v4 : Option V) (N : List Str) (R : Ws), σ = [some (.ref r), some (.int (n : Int)), some (.ref W0), v3, v4, none, none, none, none, none, none, none] ∧ SameX r H Hx ∧ RngAt Hx r ∧ Hx W0 = some (.dK (dk R)) ∧ Dct 1 (n : Int) N R ∧ (∀ x ∈ N, IsNm x) ∧ N.length ≤ i)
      ⟨none, none, [], [], rfl, (sXa.trans (SameX.of sW)).trans sc, Rc, sc _ _ nWr gW, Dct.nil, (fun x hx => by cases hx), Nat.le_refl _⟩ (fun _ _ _ _ _ => True.intro) ?_ ?_⟩
    · rintro i y σ Hx Hx' hi ⟨v3, v4, N, R, rfl, sx, Rx, hWx, hD, hN, hNl⟩ ⟨rfl, rfl⟩
      refine ⟨_, rfl, r, rfl, Rx, fun z H1 s1 R1 hz => ?_⟩
      refine ⟨_, rfl, _, rfl, _, _, rfl, rfl, r, _, rfl, R1, by omega, by omega, fun v H2 s2 R2 hv0 hv1 => ⟨_, _, rfl, rfl, ?_⟩⟩
      have hW2 := s2 _ _ nWr (s1 _ _ nWr hWx)
      have hlen := hD.len
      refine ⟨_, rfl, _, rfl, W0, _, rfl, DPut.k (k := Sum.inr z) hW2 (sz_lt (by rw [dk_len]; omega)), ?_⟩
      rw [putK_dk]
      refine ⟨_, _, N ++ [z], putS R z (1 + v), rfl, SameX.mut ((sx.trans s1).trans s2) hW0H, R2.upd nWr, upd_same, ?_, ?_, ?_⟩
      · exact (Dct.mono hD fun x hx => List.mem_append_left _ hx).put (List.mem_append_right _ List.mem_cons_self) (by omega) (by omega)
      · intro x hx
        rcases List.mem_append.mp hx with hx | hx
        · exact hN x hx
        · rw [List.mem_singleton.mp hx]; exact hz
      · rw [List.length_append]; show N.length + 1 ≤ i + 1; omega
    · rintro σ Hx ⟨v3, v4, N, R, rfl, sx, Rx, hWx, hD, hNm, hNl⟩
      have hm5 : N.length ≤ 5 := by omega
      have hN : Nms N := ⟨by omega, hNm⟩
      -- the constant
      refine ⟨_, rfl, _, rfl, _, rfl, r, _, rfl, Rx, by omega, by omega, fun cv H1 s1 R1 hc0 hc1 => ?_⟩
      refine ⟨by show 2 ≤ sizeLine; decide, fun q hq0 => ?_⟩
      have nqr := nr R1 hq0
      refine ⟨r, q, _, rfl, R1.same (Same.new hq0), nqr.symm, SqL.of upd_same, by show 1 ≤ 2; decide, by show 2 ≤ 1000; decide, fun x H2 s2 R2 hx => ?_⟩
      obtain ⟨c, rfl, hcc0, hcc1⟩ : ∃ c : Int, x = .int c ∧ 0 ≤ c ∧ c < n := by
        simp only [List.mem_cons, List.not_mem_nil, or_false] at hx
        rcases hx with rfl | rfl
        · exact ⟨0, rfl, by omega, by omega⟩
        · exact ⟨cv, rfl, hc0, hc1⟩
      have s12 : SameX r Hx H2 := (s1.trans (SameX.new hq0)).trans s2
      have hW2 := s12 _ _ nWr hWx
      -- the terms
      refine ⟨_, rfl, _, rfl, W0, c, n, N, R, rfl, hW2, hD, hN, by omega, hcc0, hcc1, fun l ws H3 hl0 s3 hcan hwt hl => ?_⟩
      -- one
      refine ⟨_, rfl, _, rfl, _, rfl, fun x1 y1 nx1 ny1 nxy1 => ?_⟩
      have hW3 := s3 _ _ hW2
      refine ⟨x1, y1, W0, n, c, N, R, rfl, upd_same, by rw [upd_ne (ne_of_none hW3 nx1), upd_ne (ne_of_none hW3 ny1)]; exact hW3, hD.weak, hN, hq, hcc0, hcc1, fun us e1 H4 ne1 can1 wus1 sx1 sf1 kp1 => ⟨rfl, ?_⟩⟩
      have s4 : Same H3 H4 := Same.made nx1 ny1 kp1
      obtain rfl : us = ws := can1.uniq hcan fun m => by rw [wus1, hwt]
      have hone : SumAt T.S H4 x1 (n : Int) N us c := ⟨y1, e1, sx1, sf1, can1, hcc0, hcc1⟩
      have hrep := sumAt_rep hone hN
      have hul : us.length ≤ 5 := Nat.le_trans can1.d.len hm5
      have htl := txt_len (by omega) hrep hul
      -- str(one) != ..
      have R4 := (R2.same s3).same s4
      have hl4 := s4 _ _ hl
      have hW4 := s4 _ _ hW3
      have s04 : SameX r H H4 := (sx.trans s12).trans (SameX.of (s3.trans s4))
      refine ⟨_, rfl, x1, y1, _, rfl, sx1, x1, n, N, us, c, rfl, hone, hN, by omega, fun H5 s5 => ⟨⟨_, rfl⟩, ?_⟩⟩
      refine ⟨⟨plS, rfl⟩, _, rfl, plS, l, tms us c, rfl, rfl, .inl (SqL.of (s5 _ _ hl4)), tms_fit (by omega) hrep hul, ?_⟩
      refine ⟨rfl, _, rfl, ?_⟩
      rw [decide_eq_true (show V.str (txt us c) = V.str (Txt.join plS (tms us c)) from rfl)]
      refine iteF ?_
      -- told(str(one)) != (weights, constant)
      have hone5 := hone.same s5
      refine ⟨_, rfl, _, rfl, x1, y1, _, rfl, s5 _ _ sx1, x1, n, N, us, c, rfl, hone5, hN, by omega, fun H6 s6 => ⟨⟨_, rfl⟩, ?_⟩⟩
      refine ⟨n, _, rfl, hq, .inl ⟨txt us c, rfl, by omega, fun p d ws2 c2 H7 s7 hp0 hd0 g1 g2 rep2 et => ?_, fun no => absurd rfl (no us c hrep)⟩⟩
      obtain ⟨rfl, rfl⟩ := txt_inj hrep rep2 et
      refine ⟨_, rfl, _, rfl, by show 2 ≤ sizeLine; decide, fun t ht => ?_⟩
      have s8 := Same.new (o := .tup [.ref W0, .int c]) ht
      have g8 : upd H7 t (.tup [.ref W0, .int c]) t = some (.tup [.ref W0, .int c]) := upd_same
      generalize upd H7 t (.tup [.ref W0, .int c]) = H8 at s8 g8
      have s58 : Same H5 H8 := (s6.trans s7).trans s8
      have s48 : Same H4 H8 := s5.trans s58
      have hde := dict_eq can1.d hD wus1
      refine .inl ⟨p, t, d, W0, dk us, dk R, c, rfl, rfl, SqT.of (s8 _ _ g1), SqT.of g8, s8 _ _ g2, s48 _ _ hW4, hde.1, hde.2, ?_⟩
      refine ⟨_, rfl, iteF ?_⟩
      -- str(one) != str(one * 1)
      have hone8 := hone.same s48
      refine ⟨_, rfl, x1, y1, _, rfl, s48 _ _ sx1, x1, n, N, us, c, rfl, hone8, hN, by omega, fun H9 s9 => ⟨⟨_, rfl⟩, ?_⟩⟩
      have hone9 := hone8.same s9
      refine ⟨_, rfl, x1, y1, _, 1, rfl, rfl, s9 _ _ (s48 _ _ sx1), x1, n, N, us, c, 1, rfl, hone9, hN, hq, fun x2 us2 H10 nx2 s10 hs2 w2 => ?_⟩
      have ec : c * 1 % (n : Int) = c := by rw [Int.mul_one]; exact Int.emod_eq_of_lt hcc0 hcc1
      rw [ec] at hs2
      obtain ⟨y2, e2, sx2, sf2, can2, _⟩ := id hs2
      obtain rfl : us2 = us := can2.uniq can1 fun m => by
        rw [w2, Int.mul_one]
        have := can1.d.weak.wt0 (Int.le_refl 0) (by omega) m
        exact Int.emod_eq_of_lt this.1 this.2
      refine ⟨x2, y2, _, rfl, sx2, x2, n, N, us2, c, rfl, hs2, hN, by omega, fun H11 s11 => ⟨⟨_, rfl⟩, ?_⟩⟩
      refine ⟨rfl, _, rfl, ?_⟩
      rw [decide_eq_true (show V.str (txt us2 c) = V.str (txt us2 c) from rfl)]
      refine iteF ?_
      have s411 : Same H4 H11 := ((s48.trans s9).trans s10).trans s11
      have R11 := R4.same s411
      have hl11 := s411 _ _ hl4
      have hone11 := hone.same s411
      have s011 : SameX r H H11 := s04.trans (SameX.of s411)
      clear hone9 hone8 hone5
      obtain ⟨e11, g11⟩ : ∃ e11, H11 e11 = some (.dK (dk us2)) := ⟨_, s411 _ _ sf1⟩
      have nlr : l ≠ r := nr R2 hl0
      have nx1r : x1 ≠ r := nr (R2.same s3) nx1
      have ne1r : e1 ≠ r := fun z => by
        obtain ⟨x, y, q1, _⟩ := R4
        rw [z, q1] at sf1; cases sf1
      have keepS : ∀ {Hx : Hp}, SameX r H11 Hx → SumAt T.S Hx x1 (n : Int) N us2 c := fun sx => ⟨y1, e1, sx _ _ nx1r (s411 _ _ sx1), sx _ _ ne1r (s411 _ _ sf1), can1, hcc0, hcc1⟩
      have htc := tms_count us2 c
      have htp : 1 ≤ (tms us2 c).length := by
        have := tms_ne us2 c
        cases h : tms us2 c with
        | nil => exact absurd h this
        | cons a b => show 1 ≤ b.length + 1; omega
      -- the spoilt texts
      refine ⟨12, rfl, by decide, by decide, for_it walk_range (fun i σ Hx => ∃ (v3 v4 v8 v9 : Option V), σ = [some (.ref r), some (.int (n : Int)), some (.ref W0), v3, v4, some (.int c), some (.ref l), some (.ref x1), v8, v9, none, none] ∧ SameX r H11 Hx ∧ RngAt Hx r) ⟨_, _, none, none, rfl, SameX.refl _ _, R11⟩ (fun _ _ _ _ _ => True.intro) ?_ ?_⟩
      · rintro i y σ Hy Hy' hi ⟨v3, v4, v8, v9, rfl, sy, Ry⟩ ⟨rfl, rfl⟩
        refine ⟨_, rfl, _, rfl, _, rfl, r, l, n, tms us2 c, rfl, Ry, sy _ _ nlr hl11, htp, by omega, tms_each (by omega) hrep, by omega, by omega, fun z G1 t1 Q1 oz => ?_⟩
        refine ⟨_, rfl, _, rfl, z, n, rfl, by omega, by omega, oz.len, oz.asc, fun G2 t2 e => ?_, fun p d ws2 c2 G2 t2 hp hd e g1 g2 => ?_⟩
        · refine ⟨_, rfl, _, rfl, n, _, rfl, hq, .inl ⟨z, rfl, oz.len, fun p d ws3 c3 G3 _ _ _ _ _ rep3 et => ?_, fun _ G3 t3 => ?_⟩⟩
          · rw [et, rd_txt rep3] at e; cases e
          · refine ⟨_, rfl, rfl, _, rfl, iteT ?_⟩
            refine .inr ⟨rfl, _, rfl, iteF ?_⟩
            exact ⟨_, _, _, _, rfl, (sy.trans t1).trans (SameX.of (t2.trans t3)), Q1.same (t2.trans t3)⟩
        · obtain ⟨rep2, et2⟩ := rd_some (by omega) e
          refine ⟨_, rfl, _, rfl, n, _, rfl, hq, .inl ⟨z, rfl, oz.len, fun p3 d3 ws3 c3 G3 t3 hp3 hd3 g13 g23 rep3 et => ?_, fun no => absurd et2 (no ws2 c2 rep2)⟩⟩
          obtain ⟨rfl, rfl⟩ := txt_inj rep2 rep3 (et2.symm.trans et)
          refine ⟨_, rfl, rfl, _, rfl, iteF ?_⟩
          refine ⟨_, rfl, .inl ⟨p3, p, d3, d, dk ws2, dk ws2, c2, rfl, rfl, SqT.of g13, SqT.of (t3 _ _ g1), g23, t3 _ _ g2, rfl, dict_refl rep2.nd, ?_⟩⟩
          refine ⟨_, rfl, iteF ?_⟩
          exact ⟨_, _, _, _, rfl, (sy.trans t1).trans (SameX.of (t2.trans t3)), Q1.same (t2.trans t3)⟩
      · rintro σ Hy ⟨v3, v4, v8, v9, rfl, sy, Ry⟩
        have hS := keepS sy
        have hsx := sy _ _ nx1r (s411 _ _ sx1)
        -- the values
        refine ⟨by show 0 ≤ sizeLine; decide, fun a1 h1 => ?_⟩
        have u1 := Same.new (o := .lst []) h1
        have f1 : upd Hy a1 (.lst []) a1 = some (.lst []) := upd_same
        generalize upd Hy a1 (.lst []) = G1 at u1 f1
        refine ⟨by show 1 ≤ sizeLine; decide, fun a2 h2 => ?_⟩
        have u2 := Same.new (o := .lst [V.str "0"]) h2
        have f2 : upd G1 a2 (.lst [V.str "0"]) a2 = some (.lst [V.str "0"]) := upd_same
        generalize upd G1 a2 (.lst [V.str "0"]) = G2 at u2 f2
        refine ⟨by show 1 ≤ sizeLine; decide, fun a3 h3 => ?_⟩
        have u3 := Same.new (o := .tup [V.str "x"]) h3
        have f3 : upd G2 a3 (.tup [V.str "x"]) a3 = some (.tup [V.str "x"]) := upd_same
        generalize upd G2 a3 (.tup [V.str "x"]) = G3 at u3 f3
        refine fun a4 h4 => ?_
        have u4 := Same.new (o := .dK []) h4
        have f4 : upd G3 a4 (.dK []) a4 = some (.dK []) := upd_same
        generalize upd G3 a4 (.dK []) = G4 at u4 f4
        have v34 := u3.trans u4
        have v24 := u2.trans v34
        have v14 := u1.trans v24
        have hS4 := hS.same v14
        refine ⟨_, rfl, _, rfl, x1, y1, _, rfl, v14 _ _ hsx, x1, n, N, us2, c, rfl, hS4, hN, by omega, fun G5 u5 => ⟨⟨_, rfl⟩, ?_⟩⟩
        refine ⟨txt us2 c, rfl, sz_le (by have : (txt us2 c).cps.size = (txt us2 c).length := rfl; omega), fun a5 h5 => ?_⟩
        generalize hcs : ((txt us2 c).cps.toList.map fun c => V.str ⟨#[c]⟩) = cs
        have u6 := Same.new (o := .lst cs) h5
        have f5 : upd G5 a5 (.lst cs) a5 = some (.lst cs) := upd_same
        generalize upd G5 a5 (.lst cs) = G6 at u6 f5
        refine ⟨by show 10 ≤ sizeLine; decide, fun L1 hL1 => ?_⟩
        generalize hvs : [V.non, V.int 0, V.int 1, V.bl true, V.ref a1, V.ref a2, V.ref a3, V.ref a4, V.ref x1, V.ref a5] = vs1
        have u7 := Same.new (o := .lst vs1) hL1
        have f6 : upd G6 L1 (.lst vs1) L1 = some (.lst vs1) := upd_same
        generalize upd G6 L1 (.lst vs1) = G7 at u7 f6
        have v47 := (u5.trans u6).trans u7
        have v17 := v14.trans v47
        have lx : (txt us2 c).length ≤ 120 := htl
        refine ⟨_, rfl, _, rfl, x1, y1, _, rfl, v17 _ _ hsx, x1, n, N, us2, c, rfl, hS.same v17, hN, by omega, fun G8 u8 => ⟨⟨_, rfl⟩, ?_⟩⟩
        refine ⟨_, _, rfl, rfl, sz_le (by show (txt us2 c).length + 1 ≤ 100000; omega), ?_⟩
        have v18 := v17.trans u8
        refine ⟨_, rfl, x1, y1, _, rfl, v18 _ _ hsx, x1, n, N, us2, c, rfl, hS.same v18, hN, by omega, fun G9 u9 => ⟨⟨_, rfl⟩, ?_⟩⟩
        refine ⟨_, _, rfl, rfl, sz_le (by show 1 + (txt us2 c).length ≤ 100000; omega), ?_⟩
        refine ⟨by show 7 ≤ sizeLine; decide, fun L2 hL2 => ?_⟩
        generalize hts : [txt us2 c ++ ("\n" : Str), ("\n" : Str) ++ txt us2 c, "x\n", "x +\ny", "x\n+ y", "x + y\n", "x\ny"] = ts2
        have hts2 : [V.str (txt us2 c ++ ("\n" : Str)), V.str (("\n" : Str) ++ txt us2 c), V.str "x\n", V.str "x +\ny", V.str "x\n+ y", V.str "x + y\n", V.str "x\ny"] = ts2.map V.str := by rw [← hts]; rfl
        rw [hts2]
        have u10 := Same.new (o := .lst (ts2.map V.str)) hL2
        have f7 : upd G9 L2 (.lst (ts2.map V.str)) L2 = some (.lst (ts2.map V.str)) := upd_same
        have hl7 : ts2.length = 7 := by rw [← hts]; rfl
        have hl10 : vs1.length = 10 := by rw [← hvs]; rfl
        refine ⟨L1, L2, _, _, rfl, rfl, u10 _ _ (u9 _ _ (u8 _ _ f6)), f7, by rw [List.length_map, hl7, hl10]; decide, fun L3 hL3 => ?_⟩
        generalize upd G9 L2 (.lst (ts2.map V.str)) = G10 at u10 f7 hL3
        have u11 := Same.new (o := .lst (vs1 ++ ts2.map V.str)) hL3
        have f8 : upd G10 L3 (.lst (vs1 ++ ts2.map V.str)) L3 = some (.lst (vs1 ++ ts2.map V.str)) := upd_same
        generalize upd G10 L3 (.lst (vs1 ++ ts2.map V.str)) = G11 at u11 f8
        have v711 := ((u8.trans u9).trans u10).trans u11
        have v111 := v17.trans v711
        have bad : ∀ v ∈ vs1 ++ ts2.map V.str, Bad K G11 v := by
          intro v hv
          have v411 := v47.trans v711
          rcases List.mem_append.mp hv with hv | hv
          · left
            rw [← hvs] at hv
            simp only [List.mem_cons, List.not_mem_nil, or_false] at hv
            rcases hv with rfl | rfl | rfl | rfl | rfl | rfl | rfl | rfl | rfl | rfl
            · exact ⟨_, .base .non, kit_ty (by decide +kernel)⟩
            · exact ⟨_, .base (.int 0), kit_ty (by decide +kernel)⟩
            · exact ⟨_, .base (.int 1), kit_ty (by decide +kernel)⟩
            · exact ⟨_, .base (.bl true), kit_ty (by decide +kernel)⟩
            · exact ⟨_, .base (.lst (v411 _ _ (v24 _ _ f1))), kit_ty (by decide +kernel)⟩
            · exact ⟨_, .base (.lst (v411 _ _ (v34 _ _ f2))), kit_ty (by decide +kernel)⟩
            · exact ⟨_, .base (.tup (v411 _ _ (u4 _ _ f3))), kit_ty (by decide +kernel)⟩
            · exact ⟨_, .base (.dK (v411 _ _ f4)), kit_ty (by decide +kernel)⟩
            · exact ⟨_, T.ty (v111 _ _ hsx), hns⟩
            · exact ⟨_, .base (.lst (v711 _ _ (u7 _ _ f5))), kit_ty (by decide +kernel)⟩
          · right
            obtain ⟨t, ht, rfl⟩ := List.mem_map.mp hv
            rw [← hts] at ht
            have hfd : 10 ∈ tl ("\n" : Str) ∧ ("\n" : Str).length = 1 := by decide +kernel
            simp only [List.mem_cons, List.not_mem_nil, or_false] at ht
            rcases ht with rfl | rfl | rfl | rfl | rfl | rfl | rfl
            · exact ⟨_, rfl, by rw [app_len]; omega, by rw [tl_append]; exact List.mem_append_right _ hfd.1⟩
            · exact ⟨_, rfl, by rw [app_len]; omega, by rw [tl_append]; exact List.mem_append_left _ hfd.1⟩
            · exact ⟨_, rfl, by decide +kernel, by decide +kernel⟩
            · exact ⟨_, rfl, by decide +kernel, by decide +kernel⟩
            · exact ⟨_, rfl, by decide +kernel, by decide +kernel⟩
            · exact ⟨_, rfl, by decide +kernel, by decide +kernel⟩
            · exact ⟨_, rfl, by decide +kernel, by decide +kernel⟩
        have hl17 : (vs1 ++ ts2.map V.str).length = 17 := by rw [List.length_append, List.length_map, hl7, hl10]
        generalize vs1 ++ ts2.map V.str = vals at u11 f8 bad hl17
        -- [told(q, value) ..] == [1] * 17
        refine ⟨_, rfl, L3, rfl, ⟨_, SqL.of f8⟩, fun D hD => lc_map (walk_list (xs := vals)) (List.replicate 17 (.int 1)) (by rw [List.length_replicate, hl17]) (fun G s => SqL.of (s _ _ f8)) hD (by omega) (fun i x G G' hi s y P1 kp => ?_) fun G s hDG => ?_⟩
        · obtain ⟨rfl, hy⟩ := y
          refine ⟨rfl, ?_⟩
          have hm := List.mem_of_getElem? hy
          have go : ∀ H', Same G' H' → P1 (.int 1) H' := fun H' s' => kp _ _ (by rw [List.getElem?_replicate, if_pos (by omega)]) s'
          refine ⟨_, rfl, _, rfl, n, x, rfl, hq, ?_⟩
          rcases bad x hm with ⟨ct, ty, hk⟩ | ⟨t, rfl, ht, hf⟩
          · exact .inr ⟨⟨ct, ty.same s, hk⟩, go⟩
          · exact .inl ⟨t, rfl, ht, fun p d ws3 c3 G3 _ _ _ _ _ rep3 et => absurd et (no_feed hf n ws3 c3 rep3), fun _ => go⟩
        · refine ⟨by show 1 ≤ sizeLine; decide, fun b hb => ?_⟩
          refine ⟨b, 17, _, rfl, rfl, upd_same, by decide, by decide, by show 1 * 17 ≤ sizeLine; decide, fun b2 hb2 => ?_⟩
          have w1 := Same.new (o := .lst [V.int 1]) hb
          generalize upd G b (.lst [V.int 1]) = Ga at w1 hb2
          have w2 := Same.new (o := .lst (List.replicate (17 : Int).toNat [V.int 1]).flatten) hb2
          have f9 : upd Ga b2 (.lst (List.replicate (17 : Int).toNat [V.int 1]).flatten) b2 = some (.lst ((List.replicate 17 (1 : Int)).map V.int)) := upd_same
          have hDG' : G D = some (.lst ((List.replicate 17 (1 : Int)).map V.int)) := hDG
          have sfin : SameX r H11 (upd Ga b2 (.lst (List.replicate (17 : Int).toNat [V.int 1]).flatten)) := sy.trans (SameX.of (((v111.trans s).trans w1).trans w2))
          have Rfin := Ry.same (((v111.trans s).trans w1).trans w2)
          have f10 := w2 _ _ (w1 _ _ hDG')
          generalize upd Ga b2 (.lst (List.replicate (17 : Int).toNat [V.int 1]).flatten) = Gb at w2 f9 f10 sfin Rfin
          have dpa : ∀ ns : List Int, DpAll K Gb (ns.map V.int) (ns.map .int) := fun ns => by
            induction ns with
            | nil => exact .nil
            | cons a r ih => exact .cons (.int a) ih
          refine ⟨_, _, .lst (SqL.of f10) (dpa _), .lst (SqL.of f9) (dpa _), by decide +kernel, by decide +kernel, ?_⟩
          show Q (.bl (PyData.eqvAll ((List.replicate 17 (1 : Int)).map .int) ((List.replicate 17 (1 : Int)).map .int))) Gb
          rw [eqv_ints, decide_eq_true rfl]
          exact kk _ (s011.trans sfin) Rfin
end
end Q
set_option Elab.async false
set_option maxRecDepth 100000
set_option maxHeartbeats 4000000
namespace Q
open PySem L2 QR QM TL
abbrev nLaw : List Str := ["_law_script", "_law_k", "_law_rng_here", "_law_turn"]
section
variable {P : Program} {w : World} {K : PySem.W.Frag} {mg : Str → Option Value} {base : Heap}
/-! ### law -/
def spLaw (K : PySem.W.Frag) : Sp := fun vs H Q _ => ∃ (a : Addr) (ns : List Int), vs = [.ref a] ∧ SqL K H a (ns.map V.int) ∧ ns.length ≤ 63 ∧ ∀ H', Q (.bl true) H'
theorem scLaw : FnScope nLaw ["_law_script"] (defScope sLaw) := ⟨rfl, rfl, rfl, by decide +kernel, rfl, by decide +kernel, by decide +kernel⟩
theorem ok_law (T : T4 K mg) (hns : PySem.W.kitOne K (.ref T.S) (.type "str") = some false) (TW : FT K "law" "law" sLaw ["_law_script"]) : FnOk P w K mg base CX0 10 TW.f TW.fd ["_law_script"] (spLaw K) := by
  have GR : FnOk P w K mg base CX0 1 T.rng.f T.rng.fd ["_law_script", "_law_k"] (spRng K) := ok_rng T
  have GRi : FnOk P w K mg base CX0 9 T.right.f T.right.fd ["_law_rng_here"] spRight := ok_right T hns
  refine TW.F.ok scLaw (fun vs H Q E h => ?_) (fun cdv A outer s H vs Q E hr h => ?_)
  · obtain ⟨a, ns, rfl, _⟩ := h
    rfl
  · obtain ⟨a, ns, rfl, hS, hlen, kk⟩ := h
    have hr1 : Room 1 _ := hr.mono (by decide)
    refine ⟨_, (pss_cons (ps_for PassesOwn.never rfl (pi_range1 (by rfl) T.B.range (pa_cons (pe_callB (call_max2 rfl) (by rfl) T.B.max (by decide +kernel) (pa_cons pe_int (pa_cons (pe_callB (call_min2 rfl) (by rfl) T.B.min (by decide +kernel) (pa_cons pe_int (pa_cons (pe_callB call_len_seq (by rfl) T.B.len PySem.boot_len (pa_cons (pv 0) pa_nil)) pa_nil))) pa_nil))) pa_nil)) (pg_name (i := 1) scLaw.nd rfl (Or.inl rfl)) (pss_cons (ps_set (i := 2) scLaw.nd rfl (Or.inl rfl) (pe_call GR hr1 (by rfl) T.gRng T.rng.kp T.rng.b .nil pass0 (pa_cons (pv 0) (pa_cons (pv 1) pa_nil)))) (pss_one (ps_for PassesOwn.never rfl (pi_range1 (by rfl) T.B.range (pa_cons pe_int pa_nil)) (pg_name (i := 3) scLaw.nd rfl (Or.inl rfl)) (pss_one (ps_if (pt_not (pt_val (pe_call GRi hr (by rfl) T.gRight T.right.kp T.right.b .nil pass0 (pa_cons (pv 2) pa_nil)))) (pss_one (ps_ret pe_bl)) pss_nil)))))) (pss_one (ps_ret pe_bl))), ?_⟩
    refine ⟨_, rfl, a, _, rfl, .inl hS, 3, _, rfl, 1, _, rfl, ?_⟩
    rw [List.length_map]
    generalize hn : (if (if (ns.length : Int) < 3 then (ns.length : Int) else 3) > 1 then (if (ns.length : Int) < 3 then (ns.length : Int) else 3) else 1) = n
    have hn1 : 1 ≤ n ∧ n ≤ 3 := by
      rw [← hn]
      split <;> split <;> omega
    refine ⟨n, rfl, by omega, by omega, for_it walk_range (fun i σ H2 => ∃ (v1 v2 v3 : Option V), σ = [some (.ref a), v1, v2, v3] ∧ Same H H2) ⟨none, none, none, rfl, Same.refl _⟩ (fun _ _ _ _ _ => True.intro) ?_ ?_⟩
    · rintro i y σ H2 H2' hi ⟨v1, v2, v3, rfl, s2⟩ ⟨rfl, rfl⟩
      refine ⟨_, rfl, _, rfl, a, ns, _, rfl, s2.seq hS, by omega, by omega, fun r H3 hr3 s3 R3 => ?_⟩
      have hrH : H r = none := s2.free hr3
      refine ⟨4, rfl, by decide, by decide, for_it walk_range (fun j σ H4 => ∃ (v3 : Option V), σ = [some (.ref a), some (.int (0 + (i : Int))), some (.ref r), v3] ∧ Same H H4 ∧ RngAt H4 r) ⟨_, rfl, s2.trans s3, R3⟩ (fun _ _ _ _ _ => True.intro) ?_ ?_⟩
      · rintro j y σ H4 H4' hj ⟨v3, rfl, s4, R4⟩ ⟨rfl, rfl⟩
        refine ⟨_, rfl, r, rfl, R4, fun H5 s5 R5 => ⟨true, rfl, iteF ?_⟩⟩
        exact ⟨_, rfl, fun b o hb => s5 b o (ne_of_none hb hrH) (s4 b o hb), R5⟩
      · rintro σ H4 ⟨v3, rfl, s4, R4⟩
        exact ⟨_, _, _, rfl, s4⟩
    · rintro σ H2 ⟨v1, v2, v3, rfl, s2⟩
      exact kk H2
end
end Q
set_option Elab.async false
set_option maxRecDepth 100000
set_option maxHeartbeats 4000000
namespace Q
open PySem L2 QR QM
theorem kit_no {K : PySem.W.Frag} {S : Addr} (h : PySem.W.subIn K (.ref S) (.type "str") = some false) : PySem.W.kitOne K (.ref S) (.type "str") = some false := by
  have e1 : (Value.ref S == Value.type "str") = false := rfl
  have e2 : PySem.W.kitMeta "str" = true := by decide +kernel
  show (if (Value.ref S == Value.type "str") = true then some true else if PySem.W.kitMeta "str" = true then PySem.W.subIn K (.ref S) (.type "str") else none) = some false
  rw [e1, if_pos e2]
  exact h
theorem all_mk {l : PySem.W.OpenLaw} {w : World} {K : PySem.W.Frag} {h : Heap} {mg : Str → Option Value} {fa : Addr} (X : K.In h) (G : h.Ns mainGlobals mg) (hfa : mg "law" = some (.ref fa))
    {fa0 fa1 fa2 fa3 fa4 fa5 fa6 fa7 fa8 fa9 fa10 fa11 fa12 fa13 fa14 fa15 fa16 fa17 S fI DI fp0 op0 fm0 fm1 fm2 fP oP Er fE Qe am : Addr}
    {oda0 ana0 : Option Addr} {sla0 : Array (Option Value)} {oca0 kVa0 dca0 pma0 cda0 cta0 : Value}
    {oda1 ana1 : Option Addr} {sla1 : Array (Option Value)} {oca1 kVa1 dca1 pma1 cda1 cta1 : Value}
    {oda2 ana2 : Option Addr} {sla2 : Array (Option Value)} {oca2 kVa2 dca2 pma2 cda2 cta2 : Value}
    {oda3 ana3 : Option Addr} {sla3 : Array (Option Value)} {oca3 kVa3 dca3 pma3 cda3 cta3 : Value}
    {oda4 ana4 : Option Addr} {sla4 : Array (Option Value)} {oca4 kVa4 dca4 pma4 cda4 cta4 : Value}
    {oda5 ana5 : Option Addr} {sla5 : Array (Option Value)} {oca5 kVa5 dca5 pma5 cda5 cta5 : Value}
    {oda6 ana6 : Option Addr} {sla6 : Array (Option Value)} {oca6 kVa6 dca6 pma6 cda6 cta6 : Value}
    {oda7 ana7 : Option Addr} {sla7 : Array (Option Value)} {oca7 kVa7 dca7 pma7 cda7 cta7 : Value}
    {oda8 ana8 : Option Addr} {sla8 : Array (Option Value)} {oca8 kVa8 dca8 pma8 cda8 cta8 : Value}
    {oda9 ana9 : Option Addr} {sla9 : Array (Option Value)} {oca9 kVa9 dca9 pma9 cda9 cta9 : Value}
    {oda10 ana10 : Option Addr} {sla10 : Array (Option Value)} {oca10 kVa10 dca10 pma10 cda10 cta10 : Value}
    {oda11 ana11 : Option Addr} {sla11 : Array (Option Value)} {oca11 kVa11 dca11 pma11 cda11 cta11 : Value}
    {oda12 ana12 : Option Addr} {sla12 : Array (Option Value)} {oca12 kVa12 dca12 pma12 cda12 cta12 : Value}
    {oda13 ana13 : Option Addr} {sla13 : Array (Option Value)} {oca13 kVa13 dca13 pma13 cda13 cta13 : Value}
    {oda14 ana14 : Option Addr} {sla14 : Array (Option Value)} {oca14 kVa14 dca14 pma14 cda14 cta14 : Value}
    {oda15 ana15 : Option Addr} {sla15 : Array (Option Value)} {oca15 kVa15 dca15 pma15 cda15 cta15 : Value}
    {oda16 ana16 : Option Addr} {sla16 : Array (Option Value)} {oca16 kVa16 dca16 pma16 cda16 cta16 : Value}
    {oda17 ana17 : Option Addr} {sla17 : Array (Option Value)} {oca17 kVa17 dca17 pma17 cda17 cta17 : Value}
    {odI anI : Option Addr} {slI : Array (Option Value)} {ocI kVI dcI pmI cdI ctI : Value} {oI : Obj} {tI : Tok} {nI : Nat}
    {rsp0 : List Value}
    {odp0 anp0 : Option Addr} {slp0 : Array (Option Value)} {ocp0 kVp0 dcp0 pmp0 cdp0 ctp0 : Value}
    {odm0 anm0 : Option Addr} {slm0 : Array (Option Value)} {ocm0 kVm0 dcm0 pmm0 cdm0 ctm0 : Value}
    {odm1 anm1 : Option Addr} {slm1 : Array (Option Value)} {ocm1 kVm1 dcm1 pmm1 cdm1 ctm1 : Value}
    {odm2 anm2 : Option Addr} {slm2 : Array (Option Value)} {ocm2 kVm2 dcm2 pmm2 cdm2 ctm2 : Value}
    {fo ro : Option Value}
    {rsP : List Value}
    {odP anP : Option Addr} {slP : Array (Option Value)} {ocP kVP dcP pmP cdP ctP : Value}
    {nm qq : Str} {N0 : Addr} {bs : List Value} {sn : List Str} {sub : List Value} {ab : Bool} {col : Option Bool} {dd : Option Addr} {m0 m1 m2 m3 m5 : Option Value}
    {odE anE : Option Addr} {slE : Array (Option Value)} {ocE kVE dcE pmE cdE ctE : Value}
    {tl ts tn tp : Tok} {om : Obj} {t1 t2 t3 t4 t5 t6 : Tok} {nmm : Nat}
    (ga0 : PySem.W.nsIn K mainGlobals "is_integer" = some (some (.ref fa0)))
    (la0 : K.lookup fa0 = some ⟨oca0, oda0, .func (PySem.W.fnOf "is_integer" "is_integer" (defArgs sIsInteger) (defBody sIsInteger) (defScope sIsInteger) .none kVa0 dca0 pma0 ana0 cda0 cta0), sla0⟩)
    (ca0 : PySem.W.codeIn K cda0 "is_integer" = true)
    (ka0 : PySem.W.keepIn K (.ref fa0) = true)
    (ga1 : PySem.W.nsIn K mainGlobals "is_number" = some (some (.ref fa1)))
    (la1 : K.lookup fa1 = some ⟨oca1, oda1, .func (PySem.W.fnOf "is_number" "is_number" (defArgs sIsNumber) (defBody sIsNumber) (defScope sIsNumber) .none kVa1 dca1 pma1 ana1 cda1 cta1), sla1⟩)
    (ca1 : PySem.W.codeIn K cda1 "is_number" = true)
    (ka1 : PySem.W.keepIn K (.ref fa1) = true)
    (ga2 : PySem.W.nsIn K mainGlobals "is_name" = some (some (.ref fa2)))
    (la2 : K.lookup fa2 = some ⟨oca2, oda2, .func (PySem.W.fnOf "is_name" "is_name" (defArgs sIsName) (defBody sIsName) (defScope sIsName) .none kVa2 dca2 pma2 ana2 cda2 cta2), sla2⟩)
    (ca2 : PySem.W.codeIn K cda2 "is_name" = true)
    (ka2 : PySem.W.keepIn K (.ref fa2) = true)
    (ga3 : PySem.W.nsIn K mainGlobals "is_world" = some (some (.ref fa3)))
    (la3 : K.lookup fa3 = some ⟨oca3, oda3, .func (PySem.W.fnOf "is_world" "is_world" (defArgs sIsWorld) (defBody sIsWorld) (defScope sIsWorld) .none kVa3 dca3 pma3 ana3 cda3 cta3), sla3⟩)
    (ca3 : PySem.W.codeIn K cda3 "is_world" = true)
    (ka3 : PySem.W.keepIn K (.ref fa3) = true)
    (ga4 : PySem.W.nsIn K mainGlobals "want_modulus" = some (some (.ref fa4)))
    (la4 : K.lookup fa4 = some ⟨oca4, oda4, .func (PySem.W.fnOf "want_modulus" "want_modulus" (defArgs sWantModulus) (defBody sWantModulus) (defScope sWantModulus) .none kVa4 dca4 pma4 ana4 cda4 cta4), sla4⟩)
    (ca4 : PySem.W.codeIn K cda4 "want_modulus" = true)
    (ka4 : PySem.W.keepIn K (.ref fa4) = true)
    (ga5 : PySem.W.nsIn K mainGlobals "number_of" = some (some (.ref fa5)))
    (la5 : K.lookup fa5 = some ⟨oca5, oda5, .func (PySem.W.fnOf "number_of" "number_of" (defArgs sNumberOf) (defBody sNumberOf) (defScope sNumberOf) .none kVa5 dca5 pma5 ana5 cda5 cta5), sla5⟩)
    (ca5 : PySem.W.codeIn K cda5 "number_of" = true)
    (ka5 : PySem.W.keepIn K (.ref fa5) = true)
    (ga6 : PySem.W.nsIn K mainGlobals "term_text" = some (some (.ref fa6)))
    (la6 : K.lookup fa6 = some ⟨oca6, oda6, .func (PySem.W.fnOf "term_text" "term_text" (defArgs sTermText) (defBody sTermText) (defScope sTermText) .none kVa6 dca6 pma6 ana6 cda6 cta6), sla6⟩)
    (ca6 : PySem.W.codeIn K cda6 "term_text" = true)
    (ka6 : PySem.W.keepIn K (.ref fa6) = true)
    (ga7 : PySem.W.nsIn K mainGlobals "_law_rng" = some (some (.ref fa7)))
    (la7 : K.lookup fa7 = some ⟨oca7, oda7, .func (PySem.W.fnOf "_law_rng" "_law_rng" (defArgs sLRng) (defBody sLRng) (defScope sLRng) .none kVa7 dca7 pma7 ana7 cda7 cta7), sla7⟩)
    (ca7 : PySem.W.codeIn K cda7 "_law_rng" = true)
    (ka7 : PySem.W.keepIn K (.ref fa7) = true)
    (ga8 : PySem.W.nsIn K mainGlobals "_law_draw" = some (some (.ref fa8)))
    (la8 : K.lookup fa8 = some ⟨oca8, oda8, .func (PySem.W.fnOf "_law_draw" "_law_draw" (defArgs sLDraw) (defBody sLDraw) (defScope sLDraw) .none kVa8 dca8 pma8 ana8 cda8 cta8), sla8⟩)
    (ca8 : PySem.W.codeIn K cda8 "_law_draw" = true)
    (ka8 : PySem.W.keepIn K (.ref fa8) = true)
    (ga9 : PySem.W.nsIn K mainGlobals "_law_choice" = some (some (.ref fa9)))
    (la9 : K.lookup fa9 = some ⟨oca9, oda9, .func (PySem.W.fnOf "_law_choice" "_law_choice" (defArgs sLChoice) (defBody sLChoice) (defScope sLChoice) .none kVa9 dca9 pma9 ana9 cda9 cta9), sla9⟩)
    (ca9 : PySem.W.codeIn K cda9 "_law_choice" = true)
    (ka9 : PySem.W.keepIn K (.ref fa9) = true)
    (ga10 : PySem.W.nsIn K mainGlobals "_law_name" = some (some (.ref fa10)))
    (la10 : K.lookup fa10 = some ⟨oca10, oda10, .func (PySem.W.fnOf "_law_name" "_law_name" (defArgs sLName) (defBody sLName) (defScope sLName) .none kVa10 dca10 pma10 ana10 cda10 cta10), sla10⟩)
    (ca10 : PySem.W.codeIn K cda10 "_law_name" = true)
    (ka10 : PySem.W.keepIn K (.ref fa10) = true)
    (ga11 : PySem.W.nsIn K mainGlobals "_law_terms" = some (some (.ref fa11)))
    (la11 : K.lookup fa11 = some ⟨oca11, oda11, .func (PySem.W.fnOf "_law_terms" "_law_terms" (defArgs sLTerms) (defBody sLTerms) (defScope sLTerms) .none kVa11 dca11 pma11 ana11 cda11 cta11), sla11⟩)
    (ca11 : PySem.W.codeIn K cda11 "_law_terms" = true)
    (ka11 : PySem.W.keepIn K (.ref fa11) = true)
    (ga12 : PySem.W.nsIn K mainGlobals "_law_is_name" = some (some (.ref fa12)))
    (la12 : K.lookup fa12 = some ⟨oca12, oda12, .func (PySem.W.fnOf "_law_is_name" "_law_is_name" (defArgs sLIsName) (defBody sLIsName) (defScope sLIsName) .none kVa12 dca12 pma12 ana12 cda12 cta12), sla12⟩)
    (ca12 : PySem.W.codeIn K cda12 "_law_is_name" = true)
    (ka12 : PySem.W.keepIn K (.ref fa12) = true)
    (ga13 : PySem.W.nsIn K mainGlobals "_law_read" = some (some (.ref fa13)))
    (la13 : K.lookup fa13 = some ⟨oca13, oda13, .func (PySem.W.fnOf "_law_read" "_law_read" (defArgs sLRead) (defBody sLRead) (defScope sLRead) .none kVa13 dca13 pma13 ana13 cda13 cta13), sla13⟩)
    (ca13 : PySem.W.codeIn K cda13 "_law_read" = true)
    (ka13 : PySem.W.keepIn K (.ref fa13) = true)
    (ga14 : PySem.W.nsIn K mainGlobals "_law_spoilt" = some (some (.ref fa14)))
    (la14 : K.lookup fa14 = some ⟨oca14, oda14, .func (PySem.W.fnOf "_law_spoilt" "_law_spoilt" (defArgs sLSpoilt) (defBody sLSpoilt) (defScope sLSpoilt) .none kVa14 dca14 pma14 ana14 cda14 cta14), sla14⟩)
    (ca14 : PySem.W.codeIn K cda14 "_law_spoilt" = true)
    (ka14 : PySem.W.keepIn K (.ref fa14) = true)
    (ga15 : PySem.W.nsIn K mainGlobals "_law_told" = some (some (.ref fa15)))
    (la15 : K.lookup fa15 = some ⟨oca15, oda15, .func (PySem.W.fnOf "_law_told" "_law_told" (defArgs sLTold) (defBody sLTold) (defScope sLTold) .none kVa15 dca15 pma15 ana15 cda15 cta15), sla15⟩)
    (ca15 : PySem.W.codeIn K cda15 "_law_told" = true)
    (ka15 : PySem.W.keepIn K (.ref fa15) = true)
    (ga16 : PySem.W.nsIn K mainGlobals "_law_right" = some (some (.ref fa16)))
    (la16 : K.lookup fa16 = some ⟨oca16, oda16, .func (PySem.W.fnOf "_law_right" "_law_right" (defArgs sLRight) (defBody sLRight) (defScope sLRight) .none kVa16 dca16 pma16 ana16 cda16 cta16), sla16⟩)
    (ca16 : PySem.W.codeIn K cda16 "_law_right" = true)
    (ka16 : PySem.W.keepIn K (.ref fa16) = true)
    (ga17 : PySem.W.nsIn K mainGlobals "law" = some (some (.ref fa17)))
    (la17 : K.lookup fa17 = some ⟨oca17, oda17, .func (PySem.W.fnOf "law" "law" (defArgs sLaw) (defBody sLaw) (defScope sLaw) .none kVa17 dca17 pma17 ana17 cda17 cta17), sla17⟩)
    (ca17 : PySem.W.codeIn K cda17 "law" = true)
    (ka17 : PySem.W.keepIn K (.ref fa17) = true)
    (gS : PySem.W.nsIn K mainGlobals "Sum" = some (some (.ref S)))
    (pg : PySem.W.plainGet K S Str.empty = true)
    (hd : PySem.W.hasDictIn K S = true)
    (po : PySem.W.plainOver K S = true)
    (sa : PySem.W.findIn K (.ref S) "__setattr__" = some (some (.builtin "object.__setattr__")))
    (mk : PySem.W.makesIn K S = true)
    (kc : PySem.W.keepIn K (.ref S) = true)
    (nM : PySem.W.findIn K (.ref S) "own_modulus" = some none)
    (nW : PySem.W.findIn K (.ref S) "own_weights" = some none)
    (nC : PySem.W.findIn K (.ref S) "own_constant" = some none)
    (q1 : PySem.W.findIn K (.ref S) "__class__" = some (some (.builtin "object.__class__")))
    (q2 : PySem.W.specialIn K (.builtin "object.__class__") "__get__" = some (some (.builtin "getset_descriptor.__get__")))
    (q3 : PySem.W.takesIn K (.builtin "object.__class__") = some true)
    (q4 : PySem.W.mroIn K S (.type "object") = some true)
    (sf : PySem.W.selfFirst K S = true)
    (ns : PySem.W.subIn K (.ref S) (.type "str") = some false)
    (aI : PySem.W.findIn K (.ref S) "__init__" = some (some (.ref fI)))
    (iI : PySem.W.isFn K (.ref fI) = true)
    (lI : K.lookup fI = some ⟨ocI, odI, .func (PySem.W.fnOf "__init__" "Sum.__init__" (defArgs sInit) (defBody sInit) (defScope sInit) (.ref DI) kVI dcI pmI anI cdI ctI), slI⟩)
    (cI : PySem.W.codeIn K cdI "Sum.__init__" = true)
    (kI : PySem.W.keepIn K (.ref fI) = true)
    (dI : K.lookup DI = some oI)
    (eI : oI.data = .seq ([Value.int 0 tI] : List Value).toArray nI)
    (app0 : PySem.W.findIn K (.ref S) "constant" = some (some (.ref op0)))
    (bpp0 : PySem.W.specialIn K (.ref op0) "__get__" = some (some (.builtin "property.__get__")))
    (tpp0 : PySem.W.takesIn K (.ref op0) = some true)
    (rpp0 : PySem.W.recIn K op0 "property" = some (.ref fp0 :: rsp0))
    (lp0 : K.lookup fp0 = some ⟨ocp0, odp0, .func (PySem.W.fnOf "constant" "Sum.constant" (defArgs sConstant) (defBody sConstant) (defScope sConstant) .none kVp0 dcp0 pmp0 anp0 cdp0 ctp0), slp0⟩)
    (cp0 : PySem.W.codeIn K cdp0 "Sum.constant" = true)
    (kp0 : PySem.W.keepIn K (.ref fp0) = true)
    (amm0 : PySem.W.findIn K (.ref S) "weights" = some (some (.ref fm0)))
    (imm0 : PySem.W.isFn K (.ref fm0) = true)
    (lm0 : K.lookup fm0 = some ⟨ocm0, odm0, .func (PySem.W.fnOf "weights" "Sum.weights" (defArgs sWeights) (defBody sWeights) (defScope sWeights) .none kVm0 dcm0 pmm0 anm0 cdm0 ctm0), slm0⟩)
    (cm0 : PySem.W.codeIn K cdm0 "Sum.weights" = true)
    (km0 : PySem.W.keepIn K (.ref fm0) = true)
    (amm1 : PySem.W.findIn K (.ref S) "__mul__" = some (some (.ref fm1)))
    (imm1 : PySem.W.isFn K (.ref fm1) = true)
    (lm1 : K.lookup fm1 = some ⟨ocm1, odm1, .func (PySem.W.fnOf "__mul__" "Sum.__mul__" (defArgs sMul) (defBody sMul) (defScope sMul) .none kVm1 dcm1 pmm1 anm1 cdm1 ctm1), slm1⟩)
    (cm1 : PySem.W.codeIn K cdm1 "Sum.__mul__" = true)
    (km1 : PySem.W.keepIn K (.ref fm1) = true)
    (amm2 : PySem.W.findIn K (.ref S) "__str__" = some (some (.ref fm2)))
    (imm2 : PySem.W.isFn K (.ref fm2) = true)
    (lm2 : K.lookup fm2 = some ⟨ocm2, odm2, .func (PySem.W.fnOf "__str__" "Sum.__str__" (defArgs sStr) (defBody sStr) (defScope sStr) .none kVm2 dcm2 pmm2 anm2 cdm2 ctm2), slm2⟩)
    (cm2 : PySem.W.codeIn K cdm2 "Sum.__str__" = true)
    (km2 : PySem.W.keepIn K (.ref fm2) = true)
    (rmul : PySem.W.findIn K (.ref S) "__rmul__" = some none)
    (imul : PySem.W.findIn K (.type "int") "__mul__" = some fo)
    (irmul : PySem.W.findIn K (.type "int") "__rmul__" = some ro)
    (isub : PySem.W.subIn K (.type "int") (.ref S) = some false)
    (rdS : PySem.W.readsIn K S (.type "type") = true)
    (gaS : PySem.W.specialIn K (.ref S) "__getattribute__" = some (some (.builtin "type.__getattribute__")))
    (atP : PySem.W.findCls K (.ref S) (.type "type") "parse" = some (.get (.builtin "classmethod.__get__") (.ref oP) .none (.ref S)))
    (rcP : PySem.W.recIn K oP "classmethod" = some (.ref fP :: rsP))
    (fiP : PySem.W.fnIn K fP = true)
    (lP : K.lookup fP = some ⟨ocP, odP, .func (PySem.W.fnOf "parse" "Sum.parse" (defArgs sParse) (defBody sParse) (defScope sParse) .none kVP dcP pmP anP cdP ctP), slP⟩)
    (cP : PySem.W.codeIn K cdP "Sum.parse" = true)
    (kP : PySem.W.keepIn K (.ref fP) = true)
    (gEr : PySem.W.nsIn K mainGlobals "InvalidText" = some (some (.ref Er)))
    (gQe : PySem.W.nsIn K mainGlobals "QuietsumsError" = some (some (.ref Qe)))
    (xL : K.lookup Er = some (excClassObj nm qq Er N0 bs [.ref Qe, .type "ValueError", .type "Exception", .type "BaseException", .type "object"] true sn sub ab col dd m0 m1 m2 m3 m5 "ValueError.__new__"))
    (saE : PySem.W.findIn K (.ref Er) "__setattr__" = some (some (.builtin "object.__setattr__")))
    (exE : PySem.W.subIn K (.ref Er) (.type "BaseException") = some true)
    (tyE : PySem.W.typeIn K (.ref Er) = some (.type "type"))
    (kEr : PySem.W.keepIn K (.ref Er) = true)
    (gaE : PySem.W.findIn K (.ref Er) "__getattribute__" = some (some (.builtin "BaseException.__getattribute__")))
    (ggE : PySem.W.findIn K (.ref Er) "__getattr__" = some none)
    (hdE : PySem.W.hasDictIn K Er = true)
    (elE : PySem.W.findIn K (.ref Er) "line" = some none)
    (iE : PySem.W.findIn K (.ref Er) "__init__" = some (some (.ref fE)))
    (tE : PySem.W.typeIn K (.ref fE) = some (.type "function"))
    (lE : K.lookup fE = some ⟨ocE, odE, .func (PySem.W.fnOf "__init__" "InvalidText.__init__" (defArgs sTextInit) (defBody sTextInit) (defScope sTextInit) .none kVE dcE pmE anE cdE ctE), slE⟩)
    (cE : PySem.W.codeIn K cdE "InvalidText.__init__" = true)
    (kE : PySem.W.keepIn K (.ref fE) = true)
    (sbE : PySem.W.subIn K (.ref Er) (.ref Er) = some true)
    (rdQ : PySem.W.readsIn K Qe (.type "type") = true)
    (gaQ : PySem.W.specialIn K (.ref Qe) "__getattribute__" = some (some (.builtin "type.__getattribute__")))
    (qeI : PySem.W.findCls K (.ref Qe) (.type "type") "__init__" = some (.val (.builtin "ValueError.__init__")))
    (letters : PySem.W.nsIn K mainGlobals "LETTERS" = some (some (.str lettersS tl)))
    (signs : PySem.W.nsIn K mainGlobals "NAME_SIGNS" = some (some (.str signsS ts)))
    (longest : PySem.W.nsIn K mainGlobals "LONGEST_NAME" = some (some (.int 12 tn)))
    (plus : PySem.W.nsIn K mainGlobals "PLUS" = some (some (.str plS tp)))
    (mod1 : PySem.W.nsIn K mainGlobals "MODULI" = some (some (.ref am)))
    (mod2 : K.lookup am = some om)
    (mod3 : om.cls = .type "tuple")
    (mod4 : om.data = .seq #[Value.int 2 t1, Value.int 3 t2, Value.int 5 t3, Value.int 7 t4, Value.int 11 t5, Value.int 13 t6] nmm)
    (z_isinstance : PySem.W.nsIn K mainGlobals "isinstance" = some none)
    (z_int : PySem.W.nsIn K mainGlobals "int" = some none)
    (z_bool : PySem.W.nsIn K mainGlobals "bool" = some none)
    (z_str : PySem.W.nsIn K mainGlobals "str" = some none)
    (z_len : PySem.W.nsIn K mainGlobals "len" = some none)
    (z_all : PySem.W.nsIn K mainGlobals "all" = some none)
    (z_dict : PySem.W.nsIn K mainGlobals "dict" = some none)
    (z_list : PySem.W.nsIn K mainGlobals "list" = some none)
    (z_sorted : PySem.W.nsIn K mainGlobals "sorted" = some none)
    (z_max : PySem.W.nsIn K mainGlobals "max" = some none)
    (z_min : PySem.W.nsIn K mainGlobals "min" = some none)
    (z_abs : PySem.W.nsIn K mainGlobals "abs" = some none)
    (z_divmod : PySem.W.nsIn K mainGlobals "divmod" = some none)
    (z_range : PySem.W.nsIn K mainGlobals "range" = some none)
    (z_enumerate : PySem.W.nsIn K mainGlobals "enumerate" = some none) :
    ∃ fd : FuncData, (∀ (s : Shared) (v : Value), BindsTo s fd ⟨[v], []⟩ [("_law_script", v)]) ∧ ∀ base : Heap, K.In base → base.Ns mainGlobals mg → FnOk l.prog w K mg base CX0 10 fa fd ["_law_script"] (spLaw K) := by
  have e := hfa.symm.trans (PySem.W.mg_of X G ga17)
  cases e
  have Fa0 := fun_mk (st := sIsInteger) la0 ca0 ka0
  have ba0 := Fa0.binds (ps := ["value"]) fun _ _ _ _ _ _ us hl => match us, hl with | [_], _ => rfl
  have Fa1 := fun_mk (st := sIsNumber) la1 ca1 ka1
  have ba1 := Fa1.binds (ps := ["value", "modulus"]) fun _ _ _ _ _ _ us hl => match us, hl with | [_, _], _ => rfl
  have Fa2 := fun_mk (st := sIsName) la2 ca2 ka2
  have ba2 := Fa2.binds (ps := ["value"]) fun _ _ _ _ _ _ us hl => match us, hl with | [_], _ => rfl
  have Fa3 := fun_mk (st := sIsWorld) la3 ca3 ka3
  have ba3 := Fa3.binds (ps := ["value", "modulus"]) fun _ _ _ _ _ _ us hl => match us, hl with | [_, _], _ => rfl
  have Fa4 := fun_mk (st := sWantModulus) la4 ca4 ka4
  have ba4 := Fa4.binds (ps := ["value"]) fun _ _ _ _ _ _ us hl => match us, hl with | [_], _ => rfl
  have Fa5 := fun_mk (st := sNumberOf) la5 ca5 ka5
  have ba5 := Fa5.binds (ps := ["text", "modulus"]) fun _ _ _ _ _ _ us hl => match us, hl with | [_, _], _ => rfl
  have Fa6 := fun_mk (st := sTermText) la6 ca6 ka6
  have ba6 := Fa6.binds (ps := ["name", "weight"]) fun _ _ _ _ _ _ us hl => match us, hl with | [_, _], _ => rfl
  have Fa7 := fun_mk (st := sLRng) la7 ca7 ka7
  have ba7 := Fa7.binds (ps := ["_law_script", "_law_k"]) fun _ _ _ _ _ _ us hl => match us, hl with | [_, _], _ => rfl
  have Fa8 := fun_mk (st := sLDraw) la8 ca8 ka8
  have ba8 := Fa8.binds (ps := ["_law_rng_here", "_law_many"]) fun _ _ _ _ _ _ us hl => match us, hl with | [_, _], _ => rfl
  have Fa9 := fun_mk (st := sLChoice) la9 ca9 ka9
  have ba9 := Fa9.binds (ps := ["_law_rng_here", "_law_some"]) fun _ _ _ _ _ _ us hl => match us, hl with | [_, _], _ => rfl
  have Fa10 := fun_mk (st := sLName) la10 ca10 ka10
  have ba10 := Fa10.binds (ps := ["_law_rng_here"]) fun _ _ _ _ _ _ us hl => match us, hl with | [_], _ => rfl
  have Fa11 := fun_mk (st := sLTerms) la11 ca11 ka11
  have ba11 := Fa11.binds (ps := ["_law_weights", "_law_constant"]) fun _ _ _ _ _ _ us hl => match us, hl with | [_, _], _ => rfl
  have Fa12 := fun_mk (st := sLIsName) la12 ca12 ka12
  have ba12 := Fa12.binds (ps := ["_law_text"]) fun _ _ _ _ _ _ us hl => match us, hl with | [_], _ => rfl
  have Fa13 := fun_mk (st := sLRead) la13 ca13 ka13
  have ba13 := Fa13.binds (ps := ["_law_text", "_law_q"]) fun _ _ _ _ _ _ us hl => match us, hl with | [_, _], _ => rfl
  have Fa14 := fun_mk (st := sLSpoilt) la14 ca14 ka14
  have ba14 := Fa14.binds (ps := ["_law_rng_here", "_law_terms_here", "_law_q"]) fun _ _ _ _ _ _ us hl => match us, hl with | [_, _, _], _ => rfl
  have Fa15 := fun_mk (st := sLTold) la15 ca15 ka15
  have ba15 := Fa15.binds (ps := ["_law_q", "_law_value"]) fun _ _ _ _ _ _ us hl => match us, hl with | [_, _], _ => rfl
  have Fa16 := fun_mk (st := sLRight) la16 ca16 ka16
  have ba16 := Fa16.binds (ps := ["_law_rng_here"]) fun _ _ _ _ _ _ us hl => match us, hl with | [_], _ => rfl
  have Fa17 := fun_mk (st := sLaw) la17 ca17 ka17
  have ba17 := Fa17.binds (ps := ["_law_script"]) fun _ _ _ _ _ _ us hl => match us, hl with | [_], _ => rfl
  have Fp0 := fun_mk (st := sConstant) lp0 cp0 kp0
  have bp0 := Fp0.binds (ps := ["self"]) fun _ _ _ _ _ _ us hl => match us, hl with | [_], _ => rfl
  have Fm0 := fun_mk (st := sWeights) lm0 cm0 km0
  have bm0 := Fm0.binds (ps := ["self"]) fun _ _ _ _ _ _ us hl => match us, hl with | [_], _ => rfl
  have Fm1 := fun_mk (st := sMul) lm1 cm1 km1
  have bm1 := Fm1.binds (ps := ["self", "number"]) fun _ _ _ _ _ _ us hl => match us, hl with | [_, _], _ => rfl
  have Fm2 := fun_mk (st := sStr) lm2 cm2 km2
  have bm2 := Fm2.binds (ps := ["self"]) fun _ _ _ _ _ _ us hl => match us, hl with | [_], _ => rfl
  have FP := fun_mk (st := sParse) lP cP kP
  have bP := FP.binds (ps := ["cls", "modulus", "text"]) fun _ _ _ _ _ _ us hl => match us, hl with | [_, _, _], _ => rfl
  have FE := fun_mk (st := sTextInit) lE cE kE
  have bE := FE.binds (ps := ["self", "line"]) fun _ _ _ _ _ _ us hl => match us, hl with | [_, _], _ => rfl
  have FI : FunD K "__init__" "Sum.__init__" (defArgs sInit) (defBody sInit) (defScope sInit) [.int 0] [] fI _ := ⟨⟨ocI, odI, .ref DI, kVI, dcI, pmI, anI, cdI, ctI, slI, rfl, lI, cI, .inr ⟨by simp, DI, oI, [Value.int 0 tI], nI, rfl, dI, eI, .cons ⟨tI, rfl⟩ .nil⟩, .inl rfl⟩, kI⟩
  have bI4 := FI.binds1 (ps := psInit) 4 1 (by simp) rfl fun _ _ _ _ _ _ _ us its hl hi => match us, its, hl, hi with | [_, _, _, _], [_], _, _ => ⟨_, rfl, rfl⟩
  have bI3 := FI.binds1 (ps := psInit) 3 0 (by simp) rfl fun _ _ _ _ _ _ _ us its hl hi => match us, its, hl, hi with | [_, _, _], [_], _, _ => ⟨_, rfl, rfl⟩
  obtain ⟨ds, hv, bI4⟩ := bI4
  cases hv
  obtain ⟨T, hTS⟩ : ∃ T : T4 K mg, T.S = S := ⟨{
    isInteger := ⟨fa0, _, Fa0, ba0⟩,
    gIsInteger := PySem.W.mg_of X G ga0,
    isNumber := ⟨fa1, _, Fa1, ba1⟩,
    gIsNumber := PySem.W.mg_of X G ga1,
    isName := ⟨fa2, _, Fa2, ba2⟩,
    gIsName := PySem.W.mg_of X G ga2,
    isWorld := ⟨fa3, _, Fa3, ba3⟩,
    gIsWorld := PySem.W.mg_of X G ga3,
    wantModulus := ⟨fa4, _, Fa4, ba4⟩,
    gWantModulus := PySem.W.mg_of X G ga4,
    numberOf := ⟨fa5, _, Fa5, ba5⟩,
    gNumberOf := PySem.W.mg_of X G ga5,
    termText := ⟨fa6, _, Fa6, ba6⟩,
    gTermText := PySem.W.mg_of X G ga6,
    rng := ⟨fa7, _, Fa7, ba7⟩,
    gRng := PySem.W.mg_of X G ga7,
    draw := ⟨fa8, _, Fa8, ba8⟩,
    gDraw := PySem.W.mg_of X G ga8,
    choice := ⟨fa9, _, Fa9, ba9⟩,
    gChoice := PySem.W.mg_of X G ga9,
    name := ⟨fa10, _, Fa10, ba10⟩,
    gName := PySem.W.mg_of X G ga10,
    terms := ⟨fa11, _, Fa11, ba11⟩,
    gTerms := PySem.W.mg_of X G ga11,
    lisName := ⟨fa12, _, Fa12, ba12⟩,
    gLisName := PySem.W.mg_of X G ga12,
    read := ⟨fa13, _, Fa13, ba13⟩,
    gRead := PySem.W.mg_of X G ga13,
    spoilt := ⟨fa14, _, Fa14, ba14⟩,
    gSpoilt := PySem.W.mg_of X G ga14,
    told := ⟨fa15, _, Fa15, ba15⟩,
    gTold := PySem.W.mg_of X G ga15,
    right := ⟨fa16, _, Fa16, ba16⟩,
    gRight := PySem.W.mg_of X G ga16,
    B := ⟨PySem.W.mg_none_of X G z_isinstance, PySem.W.mg_none_of X G z_int, PySem.W.mg_none_of X G z_bool, PySem.W.mg_none_of X G z_str, PySem.W.mg_none_of X G z_len, PySem.W.mg_none_of X G z_all, PySem.W.mg_none_of X G z_dict, PySem.W.mg_none_of X G z_list, PySem.W.mg_none_of X G z_sorted, PySem.W.mg_none_of X G z_max, PySem.W.mg_none_of X G z_min, PySem.W.mg_none_of X G z_abs, PySem.W.mg_none_of X G z_divmod, PySem.W.mg_none_of X G z_range, PySem.W.mg_none_of X G z_enumerate⟩,
    C := ⟨⟨_, PySem.W.mg_of X G letters⟩, ⟨_, PySem.W.mg_of X G signs⟩, ⟨_, PySem.W.mg_of X G plus⟩, ⟨_, PySem.W.mg_of X G longest⟩, am, PySem.W.mg_of X G mod1, fun H => .inr ⟨om, _, nmm, mod2, mod3, mod4, by show 6 ≤ sizeLine; decide, .cons ⟨_, rfl⟩ (.cons ⟨_, rfl⟩ (.cons ⟨_, rfl⟩ (.cons ⟨_, rfl⟩ (.cons ⟨_, rfl⟩ (.cons ⟨_, rfl⟩ .nil)))))⟩⟩,
    S := S,
    gS := PySem.W.mg_of X G gS,
    cl := ⟨pg, hd, po, sa⟩,
    nM := nM,
    nW := nW,
    nC := nC,
    ha := q1,
    hn := q2,
    htk := q3,
    hm := q4,
    sf := sf,
    fI := fI,
    fdI := _,
    FI := FI,
    MI := ⟨mk, aI, iI, kc⟩,
    bI := bI4,
    bI0 := bI3,
    constant := { f := fp0, fd := _, F := Fp0, b := bp0, p := op0, pr := ⟨app0, bpp0, tpp0, _, rpp0⟩ },
    weights := { f := fm0, fd := _, F := Fm0, b := bm0, m := ⟨amm0, imm0, km0⟩ },
    mul := { f := fm1, fd := _, F := Fm1, b := bm1, m := ⟨amm1, imm1, km1⟩ },
    str_ := { f := fm2, fd := _, F := Fm2, b := bm2, m := ⟨amm2, imm2, km2⟩ },
    rmul := rmul,
    imul := ⟨fo, imul⟩,
    irmul := ⟨ro, irmul⟩,
    isub := isub,
    parse := ⟨fP, _, FP, bP⟩,
    pp := oP,
    mc := .type "type",
    cr := ⟨rdS, gaS⟩,
    cm := ⟨atP, ⟨_, rcP⟩, fiP⟩,
    Er := Er,
    gEr := PySem.W.mg_of X G gEr,
    erC := ⟨⟨_, _, _, _, _, _, _, _, _, _, _, _, _, _, _, xL, rfl⟩, saE, exE, tyE, kEr⟩,
    erX := ⟨gaE, ggE, exE, hdE⟩,
    erL := elE,
    erI := ⟨fE, _, FE, bE⟩,
    erF := iE,
    erT := tE,
    erM := PySem.W.exm_ref exE hdE tyE sbE,
    Qe := Qe,
    gQe := PySem.W.mg_of X G gQe,
    qeR := ⟨rdQ, gaQ⟩,
    qeI := qeI }, rfl⟩
  have hns : PySem.W.kitOne K (.ref T.S) (.type "str") = some false := by rw [hTS]; exact kit_no ns
  exact ⟨_, fun s v => .of_eq rfl, fun base _ _ => ok_law T hns ⟨fa, _, Fa17, ba17⟩⟩
theorem walk {l : PySem.W.OpenLaw} {q : Program} {loose : List Str} {XP : (Str → Option Value) → Heap → Prop} {YP : World → Heap → Prop} {d : DefRec} {K : Params → PySem.W.Frag} (hn : l.most = some 63) (hdf : d.params.defaults = [])
    (hY : ∀ (w : World) (h : Heap), YP w h → (K w.params).In h)
    (F : ∀ (w : World) (mg : Str → Option Value) (fa : Addr) (h : Heap), (K w.params).In h → h.Ns mainGlobals mg → mg d.name = some (.ref fa) →
      ∃ fd : FuncData, (∀ (s : Shared) (u : Value), BindsTo s fd ⟨[u], []⟩ [("_law_script", u)]) ∧ ∀ base : Heap, (K w.params).In base → base.Ns mainGlobals mg → FnOk l.prog w (K w.params) mg base CX0 10 fa fd ["_law_script"] (spLaw (K w.params))) :
    PySem.W.WalkO q loose XP YP l.row.toRowW d [] (fun f vs => PySem.call f vs) :=
  L2.walk_of (n := 63) (k := 10) (x := "_law_script") (CX := fun _ => CX0) (sp := fun w => spLaw (K w.params)) hn (by decide) hdf ⟨rfl, by decide, by decide⟩ hY F (fun _ _ a ns hl _ hS => ⟨a, ns, rfl, hS, hl, fun _ => rfl⟩) fun _ _ _ _ _ z => z
end Q
set_option Elab.async false
set_option maxRecDepth 100000
open PySem PySem.W PyProof.Rows
set_option maxRecDepth 100000 in
set_option maxHeartbeats 0 in
theorem PySem.Challenge.cw_quietsums_k12_texts_of_sums_holds : PySem.Challenge.rw_quietsums_k12_texts_of_sums.Holds := by
  w_on; o_law; k_head; (case hw => w_witness2)
  k_fill
  refine Q.walk (l := PySem.Challenge.rw_quietsums_k12_texts_of_sums) rfl rfl (fun w h Y => PySem.W.kIn_of Y) ?F
  case F =>
    intro w mg fa h KX G hmg
    refine' Q.all_mk KX G hmg ?x_ga0 ?x_la0 ?x_ca0 ?x_ka0 ?x_ga1 ?x_la1 ?x_ca1 ?x_ka1 ?x_ga2 ?x_la2 ?x_ca2 ?x_ka2 ?x_ga3 ?x_la3 ?x_ca3 ?x_ka3 ?x_ga4 ?x_la4 ?x_ca4 ?x_ka4 ?x_ga5 ?x_la5 ?x_ca5 ?x_ka5 ?x_ga6 ?x_la6 ?x_ca6 ?x_ka6 ?x_ga7 ?x_la7 ?x_ca7 ?x_ka7 ?x_ga8 ?x_la8 ?x_ca8 ?x_ka8 ?x_ga9 ?x_la9 ?x_ca9 ?x_ka9 ?x_ga10 ?x_la10 ?x_ca10 ?x_ka10 ?x_ga11 ?x_la11 ?x_ca11 ?x_ka11 ?x_ga12 ?x_la12 ?x_ca12 ?x_ka12 ?x_ga13 ?x_la13 ?x_ca13 ?x_ka13 ?x_ga14 ?x_la14 ?x_ca14 ?x_ka14 ?x_ga15 ?x_la15 ?x_ca15 ?x_ka15 ?x_ga16 ?x_la16 ?x_ca16 ?x_ka16 ?x_ga17 ?x_la17 ?x_ca17 ?x_ka17 ?x_gS ?x_pg ?x_hd ?x_po ?x_sa ?x_mk ?x_kc ?x_nM ?x_nW ?x_nC ?x_q1 ?x_q2 ?x_q3 ?x_q4 ?x_sf ?x_ns ?x_aI ?x_iI ?x_lI ?x_cI ?x_kI ?x_dI ?x_eI ?x_app0 ?x_bpp0 ?x_tpp0 ?x_rpp0 ?x_lp0 ?x_cp0 ?x_kp0 ?x_amm0 ?x_imm0 ?x_lm0 ?x_cm0 ?x_km0 ?x_amm1 ?x_imm1 ?x_lm1 ?x_cm1 ?x_km1 ?x_amm2 ?x_imm2 ?x_lm2 ?x_cm2 ?x_km2 ?x_rmul ?x_imul ?x_irmul ?x_isub ?x_rdS ?x_gaS ?x_atP ?x_rcP ?x_fiP ?x_lP ?x_cP ?x_kP ?x_gEr ?x_gQe ?x_xL ?x_saE ?x_exE ?x_tyE ?x_kEr ?x_gaE ?x_ggE ?x_hdE ?x_elE ?x_iE ?x_tE ?x_lE ?x_cE ?x_kE ?x_sbE ?x_rdQ ?x_gaQ ?x_qeI ?x_letters ?x_signs ?x_longest ?x_plus ?x_mod1 ?x_mod2 ?x_mod3 ?x_mod4 ?x_z_isinstance ?x_z_int ?x_z_bool ?x_z_str ?x_z_len ?x_z_all ?x_z_dict ?x_z_list ?x_z_sorted ?x_z_max ?x_z_min ?x_z_abs ?x_z_divmod ?x_z_range ?x_z_enumerate
    (case x_ga0 => k_is)
    (case x_la0 => k_is)
    (case x_ca0 => k_is)
    (case x_ka0 => k_is)
    (case x_ga1 => k_is)
    (case x_la1 => k_is)
    (case x_ca1 => k_is)
    (case x_ka1 => k_is)
    (case x_ga2 => k_is)
    (case x_la2 => k_is)
    (case x_ca2 => k_is)
    (case x_ka2 => k_is)
    (case x_ga3 => k_is)
    (case x_la3 => k_is)
    (case x_ca3 => k_is)
    (case x_ka3 => k_is)
    (case x_ga4 => k_is)
    (case x_la4 => k_is)
    (case x_ca4 => k_is)
    (case x_ka4 => k_is)
    (case x_ga5 => k_is)
    (case x_la5 => k_is)
    (case x_ca5 => k_is)
    (case x_ka5 => k_is)
    (case x_ga6 => k_is)
    (case x_la6 => k_is)
    (case x_ca6 => k_is)
    (case x_ka6 => k_is)
    (case x_ga7 => k_is)
    (case x_la7 => k_is)
    (case x_ca7 => k_is)
    (case x_ka7 => k_is)
    (case x_ga8 => k_is)
    (case x_la8 => k_is)
    (case x_ca8 => k_is)
    (case x_ka8 => k_is)
    (case x_ga9 => k_is)
    (case x_la9 => k_is)
    (case x_ca9 => k_is)
    (case x_ka9 => k_is)
    (case x_ga10 => k_is)
    (case x_la10 => k_is)
    (case x_ca10 => k_is)
    (case x_ka10 => k_is)
    (case x_ga11 => k_is)
    (case x_la11 => k_is)
    (case x_ca11 => k_is)
    (case x_ka11 => k_is)
    (case x_ga12 => k_is)
    (case x_la12 => k_is)
    (case x_ca12 => k_is)
    (case x_ka12 => k_is)
    (case x_ga13 => k_is)
    (case x_la13 => k_is)
    (case x_ca13 => k_is)
    (case x_ka13 => k_is)
    (case x_ga14 => k_is)
    (case x_la14 => k_is)
    (case x_ca14 => k_is)
    (case x_ka14 => k_is)
    (case x_ga15 => k_is)
    (case x_la15 => k_is)
    (case x_ca15 => k_is)
    (case x_ka15 => k_is)
    (case x_ga16 => k_is)
    (case x_la16 => k_is)
    (case x_ca16 => k_is)
    (case x_ka16 => k_is)
    (case x_ga17 => k_is)
    (case x_la17 => k_is)
    (case x_ca17 => k_is)
    (case x_ka17 => k_is)
    (case x_gS => k_is)
    (case x_pg => k_is)
    (case x_hd => k_is)
    (case x_po => k_is)
    (case x_sa => k_is)
    (case x_mk => k_is)
    (case x_kc => k_is)
    (case x_nM => k_is)
    (case x_nW => k_is)
    (case x_nC => k_is)
    (case x_q1 => k_is)
    (case x_q2 => k_is)
    (case x_q3 => k_is)
    (case x_q4 => k_is)
    (case x_sf => k_is)
    (case x_ns => k_is)
    (case x_aI => k_is)
    (case x_iI => k_is)
    (case x_lI => k_is)
    (case x_cI => k_is)
    (case x_kI => k_is)
    (case x_dI => k_is)
    (case x_eI => rfl)
    (case x_app0 => k_is)
    (case x_bpp0 => k_is)
    (case x_tpp0 => k_is)
    (case x_rpp0 => k_is)
    (case x_lp0 => k_is)
    (case x_cp0 => k_is)
    (case x_kp0 => k_is)
    (case x_amm0 => k_is)
    (case x_imm0 => k_is)
    (case x_lm0 => k_is)
    (case x_cm0 => k_is)
    (case x_km0 => k_is)
    (case x_amm1 => k_is)
    (case x_imm1 => k_is)
    (case x_lm1 => k_is)
    (case x_cm1 => k_is)
    (case x_km1 => k_is)
    (case x_amm2 => k_is)
    (case x_imm2 => k_is)
    (case x_lm2 => k_is)
    (case x_cm2 => k_is)
    (case x_km2 => k_is)
    (case x_rmul => k_is)
    (case x_imul => k_is)
    (case x_irmul => k_is)
    (case x_isub => k_is)
    (case x_rdS => k_is)
    (case x_gaS => k_is)
    (case x_atP => k_is)
    (case x_rcP => k_is)
    (case x_fiP => k_is)
    (case x_lP => k_is)
    (case x_cP => k_is)
    (case x_kP => k_is)
    (case x_gEr => k_is)
    (case x_gQe => k_is)
    (case x_xL => k_is)
    (case x_saE => k_is)
    (case x_exE => k_is)
    (case x_tyE => k_is)
    (case x_kEr => k_is)
    (case x_gaE => k_is)
    (case x_ggE => k_is)
    (case x_hdE => k_is)
    (case x_elE => k_is)
    (case x_iE => k_is)
    (case x_tE => k_is)
    (case x_lE => k_is)
    (case x_cE => k_is)
    (case x_kE => k_is)
    (case x_sbE => k_is)
    (case x_rdQ => k_is)
    (case x_gaQ => k_is)
    (case x_qeI => k_is)
    (case x_letters => k_is)
    (case x_signs => k_is)
    (case x_longest => k_is)
    (case x_plus => k_is)
    (case x_mod1 => k_is)
    (case x_mod2 => k_is)
    (case x_mod3 => rfl)
    (case x_mod4 => rfl)
    (case x_z_isinstance => k_is)
    (case x_z_int => k_is)
    (case x_z_bool => k_is)
    (case x_z_str => k_is)
    (case x_z_len => k_is)
    (case x_z_all => k_is)
    (case x_z_dict => k_is)
    (case x_z_list => k_is)
    (case x_z_sorted => k_is)
    (case x_z_max => k_is)
    (case x_z_min => k_is)
    (case x_z_abs => k_is)
    (case x_z_divmod => k_is)
    (case x_z_range => k_is)
    (case x_z_enumerate => k_is)
