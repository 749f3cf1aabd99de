import PyProof.Rows.All
import Wide.All
import OpenK.AllK
import Wide.FinOn
import HandS.ForMost
import HandS.Codes
import HandS.Conv
import HandS.IsInst
import HandS.Finally
import HandS.Wide
import HandS.Sort
import KE.KEqDict
import HandS.More
import HandS.CallRecv
import HandS.TupLen
import PySem.Challenge.RW_outlast_k71_each_order_once
set_option Elab.async false
set_option maxRecDepth 100000
set_option maxHeartbeats 16000000
namespace OW
open PySem L2
structure Deed where
  run : Int
  tick : Int
  work : Str
  worth : Option Int
  ans : Option Int
  deriving DecidableEq
inductive Tr where
  | cnt
  | sum (n : Int)
def oV : Option Int → V
  | none => .non
  | some i => .int i
def oD : Option Int → PyData
  | none => .none
  | some i => .int i
def clamp (n : Int) : Int := if (if n < 1000000000 then n else 1000000000) > 0 - 1000000000 then (if n < 1000000000 then n else 1000000000) else 0 - 1000000000
theorem clamp_id {n : Int} (h1 : -1000000000 ≤ n) (h2 : n ≤ 1000000000) : clamp n = n := by
  unfold clamp
  split <;> split <;> omega
def cntOf (ds : List Deed) (w : Str) : Nat := (ds.filter fun d => decide (d.work = w)).length
theorem cntOf_le (ds : List Deed) (w : Str) : cntOf ds w ≤ ds.length := List.length_filter_le _ _
def made (tr : Str → Option Tr) (ds : List Deed) (w : Str) (worth : Option Int) : Option Int :=
  match tr w with
  | none => none
  | some .cnt => some (1 + (cntOf ds w : Int))
  | some (.sum n) => some (clamp (worth.getD 0 + n))
def isKey (i j : Int) (d : Deed) : Bool := decide (d.run = i) && decide (d.tick = j)
def seek (ds : List Deed) (i j : Int) : Option Deed := ds.find? (isKey i j)
def kK (i j : Int) : List Key := [Sum.inl i, Sum.inl j]
def ent (d : Deed) : List Key × V := (kK d.run d.tick, oV d.ans)
def newDeed (tr : Str → Option Tr) (ds : List Deed) (i j : Int) (w : Str) (worth : Option Int) : Deed := ⟨i, j, w, worth, made tr ds w worth⟩
def step (tr : Str → Option Tr) (ds : List Deed) (i j : Int) (w : Str) (worth : Option Int) : List Deed × Option Int :=
  match seek ds i j with
  | some d => (ds, d.ans)
  | none => (ds ++ [newDeed tr ds i j w worth], made tr ds w worth)
theorem kK_eq {a b i j : Int} : kK a b = kK i j ↔ a = i ∧ b = j := by
  constructor
  · intro h
    injection h with h1 h2
    injection h2 with h2 _
    exact ⟨Sum.inl.inj h1, Sum.inl.inj h2⟩
  · rintro ⟨rfl, rfl⟩
    rfl
theorem valV_ent (i j : Int) : ∀ ds : List Deed, valV (ds.map ent) (kK i j) = (seek ds i j).map fun d => oV d.ans
  | [] => rfl
  | d :: r => by
    have ih := valV_ent i j r
    rw [List.map_cons]
    by_cases h : d.run = i ∧ d.tick = j
    · have e : (ent d).1 = kK i j := kK_eq.mpr h
      have k : isKey i j d = true := by simp [isKey, h.1, h.2]
      rw [valV_pos e]
      unfold seek
      rw [List.find?_cons_of_pos k]
      rfl
    · have e : ¬ (ent d).1 = kK i j := fun z => h (kK_eq.mp z)
      have k : ¬ isKey i j d = true := by
        intro z
        simp [isKey] at z
        exact h z
      rw [valV_neg e, ih]
      unfold seek
      rw [List.find?_cons_of_neg k]
theorem put_ent {ds : List Deed} {d : Deed} (h : seek ds d.run d.tick = none) : putK (ds.map ent) (kK d.run d.tick) (oV d.ans) = (ds ++ [d]).map ent := by
  rw [putK_new _ (by rw [valV_ent, h]; rfl), List.map_append]
  rfl
theorem oV_inj {a b : Option Int} (h : oV a = oV b) : a = b := by
  cases a with
  | none => cases b with
    | none => rfl
    | some j => exact nomatch h
  | some i => cases b with
    | none => exact nomatch h
    | some j => injection h with h; rw [h]
theorem oV_scal (a b : Option Int) : scal (oV a) (oV b) = true := by
  cases a <;> cases b <;> rfl
def LD : HO → Prop
  | .lst _ => True
  | .dT _ => True
  | _ => False
structure Fr (ex : List Addr) (H H' : Hp) : Prop where
  keep : ∀ b o, H b = some o → b ∉ ex → H' b = some o
  ld : ∀ b o, b ∈ ex → H b = some o → LD o
section
variable {ex : List Addr} {H H1 H' : Hp} {a b : Addr}
theorem Fr.refl : Fr [] H H := ⟨fun _ _ h _ => h, fun _ _ h => nomatch h⟩
theorem Fr.same (s : Same H H') (ld : ∀ b o, b ∈ ex → H b = some o → LD o) : Fr ex H H' := ⟨fun b o h _ => s b o h, ld⟩
theorem Fr.trans (f : Fr ex H H1) (g : ∀ b o, H1 b = some o → b ∉ ex → H' b = some o) : Fr ex H H' := ⟨fun b o h n => g b o (f.keep b o h n) n, f.ld⟩
theorem Fr.at {o : HO} (f : Fr ex H H') (h : H b = some o) (n : ¬ LD o) : H' b = some o := f.keep b o h fun m => n (f.ld b o m h)
theorem Fr.tup {xs : List V} (f : Fr ex H H') (h : H b = some (.tup xs)) : H' b = some (.tup xs) := f.at h (fun z => z)
theorem Fr.ins {C dx : Addr} {fs : List (Str × V)} (f : Fr ex H H') (h : H b = some (.ins C dx fs)) : H' b = some (.ins C dx fs) := f.at h (fun z => z)
theorem Fr.dK {kvs : List (Key × V)} (f : Fr ex H H') (h : H b = some (.dK kvs)) : H' b = some (.dK kvs) := f.at h (fun z => z)
theorem same_upd {o : HO} (h : H a = none) : Same H (upd H a o) := fun b u e => by
  rw [upd_ne (ne_of_none e h)]
  exact e
theorem Same.tr {H2 : Hp} (a : Same H H1) (b : Same H1 H2) : Same H H2 := fun c o h => b c o (a c o h)
end
def tupOf (d : Deed) : List V := [.int d.run, .int d.tick, .str d.work, oV d.worth, oV d.ans]
def DeedTup (H : Hp) (x : V) (d : Deed) : Prop := ∃ t, x = .ref t ∧ H t = some (.tup (tupOf d))
abbrev Deeds (H : Hp) (xs : List V) (ds : List Deed) : Prop := Paired (DeedTup H) xs ds
def TrV (H : Hp) : Option V → Option Tr → Prop
  | none, none => True
  | some (.ref b), some .cnt => H b = some (.tup [.str "count"])
  | some (.ref b), some (.sum n) => H b = some (.tup [.str "sum", .int n])
  | _, _ => False
def TradeAt (H : Hp) (t : Addr) (tr : Str → Option Tr) : Prop := ∃ kvs, H t = some (.dK kvs) ∧ ∀ w : Str, TrV H (valV kvs (Sum.inr w : Key)) (tr w)
theorem DeedTup.fr {ex : List Addr} {H H' : Hp} {x : V} {d : Deed} (f : Fr ex H H') (h : DeedTup H x d) : DeedTup H' x d := by
  obtain ⟨t, e, h⟩ := h
  exact ⟨t, e, f.tup h⟩
theorem Deeds.fr {ex : List Addr} {H H' : Hp} {xs : List V} {ds : List Deed} (f : Fr ex H H') (h : Deeds H xs ds) : Deeds H' xs ds := Paired.mapP h fun _ _ z => z.fr f
theorem TrV.fr {ex : List Addr} {H H' : Hp} {x : Option V} {t : Option Tr} (f : Fr ex H H') (h : TrV H x t) : TrV H' x t := by
  cases x with
  | none => cases t with
    | none => trivial
    | some t => exact (show False from h).elim
  | some x => cases t with
    | none => cases x <;> exact (show False from h).elim
    | some t => cases x with
      | ref b => cases t with
        | cnt => exact f.tup (show H b = some (.tup [.str "count"]) from h)
        | sum n => exact f.tup (show H b = some (.tup [.str "sum", .int n]) from h)
      | _ => exact (show False from h).elim
theorem TradeAt.fr {ex : List Addr} {H H' : Hp} {t : Addr} {tr : Str → Option Tr} (f : Fr ex H H') (h : TradeAt H t tr) : TradeAt H' t tr := by
  obtain ⟨kvs, h1, h2⟩ := h
  exact ⟨kvs, f.dK h1, fun w => (h2 w).fr f⟩
theorem TradeAt.copy {H : Hp} {t u : Addr} {kvs : List (Key × V)} {tr : Str → Option Tr} (h : TradeAt H t tr) (e : H t = some (.dK kvs)) (e' : H u = some (.dK kvs)) : TradeAt H u tr := by
  obtain ⟨kvs', h1, h2⟩ := h
  rw [e] at h1
  cases h1
  exact ⟨kvs, e', h2⟩
theorem dt_ : ¬ (("done" : Str) = "trade") := by decide +kernel
theorem at_ : ¬ (("answers" : Str) = "trade") := by decide +kernel
theorem ad_ : ¬ (("answers" : Str) = "done") := by decide +kernel
theorem td_ : ¬ (("trade" : Str) = "done") := by decide +kernel
theorem ta_ : ¬ (("trade" : Str) = "answers") := by decide +kernel
theorem da_ : ¬ (("done" : Str) = "answers") := by decide +kernel
def fl (t l a : Addr) : List (Str × V) := putF "answers" (.ref a) (putF "done" (.ref l) (putF "trade" (.ref t) []))
theorem fl_trade (t l a : Addr) : (fl t l a).lookup ("trade" : Str) = some (.ref t) := by
  unfold fl
  rw [lookup_putF, if_neg ta_, lookup_putF, if_neg td_, lookup_putF, if_pos rfl]
theorem fl_done (t l a : Addr) : (fl t l a).lookup ("done" : Str) = some (.ref l) := by
  unfold fl
  rw [lookup_putF, if_neg da_, lookup_putF, if_pos rfl]
theorem fl_answers (t l a : Addr) : (fl t l a).lookup ("answers" : Str) = some (.ref a) := by
  unfold fl
  rw [lookup_putF, if_pos rfl]
theorem fl_no (t l a : Addr) {m : Str} (h1 : ¬ m = "trade") (h2 : ¬ m = "done") (h3 : ¬ m = "answers") : (fl t l a).lookup m = none := by
  unfold fl
  rw [lookup_putF, if_neg h3, lookup_putF, if_neg h2, lookup_putF, if_neg h1]
  all_goals rfl
theorem fl_do (t l a : Addr) : (fl t l a).lookup ("do" : Str) = none := fl_no _ _ _ (by decide +kernel) (by decide +kernel) (by decide +kernel)
theorem fl_made (t l a : Addr) : (fl t l a).lookup ("made_of" : Str) = none := fl_no _ _ _ (by decide +kernel) (by decide +kernel) (by decide +kernel)
theorem fl_deeds (t l a : Addr) : (fl t l a).lookup ("deeds" : Str) = none := fl_no _ _ _ (by decide +kernel) (by decide +kernel) (by decide +kernel)
structure WorkerAt (C : Addr) (H : Hp) (p l a : Addr) (tr : Str → Option Tr) (ds : List Deed) : Prop where
  ob : ∃ dx t, H p = some (.ins C dx (fl t l a)) ∧ TradeAt H t tr
  ls : ∃ xs, H l = some (.lst xs) ∧ Deeds H xs ds
  an : H a = some (.dT (ds.map ent))
theorem WorkerAt.fr {C : Addr} {ex : List Addr} {H H' : Hp} {p l a : Addr} {tr : Str → Option Tr} {ds : List Deed} (f : Fr ex H H') (hl : l ∉ ex) (ha : a ∉ ex) (h : WorkerAt C H p l a tr ds) : WorkerAt C H' p l a tr ds := by
  obtain ⟨⟨dx, t, h1, h2⟩, ⟨xs, h3, h4⟩, h5⟩ := h
  exact ⟨⟨dx, t, f.ins h1, h2.fr f⟩, ⟨xs, f.keep _ _ h3 hl, h4.fr f⟩, f.keep _ _ h5 ha⟩
theorem WorkerAt.same {C : Addr} {H H' : Hp} {p l a : Addr} {tr : Str → Option Tr} {ds : List Deed} (s : Same H H') (h : WorkerAt C H p l a tr ds) : WorkerAt C H' p l a tr ds :=
  h.fr (ex := []) ⟨fun b o e _ => s b o e, fun _ _ z => nomatch z⟩ (by simp) (by simp)
theorem WorkerAt.la {C : Addr} {H : Hp} {p l a : Addr} {tr : Str → Option Tr} {ds : List Deed} (h : WorkerAt C H p l a tr ds) : l ≠ a := by
  obtain ⟨_, ⟨xs, h3, _⟩, h5⟩ := h
  exact ne_of h3 h5 (by intro q; cases q)
theorem same_fr {H H' : Hp} (s : Same H H') : Fr [] H H' := ⟨fun b o e _ => s b o e, fun _ _ z => nomatch z⟩
def deedD (d : Deed) : PyData := .tuple [.int d.run, .int d.tick, .str d.work, oD d.worth, oD d.ans]
theorem dp_o {K : PySem.W.Frag} {H : Hp} (o : Option Int) : Dp K H (oV o) (oD o) := by
  cases o with
  | none => exact .non
  | some i => exact .int i
theorem dp_deed {K : PySem.W.Frag} {H : Hp} {x : V} {d : Deed} (h : DeedTup H x d) : Dp K H x (deedD d) := by
  obtain ⟨t, rfl, h⟩ := h
  exact .tup (SqT.of h) (.cons (.int _) (.cons (.int _) (.cons (.str _) (.cons (dp_o _) (.cons (dp_o _) .nil)))))
theorem dp_deeds {K : PySem.W.Frag} {H : Hp} {xs : List V} {ds : List Deed} (h : Deeds H xs ds) : DpAll K H xs (ds.map deedD) := by
  induction h with
  | nil => exact .nil
  | cons h _ ih => exact .cons (dp_deed h) ih
theorem dp_list {K : PySem.W.Frag} {H : Hp} {l : Addr} {xs : List V} {ds : List Deed} (e : H l = some (.lst xs)) (h : Deeds H xs ds) : Dp K H (.ref l) (.list (ds.map deedD)) := .lst (SqL.of e) (dp_deeds h)
def Good (ds : List Deed) : Prop := ∀ d ∈ ds, PyData.strOk d.work = true
theorem lay_o (o : Option Int) : (oD o).canLay0 = true := by cases o <;> rfl
theorem lay_deed {d : Deed} (h : PyData.strOk d.work = true) : (deedD d).canLay0 = true := by
  simp [deedD, PyData.canLay0, PyData.canLayAll0, h, lay_o]
theorem lay_deeds : ∀ {ds : List Deed}, Good ds → PyData.canLayAll0 (ds.map deedD) = true
  | [], _ => rfl
  | d :: r, h => by
    rw [List.map_cons]
    simp only [PyData.canLayAll0, lay_deed (h d List.mem_cons_self), lay_deeds (ds := r) (fun x hx => h x (List.mem_cons_of_mem _ hx)), Bool.and_self]
theorem dep_o (o : Option Int) : (oD o).depth = 0 := by cases o <;> rfl
theorem dep_deed (d : Deed) : (deedD d).depth ≤ 2 := by
  simp [deedD, PyData.depth, PyData.depthAll, dep_o]
theorem dep_deeds : ∀ ds : List Deed, PyData.depthAll (ds.map deedD) ≤ 2
  | [] => by simp [PyData.depthAll]
  | d :: r => by
    have h1 := dep_deed d
    have h2 := dep_deeds r
    rw [List.map_cons]
    simp only [PyData.depthAll]
    omega
theorem shaped_deeds {ds : List Deed} (h : Good ds) : SeqAt.shaped (.list (ds.map deedD)) = true := by
  unfold SeqAt.shaped
  have h1 : (PyData.list (ds.map deedD)).canLay0 = true := by rw [PyData.canLay0]; exact lay_deeds h
  have h2 : (PyData.list (ds.map deedD)).depth ≤ 64 := by
    have := dep_deeds ds
    simp only [PyData.depth]
    omega
  rw [h1, decide_eq_true h2]
  rfl
theorem eqv_deeds {ds : List Deed} (h : Good ds) : PyData.eqv (.list (ds.map deedD)) (.list (ds.map deedD)) = true :=
  SeqAt.eqv_refl _ (by rw [PyData.canLay0]; exact lay_deeds h)
end OW
namespace OW
open PySem PySem.Spec PyProof.Rows L2
section
variable {X : Cx}
def rNeSame : R2 := fun x y H Q => ∃ (a b : Addr) (kvs : List (L2.Key × V)), x = .ref a ∧ y = .ref b ∧ H a = some (.dK kvs) ∧ H b = some (.dK kvs) ∧
  (∀ p ∈ kvs, valV kvs p.1 = some p.2 ∧ ∃ c, p.2 = .ref c) ∧ Q (.bl false) H
theorem hits_same {A : Around} {s : Shared} {ls : List (L2.Key × V)} {vb : List (L2.Key × Value)} (rb : KV ls vb) {ks : List (L2.Key × V)} {va : List (L2.Key × Value)} (ra : KV ks va) :
    (∀ p ∈ ks, valV ls p.1 = some p.2 ∧ ∃ c, p.2 = .ref c) → PySem.W.KeqHits A s vb va true := by
  unfold KV at ra
  induction ra with
  | nil => intro _; exact .nil
  | @cons p q ps qs h t k =>
    intro hp
    obtain ⟨h1, h2⟩ := h
    obtain ⟨e, c, ec⟩ := hp p List.mem_cons_self
    have rr : RelO (some p.2) (valueAt vb p.1) := by rw [← e]; exact rb.val p.1
    obtain ⟨y, hy, ry⟩ := rr.some_of
    obtain ⟨key, v⟩ := q
    have h1' : p.1 = key := h1
    rw [h1'] at hy
    rw [ec] at h2 ry
    cases (show v = Value.ref c from h2)
    cases (show y = Value.ref c from ry)
    show PySem.W.KeqHits A s vb ((key, Value.ref c) :: qs) (true && true)
    exact .hit hy (SeqAt.EqAt.same _) (k fun p' hm => hp p' (List.mem_cons_of_mem _ hm))
theorem op_neSame (hu : X.A.units < cLine) : OpR X (compareOp .NotEq) rNeSame := by
  intro pins s σ H x y v u Q I rx ry h
  obtain ⟨a, b, kvs, rfl, rfl, ha, hb, hp, q⟩ := h
  cases (show v = Value.ref a from rx)
  cases (show u = Value.ref b from ry)
  obtain ⟨_, ya, va, ra, da⟩ := (show ObjOk X.prog X.w H s.heap a (.dK kvs) from I.hok a _ ha)
  obtain ⟨_, yb, vb, rb, db⟩ := (show ObjOk X.prog X.w H s.heap b (.dK kvs) from I.hok b _ hb)
  refine PySem.W.keq_ne (knd := mixKind X.prog X.w) (r := true) ya yb da db hu (fun _ => hits_same rb ra hp) ?_
  have e : va.length = vb.length := by rw [← ra.length, ← rb.length]
  rw [show (!(va.length == vb.length && true)) = false from by rw [e]; simp]
  exact ⟨.bl false, H, I, rfl, q⟩
def rNeEmpty : R2 := fun x y H Q => ∃ (a b : Addr) (kvs : List (List L2.Key × V)), x = .ref a ∧ y = .ref b ∧ H a = some (.dT kvs) ∧ H b = some (.dT []) ∧ Q (.bl (!kvs.isEmpty)) H
theorem same_empty {P : Program} {w : World} {A : Around} {E : Value → Shared → Prop} {s : Shared} {nm : String} {a b : Addr} {oa ob : Obj} {es es' : Array DictEntry} {ep ep' : Nat} {Q : Bool → Shared → Prop}
    (ha : (a == sysModules) = false) (hb : (b == sysModules) = false) (hoa : s.heap.get? a = some oa) (hda : oa.data = .dict es ep) (hob : s.heap.get? b = some ob) (hdb : ob.data = .dict es' ep') (h0 : es'.size = 0) (h : Q (es.size == 0) s) :
    wpAny (model P w) A (Builtin.Dict.samePairs nm a b) Q E s := by
  unfold Builtin.Dict.samePairs Builtin.Dict.showsAll
  rw [if_neg (show ¬ (a == sysModules) = true by rw [ha]; exact Bool.false_ne_true), if_neg (show ¬ (b == sysModules) = true by rw [hb]; exact Bool.false_ne_true)]
  refine wpAny_bind (wpAny_pure (wpAny_bind (wpAny_pure ?_)))
  refine wpAny_bind (wpAny_dictEntries hoa hda ?_)
  dsimp only
  refine wpAny_bind (wpAny_dictEntries hob hdb ?_)
  rw [h0]
  by_cases hsz : es.size = 0
  case neg =>
    rw [if_pos (by simpa using hsz)]
    have hbf : (es.size == 0) = false := by simpa using hsz
    rw [hbf] at h
    exact wpAny_bind (wpAny_rule (wpAny_pure h))
  case pos =>
    have h' : Q true s := by simpa [hsz] using h
    rw [hsz, if_neg (by simp)]
    refine wpAny_bind (wpAny_dictEpoch hoa hda ?_)
    refine wpAny_bind ?_
    rw [Std.Legacy.Range.forIn_eq_forIn_range']
    simp only [Std.Legacy.Range.size, Nat.sub_zero, Nat.add_sub_cancel, Nat.div_one, List.range'_zero, List.forIn_nil]
    exact wpAny_pure (wpAny_pure h')
theorem op_neEmpty (hu : X.A.units < cLine) : OpR X (compareOp .NotEq) rNeEmpty := by
  intro pins s σ H x y v u Q I rx ry h
  obtain ⟨a, b, kvs, rfl, rfl, ha, hb, q⟩ := h
  cases (show v = Value.ref a from rx)
  cases (show u = Value.ref b from ry)
  obtain ⟨_, ya, xa, pa, oa, es, ep, hoa, hxa, hda, hea, _⟩ := (show ObjOk X.prog X.w H s.heap a (.dT kvs) from I.hok a _ ha)
  obtain ⟨_, yb, xb, pb, ob, es', ep', hob, hxb, hdb, heb, _⟩ := (show ObjOk X.prog X.w H s.heap b (.dT []) from I.hok b _ hb)
  have ta : s.TypeIs (.ref a) "dict" := ⟨oa, hoa, hxa.1⟩
  have tb : s.TypeIs (.ref b) "dict" := ⟨ob, hob, hxb.1⟩
  cases pb
  have e0 : es'.size = 0 := by
    have := congrArg List.length heb
    simpa using this
  have e1 : es.size = kvs.length := by
    have := congrArg List.length hea
    rw [List.length_map, ← Paired.length pa] at this
    simpa using this
  refine wpAny_richCompare_same_room (op := .NotEq) ta tb PySem.F.slot_dict_ne (wpAny_call_entry PySem.F.slot_dict_ne ta PySem.F.entry_dict_ne ?_ (PySem.F.args_dict_ne_2 _ _)) hu
  show wpAny _ _ (Builtin.Dict.dictSlotArgs "__ne__" ⟨[.ref a, .ref b], []⟩ >>= _) _ _ s
  refine wpAny_bind ?_
  unfold Builtin.Dict.dictSlotArgs
  refine wpAny_bind (wpAny_notOrdered_dict ta ?_)
  show wpAny _ _ (pure (Value.ref a, Value.ref b)) _ _ s
  refine wpAny_pure ?_
  refine wpAny_bind (wpAny_isInstance (T := "dict") tb PySem.F.sub_dict_dict ?_)
  simp only [Bool.not_true, Bool.false_eq_true, if_false]
  refine wpAny_bind (wpAny_pure (wpAny_bind (wpAny_pure ?_)))
  refine wpAny_bind (same_empty ya yb hoa hda hob hdb e0 ?_)
  refine wpAny_pure ⟨_, rfl, ?_, ?_⟩
  · exact fun x => nomatch x
  · have e2 : (es.size == 0) = kvs.isEmpty := by
      rw [e1]
      cases kvs <;> rfl
    rw [e2]
    cases hk : kvs.isEmpty with
    | true => rw [hk] at q; exact ⟨.bl false, H, I, rfl, q⟩
    | false => rw [hk] at q; exact ⟨.bl true, H, I, rfl, q⟩
end
section
variable {X : Cx}
def rSortedDT : List V → Hp → VK → Prop := fun xs H Q => ∃ (d : Addr) (kvs : List (List L2.Key × V)), xs = [V.ref d] ∧ H d = some (.dT kvs) ∧ (∀ p ∈ kvs, ∃ i j, p.1 = kK i j) ∧
  ∀ (ys : List V) (p : Addr), ys.length = kvs.length → (∀ y ∈ ys, ∃ b q, q ∈ kvs ∧ y = .ref b ∧ H b = some (.tup (q.1.map kV))) → H p = none → Q (.ref p) (upd H p (.lst ys))
theorem keys_mem {H : Hp} {kvs : List (List L2.Key × V)} {bs : List Addr} (h : IsKeys H kvs bs) : ∀ b ∈ bs, ∃ q, q ∈ kvs ∧ H b = some (.tup (q.1.map kV)) := by
  unfold IsKeys at h
  induction h with
  | nil => intro b hb; exact nomatch hb
  | @cons p q ps qs h t ih =>
    intro b hb
    rcases List.mem_cons.mp hb with e | hb
    · subst e
      exact ⟨p, List.mem_cons_self, h⟩
    · obtain ⟨r, hr, e⟩ := ih b hb
      exact ⟨r, List.mem_cons_of_mem _ hr, e⟩
theorem call_sortedDT (hc : X.calm = true) : CallR X (.builtin "sorted") rSortedDT := by
  intro pins s σ H xs us Q I r h
  obtain ⟨d, kvs, rfl, hd, hk, q⟩ := h
  obtain ⟨u, rfl, rx⟩ := r.one
  cases rx
  obtain ⟨z, hs, ks, pr, o, es, ep, ho, hx, hdt, he, hn⟩ := (show ObjOk X.prog X.w H s.heap d (.dT kvs) from I.hok d _ hd)
  have l1 : es.size = ks.length := size_of_entries he
  have l2 : kvs.length = ks.length := Paired.length pr
  refine Calls.call_function_entry PyProof.Rows.kind_sorted PyProof.Rows.plain_sorted PyProof.Rows.entry_sorted (PyProof.Rows.args_sorted1 _) ?_
  unfold Builtin.«sorted»
  refine wpAny_bind (m := checkCount "sorted" 1 1 _) (wpAny_pure ?_)
  refine wpAny_bind (PySem.W.kdu_collect (A := X.A.in1) (kdl_raw hs hx hdt) (I.ok.hd hc) ho (by omega) fun h' tk acc kp hacc => ?_)
  have ea : acc.toList = ks.map fun x => Value.ref x.2.1 := by
    have hl : acc.toList.length = ks.length := by rw [Array.length_toList, hacc.1]; exact l1
    apply List.ext_getElem?
    intro j
    rw [List.getElem?_map]
    cases hj : acc.toList[j]? with
    | none =>
      have h1 := List.getElem?_eq_none_iff.mp hj
      rw [List.getElem?_eq_none (by omega)]
      all_goals rfl
    | some v =>
      obtain ⟨en, hen, hv⟩ := hacc.2 j v (by rw [← Array.getElem?_toList]; exact hj)
      have qe := entry_at he j
      rw [hen] at qe
      cases hb : ks[j]? with
      | none =>
        rw [hb] at qe
        exact nomatch (show some en = none from qe)
      | some b =>
        rw [hb] at qe
        have e2 : en = entryOfKey (tupleKind (mixKind X.prog X.w)) b := Option.some.inj qe
        rw [hv, e2]
        all_goals rfl
  have eb : acc.toList = (ks.map fun x => x.2.1).map Value.ref := by rw [ea, List.map_map]; all_goals rfl
  have hal : acc.toList.length = kvs.length := by rw [eb, List.length_map, List.length_map]; exact l2.symm
  have I1 : Inv X pins σ H { s with heap := h', toks := tk } := I.kept kp
  have hzl : acc.toList.length ≤ sizeLine := by rw [hal]; exact z
  refine wpAny_bind (wpAny_newList ?_ hzl)
  have hoL : (h'.push (seqObj "list" acc.toList.toArray 0)).get? h'.objs.size = some (seqObj "list" acc.toList.toArray 0) := Heap.get?_push_size _ rfl
  have isk := isKeys_of pr
  have pairs : ∀ v ∈ acc.toList, ∃ x y, Srt.IsPair h' v x y := fun v hv => by
    rw [eb] at hv
    obtain ⟨b, hb, rfl⟩ := List.mem_map.mp hv
    obtain ⟨p, hp, e⟩ := keys_mem isk b hb
    obtain ⟨i, j, ek⟩ := hk p hp
    rw [ek] at e
    obtain ⟨_, its2, r2, o2, ho2, hc2, n2, hd2⟩ := (show ObjOk X.prog X.w H h' b (.tup ((kK i j).map kV)) from I1.hok b _ e)
    obtain ⟨u1, u2, rfl, ri, rj⟩ := vals2 r2
    obtain ⟨t1, rfl⟩ := ri
    obtain ⟨t2, rfl⟩ := rj
    exact ⟨i, j, b, o2, t1, t2, n2, rfl, ho2, hc2, hd2⟩
  show wpAny _ _ _ _ _ { s with heap := h'.push (seqObj "list" acc.toList.toArray 0), toks := tk }
  refine wpAny_bind (wpAny_holding (wpAny_call_entry PyProof.Rows.slot_list_sort ⟨_, hoL, rfl⟩ PyProof.Rows.entry_list_sort
    (Srt.list_sort_any (s := { s with heap := h'.push (seqObj "list" acc.toList.toArray 0), toks := tk }) hoL hzl (fun h2 => ?_) fun out hp => ⟨_, rfl, ?_⟩) (PyProof.Rows.args_list_sort _)))
  · refine Srt.pairs_sortable (s := { s with heap := h'.push (seqObj "list" acc.toList.toArray 0), toks := tk }) (by omega) (fun v hv => ?_) fun o e => ?_
    · obtain ⟨x, y, p⟩ := pairs v hv
      exact ⟨x, y, p.keeps fun b o e _ => Heap.get?_push_of_some _ e⟩
    · have e' : some o = some (seqObj "list" acc.toList.toArray 0) := e.symm.trans hoL
      cases e'
      intro c
      exact absurd (Value.type.inj c) (by decide)
  · obtain ⟨e', he'⟩ := PyProof.Rows.sortedHeap_at (vs := acc.toList) (out := out.toArray) hoL
    have h3 : ∀ u ∈ out, ∃ a, u = Value.ref a := fun u hu => by
      have hm := hp.mem_iff.mp hu
      rw [eb] at hm
      obtain ⟨b, _, rfl⟩ := List.mem_map.mp hm
      exact ⟨b, rfl⟩
    have hlen : (out.map backV).length = kvs.length := by rw [List.length_map, hp.length_eq, hal]
    refine wpAny_pure ⟨_, rfl, .ref h'.objs.size, upd H h'.objs.size (.lst (out.map backV)), I1.laid (t' := tk) (fun b u e => ?_) (Nat.le_refl _)
      (show ObjOk X.prog X.w _ _ _ (.lst (out.map backV)) from ⟨by rw [hlen]; exact z, out, e', vals_back h3, he'⟩), rfl, q _ _ hlen (fun y hy => ?_) (I1.hok.fresh (Nat.le_refl _))⟩
    · have hb : b < h'.objs.size := Heap.lt_size e
      rw [PyProof.Rows.sortedHeap_old (Nat.ne_of_lt hb) (by rw [size_push']; exact Nat.lt_succ_of_lt hb)]
      exact Heap.get?_push_of_some _ e
    · obtain ⟨u, hu, rfl⟩ := List.mem_map.mp hy
      have hm := hp.mem_iff.mp hu
      rw [eb] at hm
      obtain ⟨b, hb, rfl⟩ := List.mem_map.mp hm
      obtain ⟨p, hp', e⟩ := keys_mem isk b hb
      exact ⟨b, p, hp', rfl, e⟩
end
end OW
namespace OW
open PySem L2
def top (i : Nat) : Stmt := PySem.Challenge.pw_outlast_k71_each_order_once.main.body.getD i (.Pass ⟨0, 0, 0, 0⟩)
abbrev sKept : Stmt := top 2
abbrev sInit : Stmt := inClass (top 4) 0
abbrev sDo : Stmt := inClass (top 4) 1
abbrev sMadeOf : Stmt := inClass (top 4) 2
abbrev sDeeds : Stmt := inClass (top 4) 3
abbrev sCell : Stmt := top 6
abbrev sTake : Stmt := top 7
abbrev sLMade : Stmt := top 8
abbrev sTold : Stmt := top 9
abbrev sNumber : Stmt := top 10
abbrev sUnlike : Stmt := top 11
abbrev sLaw : Stmt := top 12
structure Txt (K : PySem.W.Frag) (mg : Str → Option Value) (C : Addr) : Prop where
  cl : Cls K C
  nT : NoAttr K C "trade"
  nD : NoAttr K C "done"
  nA : NoAttr K C "answers"
  mgC : mg "Worker" = some (.ref C)
  most : ∃ t, mg "MOST" = some (.int 1000000000 t)
  max : mg "max" = none
  min : mg "min" = none
  len : mg "len" = none
  dict : mg "dict" = none
  list : mg "list" = none
  sorted : mg "sorted" = none
  isi : mg "isinstance" = none
  range : mg "range" = none
  bool : mg "bool" = none
theorem boot_max : bootBuiltins "max" = some (.builtin "max") := by decide +kernel
theorem boot_min : bootBuiltins "min" = some (.builtin "min") := by decide +kernel
theorem boot_dict : bootBuiltins "dict" = some (.type "dict") := by decide +kernel
theorem boot_list : bootBuiltins "list" = some (.type "list") := by decide +kernel
theorem boot_sorted : bootBuiltins "sorted" = some (.builtin "sorted") := by decide +kernel
theorem boot_isinstance : bootBuiltins "isinstance" = some (.builtin "isinstance") := by decide +kernel
theorem boot_range : bootBuiltins "range" = some (.type "range") := by decide +kernel
theorem boot_bool : bootBuiltins "bool" = some (.type "bool") := by decide +kernel
section
variable {ex : List Addr} {H H1 H2 : Hp} {t : Addr} {o : HO}
theorem Fr.new (f : Fr ex H H1) (h : H1 t = none) : Fr ex H (upd H1 t o) := f.trans fun b u e _ => same_upd h b u e
theorem Fr.put (f : Fr ex H H1) (h : t ∈ ex) : Fr ex H (upd H1 t o) := f.trans fun b u e n => by
  rw [upd_ne (fun z => n (by rw [z]; exact h))]
  exact e
theorem Fr.on (f : Fr ex H H1) (s : Same H1 H2) : Fr ex H H2 := f.trans fun b u e _ => s b u e
end
theorem WorkerAt.start {C : Addr} {H : Hp} {p l a : Addr} {tr : Str → Option Tr} {ds : List Deed} (h : WorkerAt C H p l a tr ds) : Fr [l, a] H H := by
  obtain ⟨_, ⟨xs, h3, _⟩, h5⟩ := h
  refine ⟨fun b o e _ => e, fun b o m e => ?_⟩
  rcases List.mem_cons.mp m with z | z
  · rw [z, h3] at e
    cases e
    trivial
  · rw [List.mem_singleton.mp z, h5] at e
    cases e
    trivial
def spKept : Sp := fun vs H Q _ => ∃ n : Int, vs = [.int n] ∧ Q (.int (clamp n)) H
def spInit (C : Addr) : Sp := fun vs H Q _ => ∃ (p dx td : Addr) (kvs : List (L2.Key × V)), vs = [.ref p, .ref td] ∧ H p = some (.ins C dx []) ∧ H td = some (.dK kvs) ∧
  ∀ (H' : Hp) (t l a : Addr), (∀ b o, H b = some o → b ≠ p → H' b = some o) → H t = none → H l = none → H a = none → l ≠ a → H' p = some (.ins C dx (fl t l a)) → H' t = some (.dK kvs) → H' l = some (.lst []) → H' a = some (.dT []) → Q .non H'
def spMadeOf (C : Addr) : Sp := fun vs H Q _ => ∃ (p l a : Addr) (tr : Str → Option Tr) (ds : List Deed) (w : Str) (worth : Option Int), vs = [.ref p, .str w, oV worth] ∧ WorkerAt C H p l a tr ds ∧ ds.length ≤ 1000 ∧
  ∀ H', Same H H' → Q (oV (made tr ds w worth)) H'
def spDo (C : Addr) : Sp := fun vs H Q _ => ∃ (p l a : Addr) (tr : Str → Option Tr) (ds : List Deed) (i j : Int) (w : Str) (worth : Option Int), vs = [.ref p, .int i, .int j, .str w, oV worth] ∧ WorkerAt C H p l a tr ds ∧ ds.length ≤ 1000 ∧
  ∀ (ds' : List Deed) (ans : Option Int) (H' : Hp), step tr ds i j w worth = (ds', ans) → Fr [l, a] H H' → WorkerAt C H' p l a tr ds' → Q (oV ans) H'
def spDeeds (C : Addr) : Sp := fun vs H Q _ => ∃ (p l a : Addr) (tr : Str → Option Tr) (ds : List Deed) (xs : List V), vs = [.ref p] ∧ WorkerAt C H p l a tr ds ∧ H l = some (.lst xs) ∧
  ∀ r, H r = none → Q (.ref r) (upd H r (.lst xs))
section
variable {P : Program} {w : World} {K : PySem.W.Frag} {mg : Str → Option Value} {base : Heap}
theorem scK : FnScope ["number"] ["number"] (defScope sKept) := ⟨rfl, rfl, rfl, by decide +kernel, rfl, by decide +kernel, by decide +kernel⟩
theorem ok_kept {f C : Addr} {fd : FuncData} (F : Fun K "kept" "kept" sKept f fd) (T : Txt K mg C) : FnOk P w K mg base CX0 1 f fd ["number"] spKept := by
  refine F.ok scK (fun vs H Q E h => ?_) (fun cdv A outer s H vs Q E hr h => ?_)
  · obtain ⟨n, rfl, _⟩ := h
    rfl
  · obtain ⟨n, rfl, k⟩ := h
    obtain ⟨tm, hm⟩ := T.most
    refine ⟨_, pss_one (ps_ret (pe_callB (call_max2 rfl) (by rfl) T.max boot_max (pa_cons (pe_op op_sub pe_int (pe_glob (v := .int 1000000000) rfl hm ⟨_, rfl⟩))
      (pa_cons (pe_callB (call_min2 rfl) (by rfl) T.min boot_min (pa_cons (pe_glob (v := .int 1000000000) rfl hm ⟨_, rfl⟩) (pa_cons (pv 0) pa_nil))) pa_nil)))), ?_⟩
    exact ⟨_, _, rfl, rfl, _, rfl, _, _, rfl, _, _, rfl, k⟩
theorem scI : FnScope ["self", "trade"] ["self", "trade"] (defScope sInit) := ⟨rfl, rfl, rfl, by decide +kernel, rfl, by decide +kernel, by decide +kernel⟩
theorem ok_init {f C : Addr} {fd : FuncData} (F : Fun K "__init__" "Worker.__init__" sInit f fd) (T : Txt K mg C) : FnOk P w K mg base CX0 1 f fd ["self", "trade"] (spInit C) := by
  refine F.ok scI (fun vs H Q E h => ?_) (fun cdv A outer s H vs Q E hr h => ?_)
  · obtain ⟨p, dx, td, kvs, rfl, _⟩ := h
    rfl
  · obtain ⟨p, dx, td, kvs, rfl, hp, htd, k⟩ := h
    refine ⟨_, pss_cons (ps_fld (pv 0) (pe_callTy call_dictD (by rfl) T.dict boot_dict (pa_cons (pv 1) pa_nil)) rfl)
      (pss_cons (ps_fld (pv 0) (pe_lst pa_nil) rfl) (pss_one (ps_fld (pv 0) pe_dnewT rfl))), ?_⟩
    refine ⟨_, rfl, td, kvs, rfl, .inl htd, fun t ht => ?_⟩
    have npt : p ≠ t := ne_of_none hp ht
    refine ⟨_, rfl, p, C, dx, [], rfl, (by rw [upd_ne npt]; exact hp), T.cl, T.nT, (by show 0 < 1000; decide), ?_⟩
    refine ⟨Nat.zero_le _, fun l hl => ?_⟩
    have npl : p ≠ l := fun q => by rw [← q, upd_same] at hl; cases hl
    have ntl : t ≠ l := fun q => by rw [← q, upd_ne npt.symm, upd_same] at hl; cases hl
    refine ⟨_, rfl, p, C, dx, _, rfl, (by rw [upd_ne npl, upd_same]), T.cl, T.nD, (by show 1 < 1000; decide), ?_⟩
    intro a ha
    have npa : p ≠ a := fun q => by rw [← q, upd_same] at ha; cases ha
    have nla : l ≠ a := fun q => by rw [← q, upd_ne npl.symm, upd_same] at ha; cases ha
    have nta : t ≠ a := fun q => by rw [← q, upd_ne npt.symm, upd_ne ntl, upd_ne npt.symm, upd_same] at ha; cases ha
    refine ⟨_, rfl, p, C, dx, _, rfl, (by rw [upd_ne npa, upd_same]), T.cl, T.nA, (by show 2 < 1000; decide), ?_⟩
    have hl0 : H l = none := by rw [upd_ne npl.symm, upd_ne ntl.symm] at hl; exact hl
    have ha0 : H a = none := by rw [upd_ne npa.symm, upd_ne nla.symm, upd_ne npa.symm, upd_ne nta.symm] at ha; exact ha
    refine k _ t l a (fun b o e hb => ?_) ht hl0 ha0 nla ?_ ?_ ?_ ?_
    · rw [upd_ne hb, upd_ne (ne_of_none e ha0), upd_ne hb, upd_ne (ne_of_none e hl0), upd_ne hb, upd_ne (ne_of_none e ht)]
      exact e
    · rw [upd_same]
      rfl
    · rw [upd_ne npt.symm, upd_ne nta, upd_ne npt.symm, upd_ne ntl, upd_ne npt.symm, upd_same]
    · rw [upd_ne npl.symm, upd_ne nla, upd_ne npl.symm, upd_same]
    · rw [upd_ne npa.symm, upd_same]
abbrev nMade : List Str := ["self", "work", "worth", "deed"]
theorem scM : FnScope nMade ["self", "work", "worth"] (defScope sMadeOf) := ⟨rfl, rfl, rfl, by decide +kernel, rfl, by decide +kernel, by decide +kernel⟩
theorem cnt_take {ds : List Deed} {w : Str} {i : Nat} {d : Deed} (h : ds[i]? = some d) : cntOf (ds.take (i + 1)) w = cntOf (ds.take i) w + if d.work = w then 1 else 0 := by
  unfold cntOf
  rw [List.take_add_one, h, Option.toList_some, List.filter_append, List.length_append]
  by_cases e : d.work = w <;> simp [e]
theorem paired_at {H : Hp} : ∀ {xs : List V} {ds : List Deed} {i : Nat} {x : V}, Deeds H xs ds → xs[i]? = some x → ∃ d, ds[i]? = some d ∧ DeedTup H x d
  | _, _, _, _, .nil, e => by simp at e
  | _, _, 0, _, .cons r _, e => by simp at e; subst e; exact ⟨_, rfl, r⟩
  | _, _, i + 1, x, .cons _ t, e => by
    obtain ⟨d, h1, h2⟩ := paired_at (i := i) (x := x) t (by simpa using e)
    exact ⟨d, by simpa using h1, h2⟩
theorem ok_made {f C fK : Addr} {fd fdK : FuncData} (F : Fun K "made_of" "Worker.made_of" sMadeOf f fd) (T : Txt K mg C) (FK : Fun K "kept" "kept" sKept fK fdK) (bK : Binds K fdK ["number"] []) (mK : mg "kept" = some (.ref fK)) :
    FnOk P w K mg base CX0 2 f fd ["self", "work", "worth"] (spMadeOf C) := by
  have GK : FnOk P w K mg base CX0 1 fK fdK ["number"] spKept := ok_kept FK T
  refine F.ok scM (fun vs H Q E h => ?_) (fun cdv A outer s H vs Q E hr h => ?_)
  · obtain ⟨p, l, a, tr, ds, wk, worth, rfl, _⟩ := h
    rfl
  · obtain ⟨p, l, a, tr, ds, wk, worth, rfl, W, hlen, k⟩ := h
    have hu := hu_of hr
    have hr1 : Room 1 _ := hr.mono (by decide)
    obtain ⟨⟨dx, t, hp, kvs, ht, hT⟩, ⟨xs, hl, hD⟩, ha⟩ := id W
    have hw := hT wk
    refine ⟨_, pss_cons (ps_if (pt_cmp (pc_dnotin hu (pv 1) (pe_fld (pv 0) rfl))) (pss_one (ps_ret pe_non)) pss_nil)
      (pss_cons (ps_if (pt_cmpR op_eq (pe_ix ix_tup (pe_dget hu (pe_fld (pv 0) rfl) (pv 1) (fun _ _ => rfl)) pe_int (fun _ _ => rfl)) pe_str (nomark _))
        (pss_one (ps_ret (pe_call GK hr1 rfl mK FK.kp bK .nil pass0 (pa_cons (pe_op op_add pe_int (pe_callB call_len_seq (by rfl) T.len PySem.boot_len (pa_cons
          (pe_lc (own := [("deed", 3)]) (g := gName 3) rfl scM.nd (pi_list (pe_fld (pv 0) rfl)) (blkOk_by (own := [("deed", 3)]) (N := nMade) (sc := defScope sMadeOf) (by decide +kernel))
            (fun _ _ _ _ _ => pg_name (i := 3) scM.nd rfl (Or.inl rfl)) (fun _ _ _ _ _ => pts_one (pt_cmpR op_eq (pe_ix (r := rIxT K) ix_tup (pv 3) pe_int (fun _ _ => rfl)) (pv 1) (nomark _))) (fun _ _ _ _ _ => pv 3)) pa_nil))) pa_nil)))) pss_nil)
      (pss_cons (ps_if (pt_cmp (pc_isN (pv 2))) (pss_one (ps_set (i := 2) scM.nd rfl (Or.inl rfl) pe_int)) pss_nil)
      (pss_one (ps_ret (pe_call GK hr1 rfl mK FK.kp bK .nil pass0 (pa_cons (pe_op op_add (pv 2) (pe_ix ix_tup (pe_dget hu (pe_fld (pv 0) rfl) (pv 1) (fun _ _ => rfl)) pe_int (fun _ _ => rfl))) pa_nil)))))), ?_⟩
    refine ⟨_, rfl, _, rfl, p, C, dx, _, _, rfl, hp, T.cl, T.nT, fl_trade _ _ _, t, _, rfl, DGet.k (k := Sum.inr wk) ht, _, rfl, ?_⟩
    cases e : valV kvs (Sum.inr wk : L2.Key) with
    | none =>
      refine iteT ?_
      rw [e] at hw
      have em : made tr ds wk worth = none := by
        unfold made
        cases q : tr wk with
        | none => rfl
        | some z => rw [q] at hw; exact (show False from hw).elim
      have k' := k H (Same.refl H)
      rw [em] at k'
      exact k'
    | some v =>
      refine iteF ?_
      rw [e] at hw
      cases q : tr wk with
      | none => rw [q] at hw; cases v <;> exact (show False from hw).elim
      | some z =>
        rw [q] at hw
        obtain ⟨b, rfl⟩ : ∃ b, v = V.ref b := by
          cases v with
          | ref b => exact ⟨b, rfl⟩
          | _ => exact (show False from hw).elim
        have hg : DGet H t (V.str wk) (some (V.ref b)) := by rw [← e]; exact DGet.k (k := Sum.inr wk) ht
        cases z with
        | cnt =>
          have hb : H b = some (.tup [.str "count"]) := hw
          refine ⟨_, rfl, p, C, dx, _, _, rfl, hp, T.cl, T.nT, fl_trade _ _ _, _, rfl, t, _, rfl, hg, b, _, 0, _, rfl, rfl, SqT.of hb, rfl, rfl, _, rfl, ?_⟩
          refine iteT ?_
          refine ⟨_, rfl, p, C, dx, _, _, rfl, hp, T.cl, T.nD, fl_done _ _ _, l, rfl, ⟨_, SqL.of hl⟩, fun D hD0 => ?_⟩
          refine lc_list (K := K) (a := l) (xs := xs) (fun i H' => ∃ acc, H' = upd H D (.lst acc) ∧ acc.length = cntOf (ds.take i) wk ∧ acc.length ≤ i)
            ⟨[], rfl, by rw [List.take_zero]; rfl, Nat.le_refl _⟩ (fun i H' _ ⟨acc, e', _⟩ => by
              subst e'
              exact SqL.of (by rw [upd_ne (ne_of_none hl hD0)]; exact hl)) ?_ ?_
          · rintro i x H' hi ⟨acc, rfl, ea, eb⟩
            obtain ⟨d, hd, x', rfl, hx⟩ := paired_at hD hi
            have hil : i < 1000 := by
              have := (List.getElem?_eq_some_iff.mp hd).1
              omega
            have hx2 : upd H D (.lst acc) x' = some (.tup (tupOf d)) := by rw [upd_ne (ne_of_none hx hD0)]; exact hx
            refine ⟨rfl, ?_⟩
            refine ⟨_, rfl, x', _, 2, _, rfl, rfl, SqT.of hx2, rfl, _, rfl, rfl, _, rfl, ?_⟩
            have et := cnt_take (w := wk) hd
            by_cases ew : d.work = wk
            · have e3 : decide (V.str d.work = V.str wk) = true := decide_eq_true (by rw [ew])
              rw [e3]
              refine iteT ?_
              refine ⟨_, rfl, acc, upd_same, small1000 (by omega), acc ++ [.ref x'], upd_upd, ?_, ?_⟩
              · rw [et, if_pos ew, List.length_append, ea]
                rfl
              · rw [List.length_append]
                show acc.length + 1 ≤ i + 1
                omega
            · have e3 : decide (V.str d.work = V.str wk) = false := decide_eq_false (fun z => ew (by injection z))
              rw [e3]
              refine iteF ?_
              refine ⟨acc, rfl, ?_, by omega⟩
              rw [et, if_neg ew, ea]
              rfl
          · rintro H' ⟨acc, rfl, ea, eb⟩
            refine ⟨D, _, rfl, .inl (SqL.of upd_same), _, _, rfl, rfl, _, rfl, ?_⟩
            have el : cntOf (ds.take xs.length) wk = cntOf ds wk := by rw [Paired.length hD, List.take_length]
            have hc := cntOf_le ds wk
            have em : made tr ds wk worth = some (1 + (cntOf ds wk : Int)) := by unfold made; rw [q]
            have k' := k (upd H D (.lst acc)) (same_upd hD0)
            rw [em] at k'
            rw [ea, el, clamp_id (by omega) (by omega)]
            exact k'
        | sum n =>
          have hb : H b = some (.tup [.str "sum", .int n]) := hw
          refine ⟨_, rfl, p, C, dx, _, _, rfl, hp, T.cl, T.nT, fl_trade _ _ _, _, rfl, t, _, rfl, hg, b, _, 0, _, rfl, rfl, SqT.of hb, rfl, rfl, _, rfl, ?_⟩
          have e3 : decide (V.str ("sum" : Str) = V.str ("count" : Str)) = false := by decide +kernel
          rw [e3]
          refine iteF ?_
          have em : made tr ds wk worth = some (clamp (worth.getD 0 + n)) := by unfold made; rw [q]
          have k' := k H (Same.refl H)
          rw [em] at k'
          cases worth with
          | none =>
            refine ⟨_, rfl, _, rfl, ?_⟩
            refine iteT ?_
            exact ⟨_, rfl, _, rfl, p, C, dx, _, _, rfl, hp, T.cl, T.nT, fl_trade _ _ _, _, rfl, t, _, rfl, hg, b, _, 1, _, rfl, rfl, SqT.of hb, rfl, _, _, rfl, rfl, _, rfl, k'⟩
          | some z =>
            refine ⟨_, rfl, _, rfl, ?_⟩
            refine iteF ?_
            exact ⟨_, rfl, _, rfl, p, C, dx, _, _, rfl, hp, T.cl, T.nT, fl_trade _ _ _, _, rfl, t, _, rfl, hg, b, _, 1, _, rfl, rfl, SqT.of hb, rfl, _, _, rfl, rfl, _, rfl, k'⟩
theorem scD : FnScope ["self"] ["self"] (defScope sDeeds) := ⟨rfl, rfl, rfl, by decide +kernel, rfl, by decide +kernel, by decide +kernel⟩
theorem ok_deeds {f C : Addr} {fd : FuncData} (F : Fun K "deeds" "Worker.deeds" sDeeds f fd) (T : Txt K mg C) : FnOk P w K mg base CX0 1 f fd ["self"] (spDeeds C) := by
  refine F.ok scD (fun vs H Q E h => ?_) (fun cdv A outer s H vs Q E hr h => ?_)
  · obtain ⟨p, l, a, tr, ds, xs, rfl, _⟩ := h
    rfl
  · obtain ⟨p, l, a, tr, ds, xs, rfl, W, hl, k⟩ := h
    obtain ⟨⟨dx, t, hp, _⟩, _, _⟩ := id W
    refine ⟨_, pss_one (ps_ret (pe_callTy call_list_of (by rfl) T.list boot_list (pa_cons (pe_fld (pv 0) rfl) pa_nil))), ?_⟩
    exact ⟨_, rfl, p, C, dx, _, _, rfl, hp, T.cl, T.nD, fl_done _ _ _, l, xs, rfl, .inl (SqL.of hl), fun r hr0 => k r hr0⟩
abbrev nDo : List Str := ["self", "run", "ticket", "work", "worth", "answer"]
theorem scO : FnScope nDo ["self", "run", "ticket", "work", "worth"] (defScope sDo) := ⟨rfl, rfl, rfl, by decide +kernel, rfl, by decide +kernel, by decide +kernel⟩
theorem ok_do {f C fM fK : Addr} {fd fdM fdK : FuncData} (F : Fun K "do" "Worker.do" sDo f fd) (T : Txt K mg C) (FM : Fun K "made_of" "Worker.made_of" sMadeOf fM fdM) (bM : Binds K fdM ["self", "work", "worth"] []) (mM : Meth K C "made_of" fM)
    (FK : Fun K "kept" "kept" sKept fK fdK) (bK : Binds K fdK ["number"] []) (mK : mg "kept" = some (.ref fK)) :
    FnOk P w K mg base CX0 3 f fd ["self", "run", "ticket", "work", "worth"] (spDo C) := by
  have GM : FnOk P w K mg base CX0 2 fM fdM ["self", "work", "worth"] (spMadeOf C) := ok_made FM T FK bK mK
  refine F.ok scO (fun vs H Q E h => ?_) (fun cdv A outer s H vs Q E hr h => ?_)
  · obtain ⟨p, l, a, tr, ds, i, j, wk, worth, rfl, _⟩ := h
    rfl
  · obtain ⟨p, l, a, tr, ds, i, j, wk, worth, rfl, W, hlen, k⟩ := h
    have hu := hu_of hr
    have hr2 : Room 2 _ := hr.mono (by decide)
    have f0 := W.start
    have nla := W.la
    obtain ⟨⟨dx, t, hp, hT⟩, ⟨xs, hl, hD⟩, ha⟩ := id W
    have h2 : 2 ≤ sizeLine := by show 2 ≤ sizeLine; decide
    have h5 : 5 ≤ sizeLine := by show 5 ≤ sizeLine; decide
    have lxs : xs.length = ds.length := Paired.length hD
    refine ⟨_, pss_cons (ps_if (pt_cmp (pc_dnotin hu (pe_tup (pa_cons (pv 1) (pa_cons (pv 2) pa_nil))) (pe_fld (pv 0) rfl)))
        (pss_cons (ps_set (i := 5) scO.nd rfl (Or.inl rfl) (pe_meth (pv 0) T.cl mM GM hr2 bM .nil pass0 (pa_cons (pv 3) (pa_cons (pv 4) pa_nil))))
        (pss_cons (ps_dput hu (pe_fld (pv 0) rfl) (pe_tup (pa_cons (pv 1) (pa_cons (pv 2) pa_nil))) (pv 5) rfl)
        (pss_one (ps_expr (pe_bm PySem.F.plainAttrs_list PySem.F.slot_list_append PySem.F.type_list_append mt_append (pe_fld (pv 0) rfl)
          (pa_cons (pe_tup (pa_cons (pv 1) (pa_cons (pv 2) (pa_cons (pv 3) (pa_cons (pv 4) (pa_cons (pv 5) pa_nil)))))) pa_nil)))))) pss_nil)
      (pss_one (ps_ret (pe_dget hu (pe_fld (pv 0) rfl) (pe_tup (pa_cons (pv 1) (pa_cons (pv 2) pa_nil))) (fun _ _ => rfl)))), ?_⟩
    refine ⟨_, rfl, _, rfl, h2, fun t1 ht1 => ?_⟩
    have f1 : Fr [l, a] H (upd H t1 (.tup [.int i, .int j])) := f0.new ht1
    refine ⟨_, rfl, p, C, dx, _, _, rfl, f1.ins hp, T.cl, T.nA, fl_answers _ _ _, a, _, rfl, DGet.t (k := kK i j) (by rw [upd_ne (ne_of_none ha ht1)]; exact ha) upd_same, _, rfl, ?_⟩
    rw [valV_ent]
    cases e : seek ds i j with
    | some d =>
      refine iteF ?_
      refine ⟨_, rfl, p, C, dx, _, _, rfl, f1.ins hp, T.cl, T.nA, fl_answers _ _ _, _, rfl, _, rfl, h2, fun t2 ht2 => ?_⟩
      have f2 := f1.new (o := .tup [.int i, .int j]) ht2
      have s2 : Same H (upd (upd H t1 (.tup [.int i, .int j])) t2 (.tup [.int i, .int j])) := (same_upd ht1).trans (same_upd ht2)
      have hv : valV (ds.map ent) (kK i j) = some (oV d.ans) := by rw [valV_ent, e]; rfl
      refine ⟨a, oV d.ans, rfl, .inr ⟨ds.map ent, kK i j, t2, .inl (s2 _ _ ha), rfl, upd_same, hv.symm⟩, ?_⟩
      exact k ds d.ans _ (by unfold step; rw [e]) f2 (W.same s2)
    | none =>
      refine iteT ?_
      have s1 : Same H (upd H t1 (.tup [.int i, .int j])) := same_upd ht1
      refine ⟨_, rfl, p, dx, _, rfl, s1 _ _ hp, fl_made _ _ _, _, rfl, _, rfl, p, l, a, tr, ds, wk, worth, rfl, W.same s1, hlen, fun H2 s2 => ?_⟩
      have f2 := f1.on s2
      have s02 : Same H H2 := s1.trans s2
      refine ⟨_, rfl, _, rfl, p, C, dx, _, _, rfl, f2.ins hp, T.cl, T.nA, fl_answers _ _ _, _, rfl, _, rfl, h2, fun t2 ht2 => ?_⟩
      have f3 := f2.new (o := .tup [.int i, .int j]) ht2
      have s3 : Same H (upd H2 t2 (.tup [.int i, .int j])) := s02.trans (same_upd ht2)
      refine ⟨a, _, rfl, DPut.t (k := kK i j) (s3 _ _ ha) upd_same (small1000 (by rw [List.length_map]; exact hlen)), ?_⟩
      have f4 := f3.put (t := a) (o := .dT (putK (ds.map ent) (kK i j) (oV (made tr ds wk worth)))) (by simp)
      refine ⟨_, rfl, p, C, dx, _, _, rfl, f4.ins hp, T.cl, T.nD, fl_done _ _ _, ?_⟩
      have hl4 := s3 _ _ hl
      refine ⟨.inl ⟨rfl, _, SqL.of (by rw [upd_ne nla]; exact hl4)⟩, _, rfl, _, rfl, _, rfl, _, rfl, _, rfl, h5, fun t3 ht3 => ?_⟩
      have f5 := f4.new (o := .tup [.int i, .int j, .str wk, oV worth, oV (made tr ds wk worth)]) ht3
      have nlt3 : l ≠ t3 := fun q => by rw [← q, upd_ne nla, hl4] at ht3; cases ht3
      have nat3 : a ≠ t3 := fun q => by rw [← q, upd_same] at ht3; cases ht3
      refine ⟨l, xs, _, rfl, rfl, (by rw [upd_ne nlt3, upd_ne nla]; exact hl4), small1000 (by omega), ?_⟩
      have f6 := f5.put (t := l) (o := .lst (xs ++ [.ref t3])) (by simp)
      refine ⟨_, rfl, p, C, dx, _, _, rfl, f6.ins hp, T.cl, T.nA, fl_answers _ _ _, _, rfl, _, rfl, h2, fun t4 ht4 => ?_⟩
      have f7 := f6.new (o := .tup [.int i, .int j]) ht4
      have nat4 : a ≠ t4 := fun q => by rw [← q, upd_ne nla.symm, upd_ne nat3, upd_same] at ht4; cases ht4
      have nlt4 : l ≠ t4 := fun q => by rw [← q, upd_same] at ht4; cases ht4
      have n34 : t3 ≠ t4 := fun q => by rw [← q, upd_ne nlt3.symm, upd_same] at ht4; cases ht4
      have ea : ∀ o1 o2 o3 o4 o5 : HO, upd (upd (upd (upd (upd H2 t2 o1) a o2) t3 o3) l o4) t4 o5 a = some o2 := fun o1 o2 o3 o4 o5 => by
        rw [upd_ne nat4, upd_ne nla.symm, upd_ne nat3, upd_same]
      have hv : valV (putK (ds.map ent) (kK i j) (oV (made tr ds wk worth))) (kK i j) = some (oV (made tr ds wk worth)) := by rw [valV_put, if_pos rfl]
      refine ⟨a, oV (made tr ds wk worth), rfl, .inr ⟨_, kK i j, t4, .inl (ea _ _ _ _ _), rfl, upd_same, hv.symm⟩, ?_⟩
      refine k (ds ++ [newDeed tr ds i j wk worth]) (made tr ds wk worth) _ (by unfold step; rw [e]) f7 ⟨⟨dx, t, f7.ins hp, hT.fr f7⟩, ⟨xs ++ [.ref t3], ?_, ?_⟩, ?_⟩
      · rw [upd_ne nlt4, upd_same]
      · refine Paired.snoc (hD.fr f7) ⟨t3, rfl, ?_⟩
        rw [upd_ne n34, upd_ne nlt3.symm, upd_same]
        rfl
      · rw [ea]
        exact congrArg (fun z => some (HO.dT z)) (put_ent (d := newDeed tr ds i j wk worth) e)
end
end OW
namespace OW
open PySem L2
def spCell (K : PySem.W.Frag) : Sp := fun vs H Q _ => ∃ (a : Addr) (ns : List Int), vs = [.ref a, .int 0] ∧ SqL K H a (ns.map V.int) ∧ ∀ z : Int, Q (.int z) H
abbrev dk (a b c : Int) : HO := .lst [.int a, .int b, .int c]
def spTake : Sp := fun vs H Q _ => ∃ (D : Addr) (m a b c : Int), vs = [.ref D, .int m] ∧ H D = some (dk a b c) ∧ 1 ≤ m ∧ m ≤ 1000000 ∧ 0 ≤ c ∧ c ≤ 1000 ∧
  ∀ r a' c' : Int, 0 ≤ r → r < m → 0 ≤ c' → c' ≤ c + 1 → Q (.int r) (upd H D (dk a' b c'))
def spLMade : Sp := fun vs H Q _ => ∃ (td e : Addr) (tr : Str → Option Tr) (ds : List Deed) (xs : List V) (w : Str) (worth : Option Int), vs = [.ref td, .ref e, .str w, oV worth] ∧ TradeAt H td tr ∧ H e = some (.lst xs) ∧ Deeds H xs ds ∧ ds.length ≤ 1000 ∧
  ∀ H', Same H H' → Q (oV (made tr ds w worth)) H'
def spTold (C : Addr) : Sp := fun vs H Q _ => ∃ (p l a e : Addr) (tr : Str → Option Tr) (ds : List Deed) (xs : List V), vs = [.ref p, .ref e] ∧ WorkerAt C H p l a tr ds ∧ H e = some (.lst xs) ∧ Deeds H xs ds ∧ Good ds ∧ ds.length ≤ 1000 ∧
  ∀ H', Same H H' → Q (.bl true) H'
def spNumber : Sp := fun vs H Q _ => ∃ (D : Addr) (sm a b c : Int), vs = [.ref D, .int sm] ∧ H D = some (dk a b c) ∧ 1 ≤ sm ∧ sm ≤ 1000000 ∧ 0 ≤ c ∧ c ≤ 900 ∧
  ∀ (n a' c' : Int) (H' : Hp), 0 ≤ c' → c' ≤ c + 10 → Fr [D] H H' → H' D = some (dk a' b c') → Q (.int n) H'
theorem fr_list {H : Hp} {D : Addr} {xs : List V} (h : H D = some (.lst xs)) : Fr [D] H H := ⟨fun b o e _ => e, fun b o m e => by
  rw [List.mem_singleton.mp m, h] at e
  cases e
  trivial⟩
theorem atI_ints {ns : List Int} {r : Int} (h0 : 0 ≤ r) (h1 : r < (ns.length : Int)) : ∃ z, atI (ns.map V.int) r = some (V.int z) := by
  obtain ⟨k, rfl⟩ := Int.eq_ofNat_of_zero_le h0
  have hk : k < ns.length := by omega
  exact ⟨ns[k], atI_nat (by rw [List.getElem?_map, List.getElem?_eq_getElem hk]; rfl)⟩
section
variable {P : Program} {w : World} {K : PySem.W.Frag} {mg : Str → Option Value} {base : Heap}
theorem scC : FnScope ["script", "k"] ["script", "k"] (defScope sCell) := ⟨rfl, rfl, rfl, by decide +kernel, rfl, by decide +kernel, by decide +kernel⟩
theorem ok_cell {f C : Addr} {fd : FuncData} (F : Fun K "_law_cell_at" "_law_cell_at" sCell f fd) (T : Txt K mg C) : FnOk P w K mg base CX0 1 f fd ["script", "k"] (spCell K) := by
  refine F.ok scC (fun vs H Q E h => ?_) (fun cdv A outer s H vs Q E hr h => ?_)
  · obtain ⟨a, ns, rfl, _⟩ := h
    rfl
  · obtain ⟨a, ns, rfl, hS, k⟩ := h
    refine ⟨_, pss_cons (ps_if (pt_cmpR op_lt (pv 1) (pe_callB call_len_seq (by rfl) T.len PySem.boot_len (pa_cons (pv 0) pa_nil)) (nomark _)) (pss_one (ps_ret (pe_ix ix_list (pv 0) (pv 1) (fun _ _ => rfl)))) pss_nil) (pss_one (ps_ret pe_int)), ?_⟩
    refine ⟨_, rfl, _, rfl, a, _, rfl, .inl hS, _, _, rfl, rfl, _, rfl, ?_⟩
    refine ite2 (fun hc => ?_) (fun _ => k 0)
    have hl : (0 : Int) < (ns.length : Int) := by
      have := of_decide_eq_true hc
      rw [List.length_map] at this
      exact this
    obtain ⟨z, hz⟩ := atI_ints (ns := ns) (Int.le_refl 0) hl
    exact ⟨_, rfl, _, rfl, a, _, 0, _, rfl, rfl, hS, hz, k z⟩
theorem scT : FnScope ["deck", "many", "come", "number"] ["deck", "many"] (defScope sTake) := ⟨rfl, rfl, rfl, by decide +kernel, rfl, by decide +kernel, by decide +kernel⟩
theorem ok_take {f C : Addr} {fd : FuncData} (F : Fun K "_law_take" "_law_take" sTake f fd) (T : Txt K mg C) : FnOk P w K mg base CX0 1 f fd ["deck", "many"] spTake := by
  refine F.ok scT (fun vs H Q E h => ?_) (fun cdv A outer s H vs Q E hr h => ?_)
  · obtain ⟨D, m, a, b, c, rfl, _⟩ := h
    rfl
  · obtain ⟨D, m, a, b, c, rfl, hD, hm1, hm2, hc1, hc2, k⟩ := h
    refine ⟨_, pss_cons (ps_if (pt_cmpR op_eq (pe_ix ix_list (pv 0) pe_int (fun _ _ => rfl)) pe_int (nomark _))
        (pss_cons (ps_set (i := 2) scT.nd rfl (Or.inl rfl) (pe_op op_mod (pe_ix ix_list (pv 0) pe_int (fun _ _ => rfl)) (pv 1)))
        (pss_cons (ps_asg (pe_op op_fdiv (pe_ix ix_list (pv 0) pe_int (fun _ _ => rfl)) (pv 1)) (pg_sub (pv 0) pe_int set_list))
        (pss_one (ps_ret (pv 2))))) pss_nil)
      (pss_cons (ps_asg (pe_op op_add (pe_ix ix_list (pv 0) pe_int (fun _ _ => rfl)) pe_int) (pg_sub (pv 0) pe_int set_list))
      (pss_cons (ps_set (i := 3) scT.nd rfl (Or.inl rfl) (pe_op op_mod (pe_op op_add (pe_op op_mul (pe_op op_mod (pe_ix ix_list (pv 0) pe_int (fun _ _ => rfl)) pe_int)
        (pe_op op_add (pe_op op_mul (pe_ix ix_list (pv 0) pe_int (fun _ _ => rfl)) (pe_ix ix_list (pv 0) pe_int (fun _ _ => rfl))) pe_int)) (pe_ix ix_list (pv 0) pe_int (fun _ _ => rfl))) pe_int))
      (pss_cons (ps_set (i := 3) scT.nd rfl (Or.inl rfl) (pe_op op_mod (pe_op op_mul (pv 3) (pv 3)) pe_int))
      (pss_one (ps_ret (pe_op op_mod (pe_op op_fdiv (pe_op op_mod (pe_op op_mul (pv 3) pe_int) pe_int) pe_int) (pv 1))))))), ?_⟩
    have hS := SqL.of (K := K) hD
    refine ⟨_, rfl, D, _, 1, _, rfl, rfl, hS, rfl, rfl, _, rfl, ?_⟩
    refine ite2 (fun _ => ?_) (fun _ => ?_)
    · refine ⟨_, rfl, D, _, 0, _, rfl, rfl, hS, rfl, _, rfl, _, _, rfl, rfl, (by show 0 < m; omega), ?_⟩
      refine ⟨_, rfl, D, _, 0, _, rfl, rfl, hS, rfl, _, rfl, _, _, rfl, rfl, ⟨by omega, by omega⟩, ?_⟩
      refine ⟨_, rfl, D, _, _, 0, rfl, rfl, hD, rfl, ?_⟩
      refine ⟨_, rfl, ?_⟩
      exact k (a % m) (a / m) c (Int.emod_nonneg _ (by omega)) (Int.emod_lt_of_pos _ (by omega)) hc1 (by omega)
    · refine ⟨_, rfl, D, _, 2, _, rfl, rfl, hS, rfl, _, _, rfl, rfl, ?_⟩
      refine ⟨_, rfl, D, _, _, 2, rfl, rfl, hD, rfl, ?_⟩
      have hS2 : SqL K (upd H D (dk a b (c + 1))) D [.int a, .int b, .int (c + 1)] := SqL.of upd_same
      refine ⟨_, rfl, D, _, 0, _, rfl, rfl, hS2, rfl, _, _, rfl, rfl, (by show (0 : Int) < 2147483647; decide), _, rfl, D, _, 2, _, rfl, rfl, hS2, rfl, _, rfl, D, _, 2, _, rfl, rfl, hS2, rfl, _, _, rfl, rfl, .inl ⟨by omega, by omega⟩, _, _, rfl, rfl, _, _, rfl, rfl, .inl ⟨by omega, by omega⟩,
        _, rfl, D, _, 2, _, rfl, rfl, hS2, rfl, _, _, rfl, rfl, _, _, rfl, rfl, (by show (0 : Int) < 2147483629; decide), ?_⟩
      refine ⟨_, rfl, _, rfl, _, _, rfl, rfl, .inl ⟨by omega, by omega⟩, _, _, rfl, rfl, (by show (0 : Int) < 2147483587; decide), ?_⟩
      refine ⟨_, rfl, _, _, rfl, rfl, .inl ⟨by omega, by omega⟩, _, _, rfl, rfl, (by show (0 : Int) < 2147483563; decide), _, _, rfl, rfl, ⟨by decide, by decide⟩, _, rfl, _, _, rfl, rfl, (by show 0 < m; omega), ?_⟩
      exact k _ a (c + 1) (Int.emod_nonneg _ (by omega)) (Int.emod_lt_of_pos _ (by omega)) (by omega) (by omega)
abbrev nLMade : List Str := ["trade", "deeds", "work", "worth", "deed"]
theorem scLM : FnScope nLMade ["trade", "deeds", "work", "worth"] (defScope sLMade) := ⟨rfl, rfl, rfl, by decide +kernel, rfl, by decide +kernel, by decide +kernel⟩
theorem ok_lmade {f C : Addr} {fd : FuncData} (F : Fun K "_law_made" "_law_made" sLMade f fd) (T : Txt K mg C) : FnOk P w K mg base CX0 1 f fd ["trade", "deeds", "work", "worth"] spLMade := by
  refine F.ok scLM (fun vs H Q E h => ?_) (fun cdv A outer s H vs Q E hr h => ?_)
  · obtain ⟨td, e, tr, ds, xs, wk, worth, rfl, _⟩ := h
    rfl
  · obtain ⟨t, l, tr, ds, xs, wk, worth, rfl, ⟨kvs, ht, hT⟩, hl, hD, hlen, k⟩ := h
    have hu := hu_of hr
    have hw := hT wk
    refine ⟨_, pss_cons (ps_if (pt_cmp (pc_dnotin hu (pv 2) (pv 0))) (pss_one (ps_ret pe_non)) pss_nil)
      (pss_cons (ps_if (pt_cmpR op_eq (pe_ix ix_tup (pe_dget hu (pv 0) (pv 2) (fun _ _ => rfl)) pe_int (fun _ _ => rfl)) pe_str (nomark _))
        (pss_one (ps_ret (pe_op op_add pe_int (pe_callB call_len_seq (by rfl) T.len PySem.boot_len (pa_cons
          (pe_lc (own := [("deed", 4)]) (g := gName 4) rfl scLM.nd (pi_list (pv 1)) (blkOk_by (own := [("deed", 4)]) (N := nLMade) (sc := defScope sLMade) (by decide +kernel))
            (fun _ _ _ _ _ => pg_name (i := 4) scLM.nd rfl (Or.inl rfl)) (fun _ _ _ _ _ => pts_one (pt_cmpR op_eq (pe_ix (r := rIxT K) ix_tup (pv 4) pe_int (fun _ _ => rfl)) (pv 2) (nomark _))) (fun _ _ _ _ _ => pv 4)) pa_nil))))) pss_nil)
      (pss_cons (ps_if (pt_cmp (pc_isN (pv 3))) (pss_one (ps_set (i := 3) scLM.nd rfl (Or.inl rfl) pe_int)) pss_nil)
      (pss_one (ps_ret (pe_callB (call_max2 rfl) (by rfl) T.max boot_max (pa_cons (pe_op op_sub pe_int (pe_op op_pow pe_int pe_int))
        (pa_cons (pe_callB (call_min2 rfl) (by rfl) T.min boot_min (pa_cons (pe_op op_pow pe_int pe_int)
          (pa_cons (pe_op op_add (pv 3) (pe_ix ix_tup (pe_dget hu (pv 0) (pv 2) (fun _ _ => rfl)) pe_int (fun _ _ => rfl))) pa_nil))) pa_nil))))))), ?_⟩
    refine ⟨_, rfl, _, rfl, t, _, rfl, DGet.k (k := Sum.inr wk) ht, _, rfl, ?_⟩
    cases e : valV kvs (Sum.inr wk : L2.Key) with
    | none =>
      refine iteT ?_
      rw [e] at hw
      have em : made tr ds wk worth = none := by
        unfold made
        cases q : tr wk with
        | none => rfl
        | some z => rw [q] at hw; exact (show False from hw).elim
      have k' := k H (Same.refl H)
      rw [em] at k'
      exact k'
    | some v =>
      refine iteF ?_
      rw [e] at hw
      cases q : tr wk with
      | none => rw [q] at hw; cases v <;> exact (show False from hw).elim
      | some z =>
        rw [q] at hw
        obtain ⟨b, rfl⟩ : ∃ b, v = V.ref b := by
          cases v with
          | ref b => exact ⟨b, rfl⟩
          | _ => exact (show False from hw).elim
        have hg : DGet H t (V.str wk) (some (V.ref b)) := by rw [← e]; exact DGet.k (k := Sum.inr wk) ht
        cases z with
        | cnt =>
          have hb : H b = some (.tup [.str "count"]) := hw
          refine ⟨_, rfl, _, rfl, t, _, rfl, hg, b, _, 0, _, rfl, rfl, SqT.of hb, rfl, rfl, _, rfl, ?_⟩
          refine iteT ?_
          refine ⟨_, rfl, l, rfl, ⟨_, SqL.of hl⟩, fun D hD0 => ?_⟩
          refine lc_list (K := K) (a := l) (xs := xs) (fun i H' => ∃ acc, H' = upd H D (.lst acc) ∧ acc.length = cntOf (ds.take i) wk ∧ acc.length ≤ i)
            ⟨[], rfl, by rw [List.take_zero]; rfl, Nat.le_refl _⟩ (fun i H' _ ⟨acc, e', _⟩ => by
              subst e'
              exact SqL.of (by rw [upd_ne (ne_of_none hl hD0)]; exact hl)) ?_ ?_
          · rintro i x H' hi ⟨acc, rfl, ea, eb⟩
            obtain ⟨d, hd, x', rfl, hx⟩ := paired_at hD hi
            have hil : i < 1000 := by
              have := (List.getElem?_eq_some_iff.mp hd).1
              omega
            have hx2 : upd H D (.lst acc) x' = some (.tup (tupOf d)) := by rw [upd_ne (ne_of_none hx hD0)]; exact hx
            refine ⟨rfl, ?_⟩
            refine ⟨_, rfl, x', _, 2, _, rfl, rfl, SqT.of hx2, rfl, _, rfl, rfl, _, rfl, ?_⟩
            have et := cnt_take (w := wk) hd
            by_cases ew : d.work = wk
            · have e3 : decide (V.str d.work = V.str wk) = true := decide_eq_true (by rw [ew])
              rw [e3]
              refine iteT ?_
              refine ⟨_, rfl, acc, upd_same, small1000 (by omega), acc ++ [.ref x'], upd_upd, ?_, ?_⟩
              · rw [et, if_pos ew, List.length_append, ea]
                rfl
              · rw [List.length_append]
                show acc.length + 1 ≤ i + 1
                omega
            · have e3 : decide (V.str d.work = V.str wk) = false := decide_eq_false (fun z => ew (by injection z))
              rw [e3]
              refine iteF ?_
              refine ⟨acc, rfl, ?_, by omega⟩
              rw [et, if_neg ew, ea]
              rfl
          · rintro H' ⟨acc, rfl, ea, eb⟩
            refine ⟨D, _, rfl, .inl (SqL.of upd_same), _, _, rfl, rfl, ?_⟩
            have el : cntOf (ds.take xs.length) wk = cntOf ds wk := by rw [Paired.length hD, List.take_length]
            have em : made tr ds wk worth = some (1 + (cntOf ds wk : Int)) := by unfold made; rw [q]
            have k' := k (upd H D (.lst acc)) (same_upd hD0)
            rw [em] at k'
            rw [ea, el]
            exact k'
        | sum n =>
          have hb : H b = some (.tup [.str "sum", .int n]) := hw
          refine ⟨_, rfl, _, rfl, t, _, rfl, hg, b, _, 0, _, rfl, rfl, SqT.of hb, rfl, rfl, _, rfl, ?_⟩
          have e3 : decide (V.str ("sum" : Str) = V.str ("count" : Str)) = false := by decide +kernel
          rw [e3]
          refine iteF ?_
          have em : made tr ds wk worth = some (clamp (worth.getD 0 + n)) := by unfold made; rw [q]
          have k' := k H (Same.refl H)
          rw [em] at k'
          have c9 : CPow 10 9 := ⟨by decide, by decide, by decide⟩
          have e9 : (10 : Int) ^ (9 : Int).toNat = 1000000000 := by decide
          cases worth with
          | none =>
            refine ⟨_, rfl, _, rfl, ?_⟩
            refine iteT ?_
            refine ⟨_, _, rfl, rfl, c9, _, _, rfl, rfl, _, _, rfl, rfl, c9, _, rfl, _, rfl, _, rfl, t, _, rfl, hg, b, _, 1, _, rfl, rfl, SqT.of hb, rfl, _, _, rfl, rfl, _, _, rfl, _, _, rfl, ?_⟩
            rw [e9]
            exact k'
          | some z =>
            refine ⟨_, rfl, _, rfl, ?_⟩
            refine iteF ?_
            refine ⟨_, _, rfl, rfl, c9, _, _, rfl, rfl, _, _, rfl, rfl, c9, _, rfl, _, rfl, _, rfl, t, _, rfl, hg, b, _, 1, _, rfl, rfl, SqT.of hb, rfl, _, _, rfl, rfl, _, _, rfl, _, _, rfl, ?_⟩
            rw [e9]
            exact k'
theorem scTo : FnScope ["worker", "deeds", "told"] ["worker", "deeds"] (defScope sTold) := ⟨rfl, rfl, rfl, by decide +kernel, rfl, by decide +kernel, by decide +kernel⟩
theorem ok_told {f C fD : Addr} {fd fdD : FuncData} (F : Fun K "_law_told_right" "_law_told_right" sTold f fd) (T : Txt K mg C) (FD : Fun K "deeds" "Worker.deeds" sDeeds fD fdD) (bD : Binds K fdD ["self"] []) (mD : Meth K C "deeds" fD) :
    FnOk P w K mg base CX0 2 f fd ["worker", "deeds"] (spTold C) := by
  have GD : FnOk P w K mg base CX0 1 fD fdD ["self"] (spDeeds C) := ok_deeds FD T
  refine F.ok scTo (fun vs H Q E h => ?_) (fun cdv A outer s H vs Q E hr h => ?_)
  · obtain ⟨p, l, a, e, tr, ds, xs, rfl, _⟩ := h
    rfl
  · obtain ⟨p, l, a, e, tr, ds, xs, rfl, W, he, hD, hG, hlen, k⟩ := h
    have hu := hu_of hr
    have hr1 : Room 1 _ := hr.mono (by decide)
    obtain ⟨⟨dx, t, hp, _⟩, ⟨xl, hl, hL⟩, _⟩ := id W
    refine ⟨_, pss_cons (ps_set (i := 2) scTo.nd rfl (Or.inl rfl) (pe_meth0 (pv 0) T.cl mD GD hr1 bD .nil pass0))
      (pss_cons (ps_if (PW.pt (pw_or (pt_not (pt_val (pe_callB call_isi (by rfl) T.isi boot_isinstance (pa_cons (pv 2) (pa_cons (pe_bltn (v := .ty "list") (by rfl) T.list boot_list rfl) pa_nil)))))
          (pw_or1 (pt_cmpR (op_neD hr.units) (pv 2) (pv 1) (nomark _))))) (pss_one (ps_ret pe_bl)) pss_nil)
      (pss_cons (ps_expr (pe_bm PySem.F.plainAttrs_list PySem.F.slot_list_append PySem.F.type_list_append mt_append (pv 2) (pa_cons pe_str pa_nil)))
      (pss_one (ps_ret (pe_cmpR (op_eqD hr.units) (pe_meth0 (pv 0) T.cl mD GD hr1 bD .nil pass0) (pv 1) (nomark _)))))), ?_⟩
    refine ⟨_, rfl, p, dx, _, rfl, hp, fl_deeds _ _ _, p, l, a, tr, ds, xl, rfl, W, hl, fun r hr0 => ?_⟩
    have s1 : Same H (upd H r (.lst xl)) := same_upd hr0
    have f1 := same_fr s1
    refine ⟨_, rfl, _, _, _, _, _, rfl, .ty _, .base (.lst upd_same), kit_ty (r := true) (by decide +kernel), _, rfl, ?_⟩
    refine iteF ?_
    refine ⟨_, rfl, _, rfl, _, _, dp_list upd_same (hL.fr f1), dp_list (s1 _ _ he) (hD.fr f1), shaped_deeds hG, shaped_deeds hG, _, rfl, ?_⟩
    rw [eqv_deeds hG]
    refine iteF ?_
    have hxl : xl.length = ds.length := Paired.length hL
    refine ⟨_, rfl, .inl ⟨rfl, _, SqL.of upd_same⟩, r, xl, _, rfl, rfl, upd_same, small1000 (by omega), ?_⟩
    rw [upd_upd]
    have s2 : Same H (upd H r (.lst (xl ++ [.str "more"]))) := same_upd hr0
    refine ⟨_, rfl, p, dx, _, rfl, s2 _ _ hp, fl_deeds _ _ _, p, l, a, tr, ds, xl, rfl, W.same s2, s2 _ _ hl, fun r2 hr2 => ?_⟩
    have s3 := s2.trans (same_upd (o := .lst xl) hr2)
    have f3 := same_fr s3
    refine ⟨_, rfl, _, _, dp_list upd_same (hL.fr f3), dp_list (s3 _ _ he) (hD.fr f3), shaped_deeds hG, shaped_deeds hG, ?_⟩
    rw [eqv_deeds hG]
    exact k _ s3
theorem scN : FnScope ["deck", "small", "far", "way"] ["deck", "small"] (defScope sNumber) := ⟨rfl, rfl, rfl, by decide +kernel, rfl, by decide +kernel, by decide +kernel⟩
theorem ok_number {f C fT : Addr} {fd fdT : FuncData} (F : Fun K "_law_number" "_law_number" sNumber f fd) (T : Txt K mg C) (FT : Fun K "_law_take" "_law_take" sTake fT fdT) (bT : Binds K fdT ["deck", "many"] []) (mT : mg "_law_take" = some (.ref fT)) :
    FnOk P w K mg base CX0 2 f fd ["deck", "small"] spNumber := by
  have GT : FnOk P w K mg base CX0 1 fT fdT ["deck", "many"] spTake := ok_take FT T
  refine F.ok scN (fun vs H Q E h => ?_) (fun cdv A outer s H vs Q E hr h => ?_)
  · obtain ⟨D, sm, a, b, c, rfl, _⟩ := h
    rfl
  · obtain ⟨D, sm, a, b, c, rfl, hD, hm1, hm2, hc1, hc2, k⟩ := h
    have hr1 : Room 1 _ := hr.mono (by decide)
    refine ⟨_, pss_cons (ps_set (i := 2) scN.nd rfl (Or.inl rfl) (pe_lst (pa_cons pe_int (pa_cons pe_int (pa_cons pe_int (pa_cons pe_int (pa_cons pe_int (pa_cons pe_int (pa_cons pe_int (pa_cons pe_int (pa_cons pe_int (pa_cons pe_int (pa_cons pe_int (pa_cons pe_int pa_nil))))))))))))))
      (pss_cons (ps_set (i := 3) scN.nd rfl (Or.inl rfl) (pe_call GT hr1 rfl mT FT.kp bT .nil pass0 (pa_cons (pv 0) (pa_cons pe_int pa_nil))))
      (pss_one (ps_ret (pe_ix ix_list (pe_lst (pa_cons (pe_ix ix_list (pv 2) (pe_call GT hr1 rfl mT FT.kp bT .nil pass0 (pa_cons (pv 0) (pa_cons pe_int pa_nil))) (fun _ _ => rfl))
        (pa_cons (pe_call GT hr1 rfl mT FT.kp bT .nil pass0 (pa_cons (pv 0) (pa_cons (pe_op op_pow pe_int pe_int) pa_nil)))
        (pa_cons (pe_call GT hr1 rfl mT FT.kp bT .nil pass0 (pa_cons (pv 0) (pa_cons (pv 1) pa_nil)))
        (pa_cons (pe_call GT hr1 rfl mT FT.kp bT .nil pass0 (pa_cons (pv 0) (pa_cons (pv 1) pa_nil))) pa_nil))))) (pv 3) (fun _ _ => rfl))))), ?_⟩
    refine ⟨(by show 12 ≤ sizeLine; decide), fun r hr0 => ?_⟩
    have nDr : D ≠ r := ne_of_none hD hr0
    have f0 := fr_list hD
    have hfar : ∀ o : HO, upd (upd H r (.lst (([0, 1, 2, 10, 11, 12, 64, 100, 101, 110, 128, 1000] : List Int).map V.int))) D o r = some (.lst (([0, 1, 2, 10, 11, 12, 64, 100, 101, 110, 128, 1000] : List Int).map V.int)) := fun o => by
      rw [upd_ne nDr.symm, upd_same]
    refine ⟨_, rfl, D, 4, a, b, c, rfl, (by rw [upd_ne nDr]; exact hD), by decide, by decide, hc1, by omega, fun way a1 c1 w0 w1 c10 c11 => ?_⟩
    refine ⟨_, rfl, _, rfl, D, 12, a1, b, c1, rfl, upd_same, by decide, by decide, c10, by omega, fun r1 a2 c2 x0 x1 c20 c21 => ?_⟩
    rw [upd_upd]
    obtain ⟨z1, hz1⟩ := atI_ints (ns := [0, 1, 2, 10, 11, 12, 64, 100, 101, 110, 128, 1000]) x0 x1
    refine ⟨r, _, r1, _, rfl, rfl, SqL.of (hfar _), hz1, ?_⟩
    refine ⟨_, rfl, _, _, rfl, rfl, ⟨by decide, by decide, by decide⟩, D, _, a2, b, c2, rfl, upd_same, by decide, by decide, c20, by omega, fun z2 a3 c3 _ _ c30 c31 => ?_⟩
    rw [upd_upd]
    refine ⟨_, rfl, _, rfl, D, sm, a3, b, c3, rfl, upd_same, hm1, hm2, c30, by omega, fun z3 a4 c4 _ _ c40 c41 => ?_⟩
    rw [upd_upd]
    refine ⟨_, rfl, _, rfl, D, sm, a4, b, c4, rfl, upd_same, hm1, hm2, c40, by omega, fun z4 a5 c5 _ _ c50 c51 => ?_⟩
    rw [upd_upd]
    refine ⟨(by show 4 ≤ sizeLine; decide), fun q hq => ?_⟩
    have nDq : D ≠ q := fun z => by rw [← z, upd_same] at hq; cases hq
    obtain ⟨z, hz⟩ := atI_ints (ns := [z1, z2, z3, z4]) w0 w1
    refine ⟨_, rfl, q, _, way, _, rfl, rfl, SqL.of upd_same, hz, ?_⟩
    refine k z a5 c5 _ c50 (by omega) (((f0.new hr0).put (by simp)).new hq) ?_
    rw [upd_ne nDq, upd_same]
end
end OW
namespace OW
open PySem L2
abbrev TRow := Str × Addr × Tr
def kvOf (r : TRow) : L2.Key × V := (Sum.inr r.1, .ref r.2.1)
def trT : Tr → List V
  | .cnt => [.str "count"]
  | .sum n => [.str "sum", .int n]
def look (rs : List (Str × Tr)) (w : Str) : Option Tr := (rs.find? fun r => decide (r.1 = w)).map (·.2)
theorem trv_of {H : Hp} (w : Str) : ∀ rows : List TRow, (∀ r ∈ rows, H r.2.1 = some (.tup (trT r.2.2))) → TrV H (valV (rows.map kvOf) (Sum.inr w : L2.Key)) (look (rows.map fun r => (r.1, r.2.2)) w)
  | [], _ => trivial
  | r :: rest, h => by
    have ih := trv_of w rest fun x hx => h x (List.mem_cons_of_mem _ hx)
    have hr := h r List.mem_cons_self
    rw [List.map_cons, List.map_cons]
    unfold look
    by_cases e : r.1 = w
    · rw [valV_pos (p := kvOf r) (show (Sum.inr r.1 : L2.Key) = Sum.inr w by rw [e]), List.find?_cons_of_pos (by simp [e])]
      obtain ⟨x, t, tr⟩ := r
      cases tr with
      | cnt => exact hr
      | sum n => exact hr
    · rw [valV_neg (p := kvOf r) (show ¬ (Sum.inr r.1 : L2.Key) = Sum.inr w from fun z => e (Sum.inr.inj z)), List.find?_cons_of_neg (by simp [e])]
      exact ih
theorem trade_of {H : Hp} {t : Addr} {rows : List TRow} (h : H t = some (.dK (rows.map kvOf))) (hr : ∀ r ∈ rows, H r.2.1 = some (.tup (trT r.2.2))) : TradeAt H t (look (rows.map fun r => (r.1, r.2.2))) :=
  ⟨_, h, fun w => trv_of w rows hr⟩
theorem valV_no {kvs : List (L2.Key × V)} {k : L2.Key} (h : k ∉ kvs.map (·.1)) : valV kvs k = none := by
  induction kvs with
  | nil => rfl
  | cons p r ih =>
    rw [List.map_cons] at h
    rw [valV_neg (fun e => h (by rw [← e]; exact List.mem_cons_self))]
    exact ih fun z => h (List.mem_cons_of_mem _ z)
theorem merge_nodup : ∀ (more kvs : List (L2.Key × V)), ((kvs ++ more).map (·.1)).Nodup → mergeK kvs more = kvs ++ more
  | [], kvs, _ => by rw [List.append_nil]; rfl
  | p :: r, kvs, h => by
    have e : kvs ++ p :: r = (kvs ++ [p]) ++ r := by simp
    rw [e] at h ⊢
    have hn : valV kvs p.1 = none := valV_no fun hm => by
      rw [List.append_assoc, List.map_append, List.nodup_append] at h
      exact h.2.2 p.1 hm p.1 (by simp) rfl
    show mergeK (putK kvs p.1 p.2) r = _
    rw [putK_new _ hn]
    exact merge_nodup r (kvs ++ [p]) h
theorem valV_self : ∀ {kvs : List (L2.Key × V)}, (kvs.map (·.1)).Nodup → ∀ p ∈ kvs, valV kvs p.1 = some p.2
  | [], _, p, hp => nomatch hp
  | q :: r, h, p, hp => by
    rw [List.map_cons, List.nodup_cons] at h
    rcases List.mem_cons.mp hp with e | hp
    · subst e
      exact valV_pos rfl
    · rw [valV_neg (fun e => h.1 (by rw [e]; exact List.mem_map_of_mem hp))]
      exact valV_self h.2 p hp
def PairTup (H : Hp) (x : V) (p : Int × Int) : Prop := ∃ t, x = .ref t ∧ H t = some (.tup [.int p.1, .int p.2])
theorem PairTup.fr {ex : List Addr} {H H' : Hp} {x : V} {p : Int × Int} (f : Fr ex H H') (h : PairTup H x p) : PairTup H' x p := by
  obtain ⟨t, e, h⟩ := h
  exact ⟨t, e, f.tup h⟩
def tPr (p : Int × Int) : TE := fun _ H Q => ∀ t, H t = none → Q (.ref t) (upd H t (.tup [.int p.1, .int p.2]))
def tPrs (ps : List (Int × Int)) : TA := fun _ H Q => ∀ (xs : List V) (H' : Hp), Same H H' → Paired (PairTup H') xs ps → Q xs H'
section
variable {X : Cx}
theorem pe_imp {e : Expr} {t t' : TE} (h : PE X e t) (i : ∀ σ H Q, t' σ H Q → t σ H Q) : PE X e t' := ⟨fun pins s σ H Q I q => h.run pins s σ H Q I (i σ H Q q)⟩
theorem pa_imp {es : List Expr} {t t' : TA} (h : PA X es t) (i : ∀ σ H Q, t' σ H Q → t σ H Q) : PA X es t' := ⟨fun pos pins s σ H Q I q => h.run pos pins s σ H Q I (i σ H Q q)⟩
theorem pr_int {a b : Int} {i j k : Nat} {p1 p2 p3 : Pos} : PE X (.Tuple [.Constant (.int a) i p1, .Constant (.int b) j p2] k p3) (tPr (a, b)) :=
  pe_imp (pe_tup (pa_cons pe_int (pa_cons pe_int pa_nil))) fun _ _ _ q => ⟨by show 2 ≤ sizeLine; decide, q⟩
theorem prs_nil : PA X [] (tPrs []) := pa_imp pa_nil fun σ H Q q => q [] H (Same.refl H) .nil
theorem prs_cons {e : Expr} {es : List Expr} {p : Int × Int} {ps : List (Int × Int)} (he : PE X e (tPr p)) (hr : PA X es (tPrs ps)) (hs : starEach (e :: es) X.env = (false, eval e X.env) :: starEach es X.env := by rfl) : PA X (e :: es) (tPrs (p :: ps)) :=
  pa_imp (pa_cons he hr hs) fun _ H Q q t ht xs H' s hp => q (.ref t :: xs) H' ((same_upd ht).trans s) (.cons ⟨t, rfl, s _ _ upd_same⟩ hp)
end
theorem pairs_fr {ex : List Addr} {H H' : Hp} {xs : List V} {ps : List (Int × Int)} (f : Fr ex H H') (h : Paired (PairTup H) xs ps) : Paired (PairTup H') xs ps := Paired.mapP h fun _ _ z => z.fr f
theorem pairs_app {H : Hp} : ∀ {xs ys : List V} {ps qs : List (Int × Int)}, Paired (PairTup H) xs ps → Paired (PairTup H) ys qs → Paired (PairTup H) (xs ++ ys) (ps ++ qs)
  | _, _, _, _, .nil, h => h
  | _, _, _, _, .cons r t, h => .cons r (pairs_app t h)
theorem pairs_at {H : Hp} : ∀ {xs : List V} {ps : List (Int × Int)} {i : Nat} {p : Int × Int}, Paired (PairTup H) xs ps → ps[i]? = some p → ∃ x, xs[i]? = some x ∧ PairTup H x p
  | _, _, _, _, .nil, e => by simp at e
  | _, _, 0, _, .cons r _, e => by simp at e; subst e; exact ⟨_, rfl, r⟩
  | _, _, i + 1, p, .cons _ t, e => by
    obtain ⟨x, h1, h2⟩ := pairs_at (i := i) (p := p) t (by simpa using e)
    exact ⟨x, by simpa using h1, h2⟩
def trU : Str → Option Tr := look [("cnt", .cnt), ("tally", .cnt), ("sum", .sum 1)]
def someA : List (Int × Int) := [(1, 10), (11, 0), (110, 0), (0, 110), (1, 0), (0, 1), (0, 64), (128, 0), (10, 0), (0, 10), (1, 100)]
def someB : List (Int × Int) := [(0, 1000), (1000, 0), (0, 256), (2, 0), (0, 2), (1000000, 0), (0, 1000000), (1, 1), (0, 0)]
def someL : List (Int × Int) := someA ++ someB
def someAt (k : Nat) : Int × Int := someL.getD k (0, 0)
theorem someL_at {k : Nat} (h : k < 20) : someL[k]? = some (someAt k) := by
  have hl : someL.length = 20 := rfl
  unfold someAt
  rw [List.getD_eq_getElem?_getD, List.getElem?_eq_getElem (by omega)]
  rfl
def dA (k : Nat) : Deed := ⟨(someAt k).1, (someAt k).2, "cnt", some (k : Int), some ((k : Int) + 1)⟩
def dB (k : Nat) : Deed := ⟨7777 + (k : Int), (k : Int), "tally", some (k : Int), some ((k : Int) + 1)⟩
def base1 : Nat → List Deed
  | 0 => []
  | k + 1 => base1 k ++ [dA k] ++ [dB k]
theorem base1_len : ∀ k, (base1 k).length = 2 * k
  | 0 => rfl
  | k + 1 => by
    show (base1 k ++ [dA k] ++ [dB k]).length = _
    rw [List.length_append, List.length_append, base1_len k]
    show 2 * k + 1 + 1 = 2 * (k + 1)
    omega
theorem stepA : ∀ k : Nat, k < 20 → step trU (base1 k) (someAt k).1 (someAt k).2 "cnt" (some (k : Int)) = (base1 k ++ [dA k], some ((k : Int) + 1)) := by decide +kernel
theorem stepB : ∀ k : Nat, k < 20 → step trU (base1 k ++ [dA k]) (7777 + (k : Int)) (k : Int) "tally" (some (k : Int)) = (base1 (k + 1), some ((k : Int) + 1)) := by decide +kernel
def dC (k : Nat) : Deed := ⟨2000 + (k : Int) / 20, 30 + (k : Int) % 20, "sum", some (k : Int), some ((k : Int) + 1)⟩
def base2 (k : Nat) : List Deed := base1 20 ++ (List.range k).map dC
theorem base2_len (k : Nat) : (base2 k).length = 40 + k := by
  unfold base2
  rw [List.length_append, base1_len, List.length_map, List.length_range]
theorem far1 : ∀ d ∈ base1 20, d.run < 2000 ∨ 2016 ≤ d.run := by decide +kernel
theorem seekC {k : Nat} (hk : k < 320) : seek (base2 k) (2000 + (k : Int) / 20) (30 + (k : Int) % 20) = none := by
  unfold seek base2
  rw [List.find?_eq_none]
  intro d hd
  rcases List.mem_append.mp hd with h | h
  · have := far1 d h
    simp only [isKey, Bool.and_eq_true, decide_eq_true_eq]
    omega
  · obtain ⟨m, hm, rfl⟩ := List.mem_map.mp h
    have := List.mem_range.mp hm
    intro z
    have z1 : ((2000 + (m : Int) / 20 = 2000 + (k : Int) / 20) ∧ (30 + (m : Int) % 20 = 30 + (k : Int) % 20)) := by
      unfold isKey at z
      rw [Bool.and_eq_true] at z
      exact ⟨of_decide_eq_true z.1, of_decide_eq_true z.2⟩
    omega
theorem stepC {k : Nat} (hk : k < 320) : step trU (base2 k) (2000 + (k : Int) / 20) (30 + (k : Int) % 20) "sum" (some (k : Int)) = (base2 (k + 1), some ((k : Int) + 1)) := by
  have e1 : trU "sum" = some (.sum 1) := by rfl
  have e2 : made trU (base2 k) "sum" (some (k : Int)) = some ((k : Int) + 1) := by
    unfold made
    rw [e1]
    show some (clamp ((k : Int) + 1)) = _
    rw [clamp_id (by omega) (by omega)]
  unfold step
  rw [seekC hk]
  show (base2 k ++ [newDeed trU (base2 k) _ _ _ _], made trU (base2 k) "sum" (some (k : Int))) = _
  unfold newDeed
  rw [e2]
  unfold base2
  rw [List.range_succ, List.map_append, ← List.append_assoc]
  rfl
theorem stepD : ∀ i : Nat, i < 12 → step trU (base2 320) (2000 + (0 + (i : Int) * 29) / 20) (30 + (0 + (i : Int) * 29) % 20) "sum" (some (5 * (0 + (i : Int) * 29) + 1)) = (base2 320, some (0 + (i : Int) * 29 + 1)) := by
  have h : ∀ i : Nat, i < 12 → (seek (base2 320) (2000 + (0 + (i : Int) * 29) / 20) (30 + (0 + (i : Int) * 29) % 20)).map (·.ans) = some (some (0 + (i : Int) * 29 + 1)) := by decide +kernel
  intro i hi
  have e := h i hi
  unfold step
  cases q : seek (base2 320) (2000 + (0 + (i : Int) * 29) / 20) (30 + (0 + (i : Int) * 29) % 20) with
  | none => rw [q] at e; cases e
  | some d =>
    rw [q] at e
    show (base2 320, d.ans) = _
    rw [Option.some.inj (show some d.ans = some _ from e)]
theorem stepE : ∀ i : Nat, i < 20 → step trU (base2 320) (someAt i).1 (someAt i).2 "sum" (some 9) = (base2 320, some ((i : Int) + 1)) := by
  have h : ∀ i : Nat, i < 20 → (seek (base2 320) (someAt i).1 (someAt i).2).map (·.ans) = some (some ((i : Int) + 1)) := by decide +kernel
  intro i hi
  have e := h i hi
  unfold step
  cases q : seek (base2 320) (someAt i).1 (someAt i).2 with
  | none => rw [q] at e; cases e
  | some d =>
    rw [q] at e
    show (base2 320, d.ans) = _
    rw [Option.some.inj (show some d.ans = some _ from e)]
end OW
namespace OW
open PySem L2
structure Tops (K : PySem.W.Frag) (mg : Str → Option Value) (C fI fO fM fD fK : Addr) (fdI fdO fdM fdD fdK : FuncData) : Prop where
  T : Txt K mg C
  M : Mk K C fI
  FI : Fun K "__init__" "Worker.__init__" sInit fI fdI
  bI : Binds K fdI ["self", "trade"] []
  FO : Fun K "do" "Worker.do" sDo fO fdO
  bO : Binds K fdO ["self", "run", "ticket", "work", "worth"] []
  mO : Meth K C "do" fO
  FM : Fun K "made_of" "Worker.made_of" sMadeOf fM fdM
  bM : Binds K fdM ["self", "work", "worth"] []
  mM : Meth K C "made_of" fM
  FD : Fun K "deeds" "Worker.deeds" sDeeds fD fdD
  bD : Binds K fdD ["self"] []
  mD : Meth K C "deeds" fD
  FK : Fun K "kept" "kept" sKept fK fdK
  bK : Binds K fdK ["number"] []
  mK : mg "kept" = some (.ref fK)
theorem made_w {C : Addr} {H1 H' : Hp} {x dx td t l a : Addr} {kvs : List (L2.Key × V)} {tr : Str → Option Tr} (T : TradeAt H1 td tr) (e : H1 td = some (.dK kvs)) (nx : H1 x = none) (ndx : H1 dx = none)
    (keep : ∀ b o, upd (upd H1 dx (.own x)) x (.ins C dx []) b = some o → b ≠ x → H' b = some o) (hl0 : upd (upd H1 dx (.own x)) x (.ins C dx []) l = none) (ha0 : upd (upd H1 dx (.own x)) x (.ins C dx []) a = none)
    (hx : H' x = some (.ins C dx (fl t l a))) (ht : H' t = some (.dK kvs)) (hl : H' l = some (.lst [])) (ha : H' a = some (.dT [])) : Same H1 H' ∧ WorkerAt C H' x l a tr [] ∧ H1 l = none ∧ H1 a = none := by
  have S0 : Same H1 (upd (upd H1 dx (.own x)) x (.ins C dx [])) := fun b o q => by
    rw [upd_ne (ne_of_none q nx), upd_ne (ne_of_none q ndx)]
    exact q
  have S : Same H1 H' := fun b o q => keep b o (S0 b o q) (ne_of_none q nx)
  exact ⟨S, ⟨⟨dx, t, hx, (T.fr (same_fr S)).copy (S _ _ e) ht⟩, ⟨[], hl, .nil⟩, ha⟩, S0.free hl0, S0.free ha0⟩
theorem keysU : ([Sum.inr "cnt", Sum.inr "tally", Sum.inr "sum"] : List L2.Key).Nodup := by decide +kernel
abbrev kU (t1 t2 t3 : Addr) : List (L2.Key × V) := [(Sum.inr "cnt", V.ref t1), (Sum.inr "tally", V.ref t2), (Sum.inr "sum", V.ref t3)]
theorem kU_merge (t1 t2 t3 : Addr) : mergeK [] (kU t1 t2 t3) = kU t1 t2 t3 := merge_nodup _ [] keysU
def oneTo (i : Nat) : List Int := (List.range i).map fun k : Nat => (k : Int) + 1
theorem oneTo_succ (i : Nat) : (oneTo (i + 1)).map V.int = (oneTo i).map V.int ++ [V.int ((i : Int) + 1)] := by
  unfold oneTo
  rw [List.range_succ, List.map_append, List.map_append]
  rfl
theorem dp_ints {K : PySem.W.Frag} {H : Hp} : ∀ ns : List Int, DpAll K H (ns.map V.int) (ns.map PyData.int)
  | [] => .nil
  | n :: r => .cons (.int n) (dp_ints r)
theorem lay_ints : ∀ ns : List Int, PyData.canLayAll0 (ns.map PyData.int) = true
  | [] => rfl
  | n :: r => by rw [List.map_cons]; simp only [PyData.canLayAll0, PyData.canLay0, lay_ints r, Bool.and_self]
theorem dep_ints : ∀ ns : List Int, PyData.depthAll (ns.map PyData.int) = 0
  | [] => by simp [PyData.depthAll]
  | n :: r => by rw [List.map_cons]; simp only [PyData.depthAll, PyData.depth, dep_ints r]; rfl
theorem shaped_ints (ns : List Int) : SeqAt.shaped (.list (ns.map PyData.int)) = true := by
  unfold SeqAt.shaped
  have h1 : (PyData.list (ns.map PyData.int)).canLay0 = true := by rw [PyData.canLay0]; exact lay_ints ns
  have h2 : (PyData.list (ns.map PyData.int)).depth ≤ 64 := by simp only [PyData.depth, dep_ints]; omega
  rw [h1, decide_eq_true h2]
  rfl
theorem eqv_ints (ns : List Int) : PyData.eqv (.list (ns.map PyData.int)) (.list (ns.map PyData.int)) = true :=
  SeqAt.eqv_refl _ (SeqAt.canLay_of_shaped (shaped_ints ns))
theorem WorkerAt.start3 {C : Addr} {H : Hp} {p l a D : Addr} {tr : Str → Option Tr} {ds : List Deed} {xs : List V} (h : WorkerAt C H p l a tr ds) (e : H D = some (.lst xs)) : Fr [l, a, D] H H := by
  refine ⟨fun b o e _ => e, fun b o m q => ?_⟩
  rcases List.mem_cons.mp m with z | m
  · exact h.start.ld b o (by rw [z]; exact List.mem_cons_self) q
  rcases List.mem_cons.mp m with z | m
  · exact h.start.ld b o (by rw [z]; exact List.mem_cons_of_mem _ List.mem_cons_self) q
  · exact (fr_list e).ld b o m q
def spUnlike : Sp := fun vs _ Q _ => vs = [] ∧ ∀ H', Q (.bl true) H'
abbrev nUn : List Str := ["worker", "some", "k", "both"]
section
variable {P : Program} {w : World} {K : PySem.W.Frag} {mg : Str → Option Value} {base : Heap}
theorem scU : FnScope nUn [] (defScope sUnlike) := ⟨rfl, rfl, rfl, by decide +kernel, rfl, by decide +kernel, by decide +kernel⟩
theorem ok_unlike {f C fI fO fM fD fK : Addr} {fd fdI fdO fdM fdD fdK : FuncData} (F : Fun K "_law_unlike_orders" "_law_unlike_orders" sUnlike f fd) (B : Tops K mg C fI fO fM fD fK fdI fdO fdM fdD fdK) :
    FnOk P w K mg base CX0 4 f fd [] spUnlike := by
  have T := B.T
  have GI : FnOk P w K mg base CX0 1 fI fdI ["self", "trade"] (spInit C) := ok_init B.FI T
  have GO : FnOk P w K mg base CX0 3 fO fdO ["self", "run", "ticket", "work", "worth"] (spDo C) := ok_do B.FO T B.FM B.bM B.mM B.FK B.bK B.mK
  have GD : FnOk P w K mg base CX0 1 fD fdD ["self"] (spDeeds C) := ok_deeds B.FD T
  refine F.ok scU (fun vs H Q E h => ?_) (fun cdv A outer s H vs Q E hr h => ?_)
  · obtain ⟨rfl, _⟩ := h
    rfl
  · obtain ⟨rfl, k⟩ := h
    have hu := hu_of hr
    have hr1 : Room 1 _ := hr.mono (by decide)
    have hr2 : Room 2 _ := hr.mono (by decide)
    refine ⟨_, pss_cons (ps_set (i := 0) scU.nd rfl (Or.inr rfl) (pe_make B.M GI hr2 rfl T.mgC B.bI .nil pass0 (pa_cons
        (pe_disp (pps_cons pe_str (pe_tup (pa_cons pe_str pa_nil)) (pps_cons pe_str (pe_tup (pa_cons pe_str pa_nil)) (pps_cons pe_str (pe_tup (pa_cons pe_str (pa_cons pe_int pa_nil))) pps_nil))) (by rfl) (by rfl) (fun z => by cases z) (by decide)) pa_nil)))
      (pss_cons (ps_set (i := 1) scU.nd rfl (Or.inl rfl) (pe_lst (t := tPrs someA) (prs_cons pr_int (prs_cons pr_int (prs_cons pr_int (prs_cons pr_int (prs_cons pr_int (prs_cons pr_int (prs_cons pr_int (prs_cons pr_int (prs_cons pr_int (prs_cons pr_int (prs_cons pr_int prs_nil)))))))))))))
      (pss_cons (ps_set (i := 1) scU.nd rfl (Or.inl rfl) (pe_op op_cat (pv 1) (pe_lst (t := tPrs someB) (prs_cons pr_int (prs_cons pr_int (prs_cons pr_int (prs_cons pr_int (prs_cons pr_int
        (prs_cons (pe_imp (pe_tup (pa_cons (pe_op op_pow pe_int pe_int) (pa_cons pe_int pa_nil))) fun _ _ _ q => ⟨_, _, rfl, rfl, ⟨by decide, by decide, by decide⟩, by show 2 ≤ sizeLine; decide, q⟩)
        (prs_cons (pe_imp (pe_tup (pa_cons pe_int (pa_cons (pe_op op_pow pe_int pe_int) pa_nil))) fun _ _ _ q => ⟨_, _, rfl, rfl, ⟨by decide, by decide, by decide⟩, by show 2 ≤ sizeLine; decide, q⟩)
        (prs_cons pr_int (prs_cons pr_int prs_nil))))))))))))
      (pss_cons (ps_for PassesOwn.never rfl (pi_range1 rfl T.range (pa_cons (pe_callB call_len_seq (by rfl) T.len PySem.boot_len (pa_cons (pv 1) pa_nil)) pa_nil)) (pg_name (i := 2) scU.nd rfl (Or.inl rfl))
        (pss_one (ps_if (PW.pt (pw_or
          (pt_cmpR op_ne (pe_meth (pv 0) T.cl B.mO GO hr B.bO .nil pass0 (pa_cons (pe_ix ix_tup (pe_ix ix_list (pv 1) (pv 2) (fun _ _ => rfl)) pe_int (fun _ _ => rfl)) (pa_cons (pe_ix ix_tup (pe_ix ix_list (pv 1) (pv 2) (fun _ _ => rfl)) pe_int (fun _ _ => rfl))
            (pa_cons pe_str (pa_cons (pv 2) pa_nil))))) (pe_op op_add (pv 2) pe_int) (nomark _))
          (pw_or1 (pt_cmpR op_ne (pe_meth (pv 0) T.cl B.mO GO hr B.bO .nil pass0 (pa_cons (pe_op op_add pe_int (pv 2)) (pa_cons (pv 2) (pa_cons pe_str (pa_cons (pv 2) pa_nil))))) (pe_op op_add (pv 2) pe_int) (nomark _)))))
          (pss_one (ps_ret pe_bl)) pss_nil)))
      (pss_cons (ps_for PassesOwn.never rfl (pi_range1 rfl T.range (pa_cons pe_int pa_nil)) (pg_name (i := 2) scU.nd rfl (Or.inl rfl))
        (pss_one (ps_if (pt_cmpR op_ne (pe_meth (pv 0) T.cl B.mO GO hr B.bO .nil pass0 (pa_cons (pe_op op_add pe_int (pe_op op_fdiv (pv 2) pe_int)) (pa_cons (pe_op op_add pe_int (pe_op op_mod (pv 2) pe_int))
            (pa_cons pe_str (pa_cons (pv 2) pa_nil))))) (pe_op op_add (pv 2) pe_int) (nomark _)) (pss_one (ps_ret pe_bl)) pss_nil)))
      (pss_cons (ps_for PassesOwn.never rfl (pi_range3 rfl T.range (pa_cons pe_int (pa_cons pe_int (pa_cons pe_int pa_nil)))) (pg_name (i := 2) scU.nd rfl (Or.inl rfl))
        (pss_one (ps_if (pt_cmpR op_ne (pe_meth (pv 0) T.cl B.mO GO hr B.bO .nil pass0 (pa_cons (pe_op op_add pe_int (pe_op op_fdiv (pv 2) pe_int)) (pa_cons (pe_op op_add pe_int (pe_op op_mod (pv 2) pe_int))
            (pa_cons pe_str (pa_cons (pe_op op_add (pe_op op_mul pe_int (pv 2)) pe_int) pa_nil))))) (pe_op op_add (pv 2) pe_int) (nomark _)) (pss_one (ps_ret pe_bl)) pss_nil)))
      (pss_cons (ps_if (pt_cmpR (op_neD hr.units)
          (pe_lc (own := [("both", 3)]) (g := gName 3) (tt := tYes) rfl scU.nd (pi_list (pv 1)) (blkOk_by (own := [("both", 3)]) (N := nUn) (sc := defScope sUnlike) (by decide +kernel))
            (fun _ _ _ _ _ => pg_name (i := 3) scU.nd rfl (Or.inl rfl)) (fun _ _ _ _ _ => pts_nil)
            (fun _ _ _ _ _ => pe_meth (pv 0) T.cl B.mO GO hr B.bO .nil pass0 (pa_cons (pe_ix (r := rIxT K) ix_tup (pv 3) pe_int (fun _ _ => rfl)) (pa_cons (pe_ix (r := rIxT K) ix_tup (pv 3) pe_int (fun _ _ => rfl)) (pa_cons pe_str (pa_cons pe_int pa_nil))))))
          (pe_lc (own := [("k", 2)]) (g := gName 2) (tt := tYes) rfl scU.nd (pi_range1 rfl T.range (pa_cons (pe_callB call_len_seq (by rfl) T.len PySem.boot_len (pa_cons (pv 1) pa_nil)) pa_nil)) (blkOk_by (own := [("k", 2)]) (N := nUn) (sc := defScope sUnlike) (by decide +kernel))
            (fun _ _ _ _ _ => pg_name (i := 2) scU.nd rfl (Or.inl rfl)) (fun _ _ _ _ _ => pts_nil) (fun _ _ _ _ _ => pe_op op_add (pv 2) pe_int)) (nomark _)) (pss_one (ps_ret pe_bl)) pss_nil)
      (pss_one (ps_ret (pe_and (pe_cmpR op_eq (pe_callB call_len_seq (by rfl) T.len PySem.boot_len (pa_cons (pe_meth0 (pv 0) T.cl B.mD GD hr1 B.bD .nil pass0) pa_nil)) (pe_op op_add pe_int (pe_op op_mul pe_int (pe_callB call_len_seq (by rfl) T.len PySem.boot_len (pa_cons (pv 1) pa_nil)))) (nomark _))
        (pe_one (pe_cmp (pc_isN (pe_meth (pe_make B.M GI hr2 rfl T.mgC B.bI .nil pass0 (pa_cons pe_dnewK pa_nil)) T.cl B.mO GO hr B.bO .nil pass0 (pa_cons pe_int (pa_cons pe_int (pa_cons pe_str (pa_cons pe_int pa_nil))))))))))))))))), ?_⟩
    intro td htd
    have h1 : 1 ≤ sizeLine := by show 1 ≤ sizeLine; decide
    have h2 : 2 ≤ sizeLine := by show 2 ≤ sizeLine; decide
    refine ⟨h1, fun t1 ht1 => ⟨h1, fun t2 ht2 => ⟨h2, fun t3 ht3 => ?_⟩⟩⟩
    have n1 : td ≠ t1 := fun q => by rw [← q, upd_same] at ht1; cases ht1
    have n2 : td ≠ t2 := fun q => by rw [← q, upd_ne n1, upd_same] at ht2; cases ht2
    have n3 : td ≠ t3 := fun q => by rw [← q, upd_ne n2, upd_ne n1, upd_same] at ht3; cases ht3
    have n12 : t1 ≠ t2 := fun q => by rw [← q, upd_same] at ht2; cases ht2
    have n13 : t1 ≠ t3 := fun q => by rw [← q, upd_ne n12, upd_same] at ht3; cases ht3
    have n23 : t2 ≠ t3 := fun q => by rw [← q, upd_same] at ht3; cases ht3
    refine ⟨by rw [upd_ne n3, upd_ne n2, upd_ne n1, upd_same], kU t1 t2 t3, rfl, by show 3 ≤ 15; decide, ?_⟩
    rw [kU_merge]
    intro x dx nx ndx nex
    refine ⟨x, dx, td, kU t1 t2 t3, rfl, upd_same, ?_, ?_⟩
    · rw [upd_ne (fun q => by rw [← q, upd_same] at nx; cases nx), upd_ne (fun q => by rw [← q, upd_same] at ndx; cases ndx), upd_same]
    intro H1 tt l a kp1 ht0 hl0 ha0 nla hx1 htt hl1 ha1
    refine ⟨rfl, ?_⟩
    have tr0 := trade_of (rows := [("cnt", t1, .cnt), ("tally", t2, .cnt), ("sum", t3, .sum 1)]) (t := td)
      (H := upd (upd (upd (upd (upd H td (.dK [])) t1 (.tup [.str "count"])) t2 (.tup [.str "count"])) t3 (.tup [.str "sum", .int 1])) td (.dK (kU t1 t2 t3))) upd_same (fun r hr => by
        rcases List.mem_cons.mp hr with e | hr
        · subst e
          rw [upd_ne n1.symm, upd_ne n13, upd_ne n12, upd_same]
          rfl
        rcases List.mem_cons.mp hr with e | hr
        · subst e
          rw [upd_ne n2.symm, upd_ne n23, upd_same]
          rfl
        rw [List.mem_singleton.mp hr]
        rw [upd_ne n3.symm, upd_same]
        rfl)
    obtain ⟨S1, W1, _, _⟩ := made_w tr0 upd_same nx ndx kp1 hl0 ha0 hx1 htt hl1 ha1
    have W1' : WorkerAt C H1 x l a trU [] := W1
    clear W1 tr0 S1 kp1 hl0 ha0 ht0 hx1 htt hl1 ha1 nx ndx nex htd ht1 ht2 ht3 n1 n2 n3 n12 n13 n23
    intro xs1 H2 s2 pp1
    have lx1 : xs1.length = 11 := Paired.length pp1
    refine ⟨by rw [lx1]; decide, fun q1 hq1 => ?_⟩
    have s2' : Same H1 (upd H2 q1 (.lst xs1)) := s2.trans (same_upd hq1)
    refine ⟨_, rfl, ?_⟩
    intro xs2 H3 s3 pp2
    have lx2 : xs2.length = 9 := Paired.length pp2
    refine ⟨by rw [lx2]; decide, fun q2 hq2 => ?_⟩
    have s3' : Same (upd H2 q1 (.lst xs1)) (upd H3 q2 (.lst xs2)) := s3.trans (same_upd hq2)
    have nq : q1 ≠ q2 := fun z => by rw [← z, s3 _ _ upd_same] at hq2; cases hq2
    refine ⟨q1, q2, xs1, xs2, rfl, rfl, s3' _ _ upd_same, upd_same, by rw [lx1, lx2]; decide, fun q hq => ?_⟩
    have s4 : Same H1 (upd (upd H3 q2 (.lst xs2)) q (.lst (xs1 ++ xs2))) := (s2'.trans s3').trans (same_upd hq)
    have W4 := W1'.same s4
    have pp : Paired (PairTup (upd (upd H3 q2 (.lst xs2)) q (.lst (xs1 ++ xs2)))) (xs1 ++ xs2) someL :=
      pairs_app (pairs_fr (same_fr (((same_upd hq1).trans s3').trans (same_upd hq))) pp1) (pairs_fr (same_fr ((same_upd hq2).trans (same_upd hq))) pp2)
    have hq0 : upd (upd H3 q2 (.lst xs2)) q (.lst (xs1 ++ xs2)) q = some (.lst (xs1 ++ xs2)) := upd_same
    have hql : q ≠ l := fun z => by
      obtain ⟨ys, e, _⟩ := (W1'.same (s2'.trans s3')).ls
      rw [← z, hq] at e
      cases e
    have hqa : q ≠ a := fun z => by
      have e := (W1'.same (s2'.trans s3')).an
      rw [← z, hq] at e
      cases e
    have ly : (xs1 ++ xs2).length = 20 := Paired.length pp
    revert W4 pp hq0 ly
    generalize upd (upd H3 q2 (.lst xs2)) q (.lst (xs1 ++ xs2)) = H0
    generalize xs1 ++ xs2 = ys
    intro W4 pp hq0 ly
    have hqn : q ∉ [l, a] := by simp [hql, hqa]
    have at_k : ∀ {H' : Hp}, Fr [l, a] H0 H' → ∀ i : Nat, i < 20 → ∃ t, atI ys (i : Int) = some (.ref t) ∧ H' t = some (.tup [.int (someAt i).1, .int (someAt i).2]) := fun f i hi => by
      obtain ⟨x', e, t, rfl, ht⟩ := pairs_at (pairs_fr f pp) (someL_at hi)
      exact ⟨t, atI_nat e, ht⟩
    refine ⟨_, rfl, q, ys, rfl, .inl (SqL.of hq0), ?_⟩
    rw [ly]
    refine ⟨_, rfl, by decide, by decide, for_range (n := 20) (fun i σ H' => ∃ v : Option V, σ = [some (.ref x), some (.ref q), v, none] ∧ Fr [l, a] H0 H' ∧ WorkerAt C H' x l a trU (base1 i))
      ⟨none, rfl, W4.start, W4⟩ ?_ ?_⟩
    · rintro i σ H' hi ⟨v, rfl, f, W⟩
      rw [Int.zero_add]
      obtain ⟨t, et, ht⟩ := at_k f i hi
      obtain ⟨dy, _, hx, _⟩ := W.ob
      have hqs := SqL.of (K := K) (f.keep _ _ hq0 hqn)
      refine ⟨_, rfl, x, dy, _, rfl, hx, fl_do _ _ _, _, rfl, _, rfl, q, ys, i, _, rfl, rfl, hqs, et, t, _, 0, _, rfl, rfl, SqT.of ht, rfl,
        _, rfl, _, rfl, q, ys, i, _, rfl, rfl, hqs, et, t, _, 1, _, rfl, rfl, SqT.of ht, rfl, _, rfl, ?_⟩
      refine ⟨x, l, a, trU, base1 i, _, _, "cnt", some (i : Int), rfl, W, by rw [base1_len]; omega, fun ds' ans H2 st g W2 => ?_⟩
      rw [stepA i hi] at st
      cases st
      refine ⟨_, rfl, _, _, rfl, rfl, rfl, _, rfl, ?_⟩
      refine iteNS rfl ?_
      have f2 : Fr [l, a] H0 H2 := f.trans g.keep
      obtain ⟨dz, _, hx2, _⟩ := W2.ob
      refine ⟨_, rfl, x, dz, _, rfl, hx2, fl_do _ _ _, _, rfl, _, _, rfl, rfl, _, rfl, _, rfl, ?_⟩
      refine ⟨x, l, a, trU, base1 i ++ [dA i], _, _, "tally", some (i : Int), rfl, W2, by rw [List.length_append, base1_len]; show 2 * i + 1 ≤ 1000; omega, fun ds' ans H3 st g W3 => ?_⟩
      rw [stepB i hi] at st
      cases st
      refine ⟨_, rfl, _, _, rfl, rfl, rfl, _, rfl, ?_⟩
      refine iteNS rfl ?_
      exact ⟨_, rfl, f2.trans g.keep, W3⟩
    rintro σ H' ⟨v, rfl, f, W⟩
    refine ⟨_, rfl, by decide, by decide, for_range (n := 320) (fun i σ H' => ∃ v : Option V, σ = [some (.ref x), some (.ref q), v, none] ∧ Fr [l, a] H0 H' ∧ WorkerAt C H' x l a trU (base2 i))
      ⟨v, rfl, f, W⟩ ?_ ?_⟩
    · rintro i σ H' hi ⟨v, rfl, f, W⟩
      rw [Int.zero_add]
      obtain ⟨dy, _, hx, _⟩ := W.ob
      refine ⟨_, rfl, x, dy, _, rfl, hx, fl_do _ _ _, _, rfl, _, _, rfl, rfl, ⟨by decide, by decide⟩, _, _, rfl, rfl, _, rfl, _, _, rfl, rfl, (by show (0 : Int) < 20; decide), _, _, rfl, rfl, _, rfl, ?_⟩
      refine ⟨x, l, a, trU, base2 i, _, _, "sum", some (i : Int), rfl, W, by rw [base2_len]; omega, fun ds' ans H2 st g W2 => ?_⟩
      rw [stepC hi] at st
      cases st
      refine ⟨_, rfl, _, _, rfl, rfl, rfl, _, rfl, ?_⟩
      refine iteNS rfl ?_
      exact ⟨_, rfl, f.trans g.keep, W2⟩
    rintro σ H' ⟨v, rfl, f, W⟩
    refine ⟨_, _, _, _, rfl, (show RgC 0 320 29 12 from ⟨by decide, by decide, by decide, by decide⟩), for_rangeC (n := 12) (fun i σ H' => ∃ v : Option V, σ = [some (.ref x), some (.ref q), v, none] ∧ Fr [l, a] H0 H' ∧ WorkerAt C H' x l a trU (base2 320))
      ⟨v, rfl, f, W⟩ ?_ ?_⟩
    · rintro i σ H' hi ⟨v, rfl, f, W⟩
      obtain ⟨dy, _, hx, _⟩ := W.ob
      refine ⟨_, rfl, x, dy, _, rfl, hx, fl_do _ _ _, _, rfl, _, _, rfl, rfl, ⟨by decide, by decide⟩, _, _, rfl, rfl, _, rfl, _, _, rfl, rfl, (by show (0 : Int) < 20; decide), _, _, rfl, rfl,
        _, rfl, _, _, rfl, rfl, .inl ⟨by decide, by decide⟩, _, _, rfl, rfl, ?_⟩
      refine ⟨x, l, a, trU, base2 320, _, _, "sum", some (5 * (0 + (i : Int) * 29) + 1), rfl, W, by rw [base2_len]; omega, fun ds' ans H2 st g W2 => ?_⟩
      rw [stepD i hi] at st
      cases st
      refine ⟨_, rfl, _, _, rfl, rfl, rfl, _, rfl, ?_⟩
      refine iteNS rfl ?_
      exact ⟨_, rfl, f.trans g.keep, W2⟩
    rintro σ H' ⟨v, rfl, f, W⟩
    have hq' := f.keep _ _ hq0 hqn
    refine ⟨_, rfl, q, rfl, ⟨_, SqL.of hq'⟩, fun D hD0 => ?_⟩
    have nqD : q ≠ D := ne_of_none hq' hD0
    have sD : Same H' (upd H' D (.lst [])) := same_upd hD0
    have WD := W.same sD
    have nDl : D ≠ l := fun z => by
      obtain ⟨ys', e, _⟩ := W.ls
      rw [← z, hD0] at e
      cases e
    have nDa : D ≠ a := fun z => by
      have e := W.an
      rw [← z, hD0] at e
      cases e
    have ppD := pairs_fr (same_fr sD) (pairs_fr f pp)
    have hqD : upd H' D (.lst []) q = some (.lst ys) := sD _ _ hq'
    refine lc_list (K := K) (a := q) (xs := ys) (fun i H2 => Fr [l, a, D] (upd H' D (.lst [])) H2 ∧ WorkerAt C H2 x l a trU (base2 320) ∧ H2 D = some (.lst ((oneTo i).map V.int)))
      ⟨WD.start3 upd_same, WD, upd_same⟩ (fun i H2 _ ⟨f2, _, _⟩ => SqL.of (f2.keep _ _ hqD (by simp [hql, hqa, nqD]))) ?_ ?_
    · rintro i x' H2 hi ⟨f2, W2, hD2⟩
      have hi20 : i < 20 := by
        have := (List.getElem?_eq_some_iff.mp hi).1
        omega
      obtain ⟨x2, e2, t, rfl, ht⟩ := pairs_at (pairs_fr f2 ppD) (someL_at hi20)
      rw [hi] at e2
      cases e2
      refine ⟨rfl, ?_⟩
      obtain ⟨dy, _, hx, _⟩ := W2.ob
      refine ⟨_, rfl, x, dy, _, rfl, hx, fl_do _ _ _, _, rfl, t, _, 0, _, rfl, rfl, SqT.of ht, rfl, _, rfl, t, _, 1, _, rfl, rfl, SqT.of ht, rfl, ?_⟩
      refine ⟨x, l, a, trU, base2 320, _, _, "sum", some 9, rfl, W2, by rw [base2_len]; omega, fun ds' ans H3 st g W3 => ?_⟩
      rw [stepE i hi20] at st
      cases st
      have hD3 := g.keep _ _ hD2 (by simp [nDl, nDa])
      refine ⟨_, hD3, by rw [List.length_map]; unfold oneTo; rw [List.length_map, List.length_range]; exact small1000 (by omega), ?_, ?_, ?_⟩
      · exact (f2.trans fun b o e n => g.keep b o e (fun m => n (by
          rcases List.mem_cons.mp m with z | m
          · rw [z]; exact List.mem_cons_self
          · rw [List.mem_singleton.mp m]; exact List.mem_cons_of_mem _ List.mem_cons_self))).put (by simp)
      · exact W3.fr (ex := [D]) ((fr_list hD3).put (by simp)) (by simp [nDl.symm]) (by simp [nDa.symm])
      · rw [upd_same, oneTo_succ]
        rfl
    rintro H2 ⟨f2, W2, hD2⟩
    rw [ly] at hD2
    have hq2 := f2.keep _ _ hqD (by simp [hql, hqa, nqD])
    refine ⟨_, rfl, q, ys, rfl, .inl (SqL.of hq2), ?_⟩
    rw [ly]
    refine ⟨_, rfl, by decide, by decide, fun D2 hD20 => ?_⟩
    refine lc_range (lo := 0) (n := 20) (fun i H3 => H3 = upd H2 D2 (.lst ((oneTo i).map V.int))) rfl ?_ ?_
    · rintro i H3 hi rfl
      rw [Int.zero_add]
      refine ⟨rfl, ?_⟩
      refine ⟨_, rfl, _, _, rfl, rfl, _, upd_same, by rw [List.length_map]; unfold oneTo; rw [List.length_map, List.length_range]; exact small1000 (by omega), ?_⟩
      rw [upd_upd, oneTo_succ]
    rintro H3 rfl
    have s3x : Same H2 (upd H2 D2 (.lst ((oneTo 20).map V.int))) := same_upd hD20
    have W3 := W2.same s3x
    have hq3 := s3x _ _ hq2
    have hD3 := s3x _ _ hD2
    refine ⟨_, _, .lst (SqL.of hD3) (dp_ints _), .lst (SqL.of upd_same) (dp_ints _), shaped_ints _, shaped_ints _, _, rfl, ?_⟩
    rw [eqv_ints]
    refine iteF ?_
    revert W3 hq3
    generalize upd H2 D2 (.lst ((oneTo 20).map V.int)) = H4
    intro W4x hq4
    obtain ⟨⟨dy, ty, hx4, _⟩, ⟨xl, hl4, hL4⟩, _⟩ := id W4x
    have lxl : xl.length = 360 := by rw [Paired.length hL4, base2_len]
    refine ⟨_, rfl, x, dy, _, rfl, hx4, fl_deeds _ _ _, x, l, a, trU, base2 320, xl, rfl, W4x, hl4, fun r hr0 => ?_⟩
    have hq5 := (same_upd (o := .lst xl) hr0) _ _ hq4
    refine ⟨r, _, rfl, .inl (SqL.of upd_same), _, rfl, q, ys, rfl, .inl (SqL.of hq5), _, _, rfl, rfl, .inl ⟨by decide, by decide⟩, _, _, rfl, rfl, rfl, _, rfl, ?_⟩
    have ed : decide (V.int ((xl.length : Nat) : Int) = V.int (320 + 2 * ((ys.length : Nat) : Int))) = true := by
      rw [lxl, ly]
      decide
    rw [ed]
    refine iteT ?_
    intro td2 htd2 x2 dx2 nx2 ndx2 nex2
    refine ⟨x2, dx2, td2, [], rfl, upd_same, ?_, ?_⟩
    · rw [upd_ne (fun z => by rw [← z, upd_same] at nx2; cases nx2), upd_ne (fun z => by rw [← z, upd_same] at ndx2; cases ndx2), upd_same]
    intro H6 t6 l6 a6 kp6 _ hl60 ha60 _ hx6 ht6 hl6 ha6
    refine ⟨rfl, ?_⟩
    have tr6 := trade_of (rows := []) (t := td2) (H := upd (upd H4 r (.lst xl)) td2 (.dK [])) upd_same (fun _ z => nomatch z)
    obtain ⟨_, W6, _, _⟩ := made_w tr6 upd_same nx2 ndx2 kp6 hl60 ha60 hx6 ht6 hl6 ha6
    refine ⟨x2, dx2, _, rfl, hx6, fl_do _ _ _, x2, l6, a6, _, [], 0, 0, "sum", some 5, rfl, W6, Nat.zero_le _, fun ds' ans H7 st g W7 => ?_⟩
    have ea : ans = none := (congrArg Prod.snd st).symm.trans rfl
    rw [ea]
    exact k _
end
end OW
namespace OW
open PySem L2
theorem step_val {tr : Str → Option Tr} {ds ds' : List Deed} {i j : Int} {w : Str} {v ans : Option Int} (h : step tr ds i j w v = (ds', ans)) : valV (ds'.map ent) (kK i j) = some (oV ans) := by
  rw [valV_ent]
  unfold step at h
  cases q : seek ds i j with
  | some d =>
    rw [q] at h
    cases h
    rw [q]
    rfl
  | none =>
    rw [q] at h
    cases h
    have e : seek (ds ++ [newDeed tr ds i j w v]) i j = some (newDeed tr ds i j w v) := by
      unfold seek at q ⊢
      rw [List.find?_append, q, List.find?_cons_of_pos (by simp [isKey, newDeed])]
      rfl
    rw [e]
    rfl
theorem step_len {tr : Str → Option Tr} {ds ds' : List Deed} {i j : Int} {w : Str} {v ans : Option Int} (h : step tr ds i j w v = (ds', ans)) : ds'.length ≤ ds.length + 1 := by
  unfold step at h
  cases q : seek ds i j with
  | some d =>
    rw [q] at h
    cases h
    omega
  | none =>
    rw [q] at h
    cases h
    rw [List.length_append]
    exact Nat.le_refl _
theorem step_good {tr : Str → Option Tr} {ds ds' : List Deed} {i j : Int} {w : Str} {v ans : Option Int} (h : step tr ds i j w v = (ds', ans)) (g : Good ds) (hw : PyData.strOk w = true) : Good ds' := by
  unfold step at h
  cases q : seek ds i j with
  | some d =>
    rw [q] at h
    cases h
    exact g
  | none =>
    rw [q] at h
    cases h
    intro d hd
    rcases List.mem_append.mp hd with m | m
    · exact g d m
    · rw [List.mem_singleton.mp m]
      exact hw
def cut (M : List Addr) (H : Hp) : Hp := fun b => if b ∈ M then none else H b
section
variable {M ex : List Addr} {H H' : Hp} {b : Addr} {o : HO}
theorem cut_of (h : H b = some o) (n : b ∉ M) : cut M H b = some o := by unfold cut; rw [if_neg n]; exact h
theorem of_cut (h : cut M H b = some o) : H b = some o ∧ b ∉ M := by
  unfold cut at h
  by_cases m : b ∈ M
  · rw [if_pos m] at h
    cases h
  · rw [if_neg m] at h
    exact ⟨h, m⟩
theorem cut_same : Same (cut M H) H := fun _ _ h => (of_cut h).1
theorem cut_fr (f : Fr ex H H') (sub : ∀ x ∈ ex, x ∈ M) : Same (cut M H) (cut M H') := fun c u h => by
  obtain ⟨h1, h2⟩ := of_cut h
  exact cut_of (f.keep c u h1 fun m => h2 (sub c m)) h2
end
def HeldAt (G : Hp) (x : V) : Prop := ∃ (b u v : Addr) (ds : List Deed) (xu xv : List V), x = .ref b ∧ G b = some (.lst [.ref u, .ref v]) ∧ G u = some (.lst xu) ∧ G v = some (.lst xv) ∧ Deeds G xu ds ∧ Deeds G xv ds ∧ Good ds
theorem HeldAt.same {G G' : Hp} {x : V} (s : Same G G') (h : HeldAt G x) : HeldAt G' x := by
  obtain ⟨b, u, v, ds, xu, xv, e, h1, h2, h3, h4, h5, h6⟩ := h
  exact ⟨b, u, v, ds, xu, xv, e, s _ _ h1, s _ _ h2, s _ _ h3, h4.fr (same_fr s), h5.fr (same_fr s), h6⟩
structure Ads where
  p : Bool → Addr
  l : Bool → Addr
  a : Bool → Addr
  e : Bool → Addr
  k : Bool → Addr
  td : Addr
  wl : Addr
  dl : Addr
  kl : Addr
  hl : Addr
  cl : Addr
def Ads.M (z : Ads) : List Addr := [z.hl, z.k true, z.k false, z.e true, z.e false, z.a true, z.l true, z.a false, z.l false]
theorem Ads.ml (z : Ads) (b : Bool) : z.l b ∈ z.M := by cases b <;> simp [Ads.M]
theorem Ads.ma (z : Ads) (b : Bool) : z.a b ∈ z.M := by cases b <;> simp [Ads.M]
theorem Ads.me (z : Ads) (b : Bool) : z.e b ∈ z.M := by cases b <;> simp [Ads.M]
theorem Ads.mk' (z : Ads) (b : Bool) : z.k b ∈ z.M := by cases b <;> simp [Ads.M]
theorem Ads.mh (z : Ads) : z.hl ∈ z.M := by simp [Ads.M]
structure Sep (z : Ads) : Prop where
  la : ∀ b c, z.l b ≠ z.a c
  le : ∀ b c, z.l b ≠ z.e c
  lk : ∀ b c, z.l b ≠ z.k c
  ae : ∀ b c, z.a b ≠ z.e c
  ak : ∀ b c, z.a b ≠ z.k c
  ek : ∀ b c, z.e b ≠ z.k c
  hl : ∀ b, z.hl ≠ z.l b
  ha : ∀ b, z.hl ≠ z.a b
  he : ∀ b, z.hl ≠ z.e b
  hk : ∀ b, z.hl ≠ z.k b
  ll : ∀ b c, b ≠ c → z.l b ≠ z.l c
  aa : ∀ b c, b ≠ c → z.a b ≠ z.a c
  ee : ∀ b c, b ≠ c → z.e b ≠ z.e c
  kk : ∀ b c, b ≠ c → z.k b ≠ z.k c
theorem sep_of {z : Ads} (h : z.M.Nodup) : Sep z := by
  simp only [Ads.M, List.nodup_cons, List.mem_cons, not_or, List.not_mem_nil, not_false_eq_true, and_true, List.nodup_nil] at h
  obtain ⟨⟨h1, h2, h3, h4, h5, h6, h7, h8⟩, ⟨i1, i2, i3, i4, i5, i6, i7⟩, ⟨j1, j2, j3, j4, j5, j6⟩, ⟨k1, k2, k3, k4, k5⟩, ⟨l1, l2, l3, l4⟩, ⟨m1, m2, m3⟩, ⟨n1, n2⟩, o1⟩ := h
  constructor
  all_goals (intro b; cases b <;> first
    | (intro c; cases c <;> first | assumption | (exact Ne.symm (by assumption)) | (intro z; exact absurd rfl z) | (intro _; assumption) | (intro _; exact Ne.symm (by assumption)))
    | assumption | (exact Ne.symm (by assumption)))
structure Core (C : Addr) (z : Ads) (tr : Str → Option Tr) (H : Hp) (ds : Bool → List Deed) : Prop where
  w : ∀ b, WorkerAt C H (z.p b) (z.l b) (z.a b) tr (ds b)
  e : ∀ b, ∃ xs, H (z.e b) = some (.lst xs) ∧ Deeds H xs (ds b)
  k : ∀ b, H (z.k b) = some (.dT ((ds b).map ent))
  h : ∃ hs, H z.hl = some (.lst hs)
theorem Core.ld {C : Addr} {z : Ads} {tr : Str → Option Tr} {H : Hp} {ds : Bool → List Deed} (c : Core C z tr H ds) : ∀ m ∈ z.M, ∃ o, H m = some o ∧ LD o := by
  have hl : ∀ b, ∃ o, H (z.l b) = some o ∧ LD o := fun b => let ⟨xs, h, _⟩ := (c.w b).ls; ⟨_, h, trivial⟩
  have ha : ∀ b, ∃ o, H (z.a b) = some o ∧ LD o := fun b => ⟨_, (c.w b).an, trivial⟩
  have he : ∀ b, ∃ o, H (z.e b) = some o ∧ LD o := fun b => let ⟨xs, h, _⟩ := c.e b; ⟨_, h, trivial⟩
  have hk : ∀ b, ∃ o, H (z.k b) = some o ∧ LD o := fun b => ⟨_, c.k b, trivial⟩
  have hh : ∃ o, H z.hl = some o ∧ LD o := let ⟨hs, h⟩ := c.h; ⟨_, h, trivial⟩
  intro m hm
  simp only [Ads.M, List.mem_cons, List.not_mem_nil, or_false] at hm
  rcases hm with e | e | e | e | e | e | e | e | e <;> rw [e]
  · exact hh
  · exact hk _
  · exact hk _
  · exact he _
  · exact he _
  · exact ha _
  · exact hl _
  · exact ha _
  · exact hl _
theorem deed_cut {M : List Addr} {H : Hp} {x : V} {d : Deed} (ld : ∀ m ∈ M, ∃ o, H m = some o ∧ LD o) (h : DeedTup H x d) : DeedTup (cut M H) x d := by
  obtain ⟨t, e, h⟩ := h
  refine ⟨t, e, cut_of h fun m => ?_⟩
  obtain ⟨o, h', l⟩ := ld t m
  rw [h] at h'
  cases h'
  exact l
theorem deeds_cut {M : List Addr} {H : Hp} {xs : List V} {ds : List Deed} (ld : ∀ m ∈ M, ∃ o, H m = some o ∧ LD o) (h : Deeds H xs ds) : Deeds (cut M H) xs ds := Paired.mapP h fun _ _ z => deed_cut ld z
structure LInv (C : Addr) (z : Ads) (tr : Str → Option Tr) (cs : List Int) (H : Hp) (ds : Bool → List Deed) (n m : Nat) : Prop where
  c : Core C z tr H ds
  g : ∀ b, Good (ds b)
  len : ∀ b, (ds b).length ≤ n
  t : TradeAt H z.td tr
  wl : cut z.M H z.wl = some (.lst [.ref (z.p false), .ref (z.p true)])
  dl : cut z.M H z.dl = some (.lst [.ref (z.e false), .ref (z.e true)])
  kl : cut z.M H z.kl = some (.lst [.ref (z.k false), .ref (z.k true)])
  cl : cut z.M H z.cl = some (.lst (cs.map V.int))
  hl : ∃ hs, H z.hl = some (.lst hs) ∧ hs.length ≤ m ∧ ∀ x ∈ hs, HeldAt (cut z.M H) x
section
variable {C : Addr} {z : Ads} {tr : Str → Option Tr} {cs : List Int} {H H' H1 H2 : Hp} {ds : Bool → List Deed} {n m : Nat}
theorem LInv.same (I : LInv C z tr cs H ds n m) (s : Same H H') : LInv C z tr cs H' ds n m := by
  have f := same_fr s
  have sc : Same (cut z.M H) (cut z.M H') := cut_fr f fun _ x => nomatch x
  refine ⟨⟨fun b => (I.c.w b).same s, fun b => ?_, fun b => s _ _ (I.c.k b), ?_⟩, I.g, I.len, I.t.fr f, sc _ _ I.wl, sc _ _ I.dl, sc _ _ I.kl, sc _ _ I.cl, ?_⟩
  · obtain ⟨xs, h1, h2⟩ := I.c.e b
    exact ⟨xs, s _ _ h1, h2.fr f⟩
  · obtain ⟨hs, h⟩ := I.c.h
    exact ⟨hs, s _ _ h⟩
  · obtain ⟨hs, h1, h2, h3⟩ := I.hl
    exact ⟨hs, s _ _ h1, h2, fun x hx => (h3 x hx).same sc⟩
def turnD (ds : Bool → List Deed) (w : Bool) (d : List Deed) : Bool → List Deed := fun b => if b = w then d else ds b
theorem turnD_same (ds : Bool → List Deed) (w : Bool) (d : List Deed) : turnD ds w d w = d := if_pos rfl
theorem turnD_ne (ds : Bool → List Deed) {w b : Bool} (d : List Deed) (h : b ≠ w) : turnD ds w d b = ds b := if_neg h
theorem LInv.turn (I : LInv C z tr cs H ds n m) (S : Sep z) {w : Bool} {d : List Deed} {xs : List V} (f1 : Fr [z.k w, z.e w] H H1) (hk : H1 (z.k w) = some (.dT (d.map ent))) (he : H1 (z.e w) = some (.lst xs)) (hd : Deeds H1 xs d)
    (f2 : Fr [z.l w, z.a w] H1 H2) (hw : WorkerAt C H2 (z.p w) (z.l w) (z.a w) tr d) (hg : Good d) (hl : d.length ≤ n + 1) : LInv C z tr cs H2 (turnD ds w d) (n + 1) m := by
  have sc : Same (cut z.M H) (cut z.M H2) := (cut_fr f1 (fun x hx => by
    rcases List.mem_cons.mp hx with e | hx
    · rw [e]; exact z.mk' w
    · rw [List.mem_singleton.mp hx]; exact z.me w)).trans (cut_fr f2 (fun x hx => by
    rcases List.mem_cons.mp hx with e | hx
    · rw [e]; exact z.ml w
    · rw [List.mem_singleton.mp hx]; exact z.ma w))
  obtain ⟨hs, h1, h2, h3⟩ := I.hl
  have hh : H2 z.hl = some (.lst hs) := f2.keep _ _ (f1.keep _ _ h1 (by simp [S.hk, S.he])) (by simp [S.hl, S.ha])
  refine ⟨⟨fun b => ?_, fun b => ?_, fun b => ?_, ⟨hs, hh⟩⟩, fun b => ?_, fun b => ?_, (I.t.fr f1).fr f2, sc _ _ I.wl, sc _ _ I.dl, sc _ _ I.kl, sc _ _ I.cl, ⟨hs, hh, h2, fun x hx => (h3 x hx).same sc⟩⟩
  · by_cases e : b = w
    · subst e
      rw [turnD_same]
      exact hw
    · rw [turnD_ne _ _ e]
      exact ((I.c.w b).fr f1 (by simp [S.lk, S.le]) (by simp [S.ak, S.ae])).fr f2 (by simp [S.la, S.ll _ _ e]) (by simp [(S.la _ _).symm, S.aa _ _ e])
  · by_cases e : b = w
    · subst e
      rw [turnD_same]
      exact ⟨xs, f2.keep _ _ he (by simp [(S.le _ _).symm, (S.ae _ _).symm]), hd.fr f2⟩
    · rw [turnD_ne _ _ e]
      obtain ⟨ys, q1, q2⟩ := I.c.e b
      exact ⟨ys, f2.keep _ _ (f1.keep _ _ q1 (by simp [S.ek, S.ee _ _ e])) (by simp [(S.le _ _).symm, (S.ae _ _).symm]), (q2.fr f1).fr f2⟩
  · by_cases e : b = w
    · subst e
      rw [turnD_same]
      exact f2.keep _ _ hk (by simp [(S.lk _ _).symm, (S.ak _ _).symm])
    · rw [turnD_ne _ _ e]
      exact f2.keep _ _ (f1.keep _ _ (I.c.k b) (by simp [(S.ek _ _).symm, S.kk _ _ e])) (by simp [(S.lk _ _).symm, (S.ak _ _).symm])
  · by_cases e : b = w
    · subst e
      rw [turnD_same]
      exact hg
    · rw [turnD_ne _ _ e]
      exact I.g b
  · by_cases e : b = w
    · subst e
      rw [turnD_same]
      exact hl
    · rw [turnD_ne _ _ e]
      have := I.len b
      omega
theorem LInv.free (I : LInv C z tr cs H ds n m) {r : Addr} (h : H r = none) : r ∉ z.M := fun hm => by
  obtain ⟨o, e, _⟩ := I.c.ld r hm
  rw [h] at e
  cases e
theorem LInv.hold (I : LInv C z tr cs H ds n m) (S : Sep z) {r1 r2 r3 : Addr} {xu xv hs : List V} {d : List Deed} (n1 : r1 ∉ z.M) (n2 : r2 ∉ z.M) (n3 : r3 ∉ z.M) (h1 : H r1 = some (.lst xu)) (h2 : H r2 = some (.lst xv)) (h3 : H r3 = some (.lst [.ref r1, .ref r2]))
    (hu : Deeds H xu d) (hv : Deeds H xv d) (hg : Good d) (hh : H z.hl = some (.lst hs)) : LInv C z tr cs (upd H z.hl (.lst (hs ++ [.ref r3]))) ds n (m + 1) := by
  have f : Fr [z.hl] H (upd H z.hl (.lst (hs ++ [.ref r3]))) := (fr_list hh).put (by simp)
  have sc : Same (cut z.M H) (cut z.M (upd H z.hl (.lst (hs ++ [.ref r3])))) := cut_fr f (fun x hx => by rw [List.mem_singleton.mp hx]; exact z.mh)
  have ld := I.c.ld
  obtain ⟨hs', q1, q2, q3⟩ := I.hl
  rw [hh] at q1
  cases q1
  refine ⟨⟨fun b => (I.c.w b).fr f (by simp [(S.hl b).symm]) (by simp [(S.ha b).symm]), fun b => ?_, fun b => f.keep _ _ (I.c.k b) (by simp [(S.hk b).symm]), ⟨_, upd_same⟩⟩, I.g, I.len, I.t.fr f, sc _ _ I.wl, sc _ _ I.dl, sc _ _ I.kl, sc _ _ I.cl, ⟨_, upd_same, ?_, fun x hx => ?_⟩⟩
  · obtain ⟨ys, e1, e2⟩ := I.c.e b
    exact ⟨ys, f.keep _ _ e1 (by simp [(S.he b).symm]), e2.fr f⟩
  · rw [List.length_append]
    show hs.length + 1 ≤ m + 1
    omega
  · rcases List.mem_append.mp hx with hx | hx
    · exact (q3 x hx).same sc
    · rw [List.mem_singleton.mp hx]
      exact HeldAt.same sc ⟨r3, r1, r2, d, xu, xv, rfl, cut_of h3 n3, cut_of h1 n1, cut_of h2 n2, deeds_cut ld hu, deeds_cut ld hv, hg⟩
end
def whoI (b : Bool) : Int := if b = true then 1 else 0
theorem at_b (f : Bool → Addr) (b : Bool) : atI [V.ref (f false), V.ref (f true)] (whoI b) = some (V.ref (f b)) := by cases b <;> rfl
theorem who_of {r : Int} (h0 : 0 ≤ r) (h1 : r < 2) : ∃ b, r = whoI b := by
  by_cases e : r = 0
  · exact ⟨false, e⟩
  · exact ⟨true, by show r = 1; omega⟩
theorem atI_strs {ss : List Str} {r : Int} (h0 : 0 ≤ r) (h1 : r < (ss.length : Int)) : ∃ s, s ∈ ss ∧ atI (ss.map V.str) r = some (V.str s) := by
  obtain ⟨k, rfl⟩ := Int.eq_ofNat_of_zero_le h0
  have hk : k < ss.length := by omega
  exact ⟨ss[k], List.getElem_mem hk, atI_nat (by rw [List.getElem?_map, List.getElem?_eq_getElem hk]; rfl)⟩
theorem atI_opts {os : List (Option Int)} {r : Int} (h0 : 0 ≤ r) (h1 : r < (os.length : Int)) : ∃ o, atI (os.map oV) r = some (oV o) := by
  obtain ⟨k, rfl⟩ := Int.eq_ofNat_of_zero_le h0
  have hk : k < os.length := by omega
  exact ⟨os[k], atI_nat (by rw [List.getElem?_map, List.getElem?_eq_getElem hk]; rfl)⟩
theorem atI_any {xs : List V} {r : Int} (h0 : 0 ≤ r) (h1 : r < (xs.length : Int)) : ∃ v, v ∈ xs ∧ atI xs r = some v := by
  obtain ⟨k, rfl⟩ := Int.eq_ofNat_of_zero_le h0
  have hk : k < xs.length := by omega
  exact ⟨xs[k], List.getElem_mem hk, atI_nat (List.getElem?_eq_getElem hk)⟩
structure Grown (H : Hp) (ms : List Addr) : Prop where
  nd : ms.Nodup
  df : ∀ m ∈ ms, ∃ o, H m = some o
theorem Grown.fresh {H : Hp} {ms : List Addr} {r : Addr} (g : Grown H ms) (h : H r = none) : r ∉ ms := fun m => by
  obtain ⟨o, e⟩ := g.df r m
  rw [h] at e
  cases e
theorem Grown.same {H H' : Hp} {ms : List Addr} (g : Grown H ms) (s : Same H H') : Grown H' ms := ⟨g.nd, fun m hm => let ⟨o, e⟩ := g.df m hm; ⟨o, s _ _ e⟩⟩
theorem Grown.upd {H : Hp} {ms : List Addr} (g : Grown H ms) (a : Addr) (o : HO) : Grown (L2.upd H a o) ms := ⟨g.nd, fun m hm => by
  by_cases e : m = a
  · exact ⟨o, by rw [e, upd_same]⟩
  · obtain ⟨u, h⟩ := g.df m hm
    exact ⟨u, by rw [upd_ne e]; exact h⟩⟩
theorem Grown.add {H : Hp} {ms : List Addr} {r : Addr} (g : Grown H ms) (o : HO) (h : H r = none) : Grown (L2.upd H r o) (r :: ms) := by
  refine ⟨List.nodup_cons.mpr ⟨g.fresh h, g.nd⟩, fun m hm => ?_⟩
  rcases List.mem_cons.mp hm with e | hm
  · exact ⟨o, by rw [e, upd_same]⟩
  · exact (g.upd r o).df m hm
theorem Grown.two {H H' : Hp} {ms : List Addr} {a l : Addr} {o u : HO} (g : Grown H ms) (s : Same H H') (ha : H a = none) (hl : H l = none) (n : l ≠ a) (ea : H' a = some o) (el : H' l = some u) : Grown H' (a :: l :: ms) := by
  refine ⟨List.nodup_cons.mpr ⟨fun m => ?_, List.nodup_cons.mpr ⟨g.fresh hl, g.nd⟩⟩, fun m hm => ?_⟩
  · rcases List.mem_cons.mp m with e | m
    · exact n e.symm
    · exact g.fresh ha m
  · rcases List.mem_cons.mp hm with e | hm
    · exact ⟨o, by rw [e]; exact ea⟩
    rcases List.mem_cons.mp hm with e | hm
    · exact ⟨u, by rw [e]; exact el⟩
    · exact (g.same s).df m hm
def two (x y : Addr) : Bool → Addr
  | false => x
  | true => y
theorem grown_all {cl hl kl k1 k0 dl e1 e0 wl a1 l1 a0 l0 : Addr} (h : [cl, hl, kl, k1, k0, dl, e1, e0, wl, a1, l1, a0, l0].Nodup) :
    [hl, k1, k0, e1, e0, a1, l1, a0, l0].Nodup ∧ wl ∉ [hl, k1, k0, e1, e0, a1, l1, a0, l0] ∧ dl ∉ [hl, k1, k0, e1, e0, a1, l1, a0, l0] ∧ kl ∉ [hl, k1, k0, e1, e0, a1, l1, a0, l0] ∧ cl ∉ [hl, k1, k0, e1, e0, a1, l1, a0, l0] := by
  simp only [List.nodup_cons, List.mem_cons, not_or, List.not_mem_nil, not_false_eq_true, and_true, List.nodup_nil] at h ⊢
  grind
theorem made_r {C : Addr} {H1 H' : Hp} {x dx t l a : Addr} (nx : H1 x = none) (ndx : H1 dx = none) (keep : ∀ b o, upd (upd H1 dx (.own x)) x (.ins C dx []) b = some o → b ≠ x → H' b = some o)
    (ht0 : upd (upd H1 dx (.own x)) x (.ins C dx []) t = none) (hl0 : upd (upd H1 dx (.own x)) x (.ins C dx []) l = none) (ha0 : upd (upd H1 dx (.own x)) x (.ins C dx []) a = none) : Same H1 H' ∧ H1 t = none ∧ H1 l = none ∧ H1 a = none := by
  have S0 : Same H1 (upd (upd H1 dx (.own x)) x (.ins C dx [])) := fun b o q => by
    rw [upd_ne (ne_of_none q nx), upd_ne (ne_of_none q ndx)]
    exact q
  exact ⟨fun b o q => keep b o (S0 b o q) (ne_of_none q nx), S0.free ht0, S0.free hl0, S0.free ha0⟩
theorem ints_cut (ns : List Int) (lo hi : Option Int) : ∃ cs : List Int, cutV (ns.map V.int) lo hi = cs.map V.int ∧ cs.length ≤ ns.length := by
  unfold cutV
  rw [← List.map_drop, ← List.map_take]
  refine ⟨_, rfl, ?_⟩
  rw [List.length_take, List.length_drop]
  omega
end OW
namespace OW
open PySem L2
structure Hlps (K : PySem.W.Frag) (mg : Str → Option Value) (gC gT gM gTo gN gU : Addr) (hdC hdT hdM hdTo hdN hdU : FuncData) : Prop where
  FC : Fun K "_law_cell_at" "_law_cell_at" sCell gC hdC
  bC : Binds K hdC ["script", "k"] []
  mC : mg "_law_cell_at" = some (.ref gC)
  FT : Fun K "_law_take" "_law_take" sTake gT hdT
  bT : Binds K hdT ["deck", "many"] []
  mT : mg "_law_take" = some (.ref gT)
  FM : Fun K "_law_made" "_law_made" sLMade gM hdM
  bM : Binds K hdM ["trade", "deeds", "work", "worth"] []
  mM : mg "_law_made" = some (.ref gM)
  FTo : Fun K "_law_told_right" "_law_told_right" sTold gTo hdTo
  bTo : Binds K hdTo ["worker", "deeds"] []
  mTo : mg "_law_told_right" = some (.ref gTo)
  FN : Fun K "_law_number" "_law_number" sNumber gN hdN
  bN : Binds K hdN ["deck", "small"] []
  mN : mg "_law_number" = some (.ref gN)
  FU : Fun K "_law_unlike_orders" "_law_unlike_orders" sUnlike gU hdU
  bU : Binds K hdU [] []
  mU : mg "_law_unlike_orders" = some (.ref gU)
def spLaw (K : PySem.W.Frag) : Sp := fun vs H Q _ => ∃ (a : Addr) (ns : List Int), vs = [.ref a] ∧ SqL K H a (ns.map V.int) ∧ ns.length ≤ 63 ∧ ∀ H', Q (.bl true) H'
theorem keysL : ([Sum.inr "sum", Sum.inr "vast", Sum.inr "cnt", Sum.inr "tally"] : List L2.Key).Nodup := by decide +kernel
abbrev kL (t1 t2 t3 t4 : Addr) : List (L2.Key × V) := [(Sum.inr "sum", V.ref t1), (Sum.inr "vast", V.ref t2), (Sum.inr "cnt", V.ref t3), (Sum.inr "tally", V.ref t4)]
theorem kL_merge (t1 t2 t3 t4 : Addr) : mergeK [] (kL t1 t2 t3 t4) = kL t1 t2 t3 t4 := merge_nodup _ [] keysL
theorem kL_self (t1 t2 t3 t4 : Addr) : ∀ p ∈ kL t1 t2 t3 t4, valV (kL t1 t2 t3 t4) p.1 = some p.2 ∧ ∃ c, p.2 = .ref c := fun p hp => by
  refine ⟨valV_self (kvs := kL t1 t2 t3 t4) (show ([Sum.inr "sum", Sum.inr "vast", Sum.inr "cnt", Sum.inr "tally"] : List L2.Key).Nodup from keysL) p hp, ?_⟩
  simp only [List.mem_cons, List.not_mem_nil, or_false] at hp
  rcases hp with e | e | e | e <;> (rw [e]; exact ⟨_, rfl⟩)
abbrev trL (n1 n2 : Int) : Str → Option Tr := look [("sum", .sum n1), ("vast", .sum n2), ("cnt", .cnt), ("tally", .cnt)]
abbrev sg (sa : Addr) (hd vt : Int) (hdd : Addr) (z : Ads) (r9 r10 r11 r12 r13 r14 r15 : Option V) : L2.St :=
  [some (.ref sa), some (.int hd), some (.int vt), some (.ref z.td), some (.ref hdd), some (.ref z.wl), some (.ref z.dl), some (.ref z.kl), some (.ref z.hl), r9, r10, r11, r12, r13, r14, r15, none]
abbrev nLaw : List Str := ["script", "head", "vast", "trade", "handed", "workers", "deeds", "known", "held", "cell", "deck", "who", "both", "work", "worth", "come", "one"]
section
variable {P : Program} {w : World} {K : PySem.W.Frag} {mg : Str → Option Value} {base : Heap}
theorem scL : FnScope nLaw ["script"] (defScope sLaw) := ⟨rfl, rfl, rfl, by decide +kernel, rfl, by decide +kernel, by decide +kernel⟩
theorem ok_law {f C fI fO fM fD fK : Addr} {fd fdI fdO fdM fdD fdK : FuncData} {gC gT gM gTo gN gU : Addr} {hdC hdT hdM hdTo hdN hdU : FuncData} (F : Fun K "law" "law" sLaw f fd) (B : Tops K mg C fI fO fM fD fK fdI fdO fdM fdD fdK)
    (L : Hlps K mg gC gT gM gTo gN gU hdC hdT hdM hdTo hdN hdU) : FnOk P w K mg base CX0 5 f fd ["script"] (spLaw K) := by
  have T := B.T
  have GI : FnOk P w K mg base CX0 1 fI fdI ["self", "trade"] (spInit C) := ok_init B.FI T
  have GO : FnOk P w K mg base CX0 3 fO fdO ["self", "run", "ticket", "work", "worth"] (spDo C) := ok_do B.FO T B.FM B.bM B.mM B.FK B.bK B.mK
  have GD : FnOk P w K mg base CX0 1 fD fdD ["self"] (spDeeds C) := ok_deeds B.FD T
  have GC : FnOk P w K mg base CX0 1 gC hdC ["script", "k"] (spCell K) := ok_cell L.FC T
  have GT : FnOk P w K mg base CX0 1 gT hdT ["deck", "many"] spTake := ok_take L.FT T
  have GM : FnOk P w K mg base CX0 1 gM hdM ["trade", "deeds", "work", "worth"] spLMade := ok_lmade L.FM T
  have GTo : FnOk P w K mg base CX0 2 gTo hdTo ["worker", "deeds"] (spTold C) := ok_told L.FTo T B.FD B.bD B.mD
  have GN : FnOk P w K mg base CX0 2 gN hdN ["deck", "small"] spNumber := ok_number L.FN T L.FT L.bT L.mT
  have GU : FnOk P w K mg base CX0 4 gU hdU [] spUnlike := ok_unlike L.FU B
  refine F.ok scL (fun vs H Q E h => ?_) (fun cdv A outer s H vs Q E hr h => ?_)
  · obtain ⟨a, ns, rfl, _⟩ := h
    rfl
  · obtain ⟨sa, ns, rfl, hS, hlen, kQ⟩ := h
    have hu := hu_of hr
    have hr1 : Room 1 _ := hr.mono (by decide)
    have hr2 : Room 2 _ := hr.mono (by decide)
    have hr3 : Room 3 _ := hr.mono (by decide)
    refine ⟨_, pss_cons (ps_set (i := 1) scL.nd rfl (Or.inl rfl) (pe_call GC hr1 rfl L.mC L.FC.kp L.bC .nil pass0 (pa_cons (pv 0) (pa_cons pe_int pa_nil))))
      (pss_cons (ps_set (i := 2) scL.nd rfl (Or.inl rfl) (pe_ix ix_list (pe_lst (pa_cons (pe_op op_pow pe_int pe_int) (pa_cons (pe_un un_neg (pe_op op_pow pe_int pe_int)) pa_nil))) (pe_op op_mod (pe_op op_fdiv (pv 1) pe_int) pe_int) (fun _ _ => rfl)))
      (C8.pss_cut (ps_set (i := 3) scL.nd rfl (Or.inl rfl) (pe_disp (pps_cons pe_str (pe_tup (pa_cons pe_str (pa_cons (pe_op op_sub (pe_op op_mod (pe_op op_fdiv (pv 1) pe_int) pe_int) pe_int) pa_nil)))
        (pps_cons pe_str (pe_tup (pa_cons pe_str (pa_cons (pv 2) pa_nil))) (pps_cons pe_str (pe_tup (pa_cons pe_str pa_nil)) (pps_cons pe_str (pe_tup (pa_cons pe_str pa_nil)) pps_nil)))) (by rfl) (by rfl) (fun z => by cases z) (by decide)))
      (pss_cons (ps_set (i := 4) scL.nd rfl (Or.inl rfl) (pe_callTy call_dictD (by rfl) T.dict boot_dict (pa_cons (pv 3) pa_nil)))
      (pss_cons (ps_set (i := 5) scL.nd rfl (Or.inl rfl) (pe_lst (pa_cons (pe_make B.M GI hr2 rfl T.mgC B.bI .nil pass0 (pa_cons (pv 4) pa_nil))
        (pa_cons (pe_make B.M GI hr2 rfl T.mgC B.bI .nil pass0 (pa_cons (pe_callTy call_dictD (by rfl) T.dict boot_dict (pa_cons (pv 3) pa_nil)) pa_nil)) pa_nil))))
      (pss_cons (ps_if (pt_cmpR (op_neSame hr.units0) (pv 4) (pv 3) (nomark _)) (pss_one (ps_ret pe_bl)) pss_nil)
      (C8.pss_cut (ps_expr (pe_dclear (pv 4)))
      (pss_cons (ps_set (i := 6) scL.nd rfl (Or.inl rfl) (pe_lst (pa_cons (pe_lst pa_nil) (pa_cons (pe_lst pa_nil) pa_nil))))
      (pss_cons (ps_set (i := 7) scL.nd rfl (Or.inl rfl) (pe_lst (pa_cons pe_dnewT (pa_cons pe_dnewT pa_nil))))
      (C8.pss_cut (ps_set (i := 8) scL.nd rfl (Or.inl rfl) (pe_lst pa_nil))
      (pss_cons (ps_for PassesOwn.never rfl (pi_list (pe_op op_cat (pe_lst (pa_cons pe_int (pa_cons pe_int pa_nil))) (pe_slice sl_list (pv 0) po_none (po_some pe_int)))) (pg_name (i := 9) scL.nd rfl (Or.inl rfl))
        (pss_cons (ps_set (i := 10) scL.nd rfl (Or.inl rfl) (pe_lst (pa_cons (pv 9) (pa_cons (pe_op op_mod (pv 1) pe_int) (pa_cons pe_int pa_nil)))))
        (pss_cons (ps_set (i := 11) scL.nd rfl (Or.inl rfl) (pe_call GT hr1 rfl L.mT L.FT.kp L.bT .nil pass0 (pa_cons (pv 10) (pa_cons pe_int pa_nil))))
        (pss_cons (ps_set (i := 12) scL.nd rfl (Or.inl rfl) (pe_tup (pa_cons (pe_call GN hr2 rfl L.mN L.FN.kp L.bN .nil pass0 (pa_cons (pv 10) (pa_cons pe_int pa_nil))) (pa_cons (pe_call GN hr2 rfl L.mN L.FN.kp L.bN .nil pass0 (pa_cons (pv 10) (pa_cons pe_int pa_nil))) pa_nil))))
        (C8.pss_cut (ps_if (PW.pt (pw_and (pt_cmpR (op_neEmpty hr.units0) (pe_ix ix_list (pv 7) (pv 11) (fun _ _ => rfl)) pe_dnewT (nomark _))
            (pw_and1 (pt_cmpR op_eq (pe_call GT hr1 rfl L.mT L.FT.kp L.bT .nil pass0 (pa_cons (pv 10) (pa_cons pe_int pa_nil))) pe_int (nomark _)))))
            (pss_one (ps_set (i := 12) scL.nd rfl (Or.inl rfl) (pe_ix ix_list (pe_callB (call_sortedDT rfl) (by rfl) T.sorted boot_sorted (pa_cons (pe_ix ix_list (pv 7) (pv 11) (fun _ _ => rfl)) pa_nil))
              (pe_call GT hr1 rfl L.mT L.FT.kp L.bT .nil pass0 (pa_cons (pv 10) (pa_cons (pe_callB call_len_dT (by rfl) T.len PySem.boot_len (pa_cons (pe_ix ix_list (pv 7) (pv 11) (fun _ _ => rfl)) pa_nil)) pa_nil))) (fun _ _ => rfl)))) pss_nil)
        (pss_cons (ps_set (i := 13) scL.nd rfl (Or.inl rfl) (pe_ix ix_list (pe_lst (pa_cons pe_str (pa_cons pe_str (pa_cons pe_str (pa_cons pe_str (pa_cons pe_str pa_nil)))))) (pe_call GT hr1 rfl L.mT L.FT.kp L.bT .nil pass0 (pa_cons (pv 10) (pa_cons pe_int pa_nil))) (fun _ _ => rfl)))
        (C8.pss_cut (ps_set (i := 14) scL.nd rfl (Or.inl rfl) (pe_ix ix_list (pe_lst (pa_cons pe_non (pa_cons pe_int (pa_cons pe_int (pa_cons (pe_un un_neg pe_int) (pa_cons (pe_op op_pow pe_int pe_int) (pa_cons (pe_un un_neg (pe_op op_pow pe_int pe_int))
            (pa_cons (pe_op op_sub (pe_op op_pow pe_int pe_int) pe_int) (pa_cons (pe_call GT hr1 rfl L.mT L.FT.kp L.bT .nil pass0 (pa_cons (pv 10) (pa_cons pe_int pa_nil))) pa_nil))))))))) (pe_call GT hr1 rfl L.mT L.FT.kp L.bT .nil pass0 (pa_cons (pv 10) (pa_cons pe_int pa_nil))) (fun _ _ => rfl)))
        (C8.pss_cut (ps_if (pt_cmp (pc_dnotin hu (pv 12) (pe_ix ix_list (pv 7) (pv 11) (fun _ _ => rfl))))
            (pss_cons (ps_dput hu (pe_ix ix_list (pv 7) (pv 11) (fun _ _ => rfl)) (pv 12) (pe_call GM hr1 rfl L.mM L.FM.kp L.bM .nil pass0 (pa_cons (pv 3) (pa_cons (pe_ix ix_list (pv 6) (pv 11) (fun _ _ => rfl)) (pa_cons (pv 13) (pa_cons (pv 14) pa_nil))))) rfl)
            (pss_one (ps_expr (pe_bm PySem.F.plainAttrs_list PySem.F.slot_list_append PySem.F.type_list_append mt_append (pe_ix ix_list (pv 6) (pv 11) (fun _ _ => rfl))
              (pa_cons (pe_op op_catT (pv 12) (pe_tup (pa_cons (pv 13) (pa_cons (pv 14) (pa_cons (pe_dget hu (pe_ix ix_list (pv 7) (pv 11) (fun _ _ => rfl)) (pv 12) (fun _ _ => rfl)) pa_nil))))) pa_nil))))) pss_nil)
        (pss_cons (ps_set (i := 15) scL.nd rfl (Or.inl rfl) (pe_meth (pe_ix ix_list (pv 5) (pv 11) (fun _ _ => rfl)) T.cl B.mO GO hr3 B.bO .nil pass0 (pa_cons (pe_ix ix_tup (pv 12) pe_int (fun _ _ => rfl)) (pa_cons (pe_ix ix_tup (pv 12) pe_int (fun _ _ => rfl)) (pa_cons (pv 13) (pa_cons (pv 14) pa_nil))))))
        (pss_cons (ps_if (PW.pt (pw_or (pt_cmpR op_ne (pv 15) (pe_dget hu (pe_ix ix_list (pv 7) (pv 11) (fun _ _ => rfl)) (pv 12) (fun _ _ => rfl)) (nomark _))
            (pw_or (pt_val (pe_callB call_isi (by rfl) T.isi boot_isinstance (pa_cons (pv 15) (pa_cons (pe_bltn (v := .ty "bool") (by rfl) T.bool boot_bool rfl) pa_nil))))
            (pw_or1 (pt_not (pt_val (pe_call GTo hr2 rfl L.mTo L.FTo.kp L.bTo .nil pass0 (pa_cons (pe_ix ix_list (pv 5) (pv 11) (fun _ _ => rfl)) (pa_cons (pe_ix ix_list (pv 6) (pv 11) (fun _ _ => rfl)) pa_nil)))))))))
            (pss_one (ps_ret pe_bl)) pss_nil)
        (pss_one (ps_expr (pe_bm PySem.F.plainAttrs_list PySem.F.slot_list_append PySem.F.type_list_append mt_append (pv 8)
          (pa_cons (pe_lst (pa_cons (pe_meth0 (pe_ix ix_list (pv 5) (pv 11) (fun _ _ => rfl)) T.cl B.mD GD hr1 B.bD .nil pass0) (pa_cons (pe_callTy call_list_of (by rfl) T.list boot_list (pa_cons (pe_ix ix_list (pv 6) (pv 11) (fun _ _ => rfl)) pa_nil)) pa_nil))) pa_nil))))))))))))))
      (pss_cons (ps_if (pt_cmpR (op_neD hr.units)
          (pe_lc (own := [("one", 16)]) (g := gName 16) rfl scL.nd (pi_list (pv 8)) (blkOk_by (own := [("one", 16)]) (N := nLaw) (sc := defScope sLaw) (by decide +kernel))
            (fun _ _ _ _ _ => pg_name (i := 16) scL.nd rfl (Or.inl rfl)) (fun _ _ _ _ _ => pts_one (pt_cmpR (r := rNeD K) (op_neD hr.units) (pe_ix (r := rIxL K) ix_list (pv 16) pe_int (fun _ _ => rfl)) (pe_ix (r := rIxL K) ix_list (pv 16) pe_int (fun _ _ => rfl)) (nomark _)))
            (fun _ _ _ _ _ => pv 16)) (pe_lst pa_nil) (nomark _)) (pss_one (ps_ret pe_bl)) pss_nil)
      (pss_cons (ps_if (PW.pt (pw_or (pt_not (pt_val (pe_call GTo hr2 rfl L.mTo L.FTo.kp L.bTo .nil pass0 (pa_cons (pe_ix ix_list (pv 5) pe_int (fun _ _ => rfl)) (pa_cons (pe_ix ix_list (pv 6) pe_int (fun _ _ => rfl)) pa_nil)))))
          (pw_or1 (pt_not (pt_val (pe_call GTo hr2 rfl L.mTo L.FTo.kp L.bTo .nil pass0 (pa_cons (pe_ix ix_list (pv 5) pe_int (fun _ _ => rfl)) (pa_cons (pe_ix ix_list (pv 6) pe_int (fun _ _ => rfl)) pa_nil)))))))) (pss_one (ps_ret pe_bl)) pss_nil)
      (pss_one (ps_ret (pe_call0 GU hr rfl L.mU L.FU.kp L.bU .nil pass0))))))))))))))), ?_⟩
    have h1 : 1 ≤ sizeLine := by show 1 ≤ sizeLine; decide
    have h2 : 2 ≤ sizeLine := by show 2 ≤ sizeLine; decide
    have h3 : 3 ≤ sizeLine := by show 3 ≤ sizeLine; decide
    have h5 : 5 ≤ sizeLine := by show 5 ≤ sizeLine; decide
    have h8 : 8 ≤ sizeLine := by show 8 ≤ sizeLine; decide
    have c9 : CPow 10 9 := ⟨by decide, by decide, by decide⟩
    refine ⟨_, rfl, sa, ns, rfl, hS, fun hd => ?_⟩
    refine ⟨_, _, rfl, rfl, c9, _, _, rfl, rfl, c9, _, rfl, h2, fun r0 hr0 => ?_⟩
    obtain ⟨vt, hvt⟩ := atI_ints (ns := [(10 : Int) ^ (9 : Int).toNat, -((10 : Int) ^ (9 : Int).toNat)]) (r := hd / 40 % 2) (Int.emod_nonneg _ (by decide)) (Int.emod_lt_of_pos _ (by decide))
    refine ⟨_, rfl, _, _, rfl, rfl, ⟨by decide, by decide⟩, _, _, rfl, rfl, (by show (0 : Int) < 2; decide), r0, _, _, _, rfl, rfl, SqL.of upd_same, hvt, ?_⟩
    refine ⟨fun σ' H' => ∃ (td : Addr) (kvs : List (L2.Key × V)) (n1 : Int), σ' = [some (.ref sa), some (.int hd), some (.int vt), some (.ref td), none, none, none, none, none, none, none, none, none, none, none, none, none] ∧
      Same H H' ∧ H' td = some (.dK kvs) ∧ TradeAt H' td (trL n1 vt) ∧ ∀ p ∈ kvs, valV kvs p.1 = some p.2 ∧ ∃ c, p.2 = .ref c, ?_, ?_⟩
    · intro td htd
      refine ⟨_, rfl, _, _, rfl, rfl, ⟨by decide, by decide⟩, _, _, rfl, rfl, (by show (0 : Int) < 20; decide), _, _, rfl, rfl, h2, fun t1 ht1 => ⟨_, rfl, h2, fun t2 ht2 => ⟨h1, fun t3 ht3 => ⟨h1, fun t4 ht4 => ?_⟩⟩⟩⟩
      have s1 := (((((same_upd hr0).trans (same_upd htd)).trans (same_upd ht1)).trans (same_upd ht2)).trans (same_upd ht3)).trans (same_upd (o := .tup [.str "count"]) ht4)
      have m1 : td ≠ t1 := fun q => by rw [← q, upd_same] at ht1; cases ht1
      have m2 : td ≠ t2 := fun q => by rw [← q, upd_ne m1, upd_same] at ht2; cases ht2
      have m3 : td ≠ t3 := fun q => by rw [← q, upd_ne m2, upd_ne m1, upd_same] at ht3; cases ht3
      have m4 : td ≠ t4 := fun q => by rw [← q, upd_ne m3, upd_ne m2, upd_ne m1, upd_same] at ht4; cases ht4
      have m12 : t1 ≠ t2 := fun q => by rw [← q, upd_same] at ht2; cases ht2
      have m13 : t1 ≠ t3 := fun q => by rw [← q, upd_ne m12, upd_same] at ht3; cases ht3
      have m14 : t1 ≠ t4 := fun q => by rw [← q, upd_ne m13, upd_ne m12, upd_same] at ht4; cases ht4
      have m23 : t2 ≠ t3 := fun q => by rw [← q, upd_same] at ht3; cases ht3
      have m24 : t2 ≠ t4 := fun q => by rw [← q, upd_ne m23, upd_same] at ht4; cases ht4
      have m34 : t3 ≠ t4 := fun q => by rw [← q, upd_same] at ht4; cases ht4
      refine ⟨by rw [upd_ne m4, upd_ne m3, upd_ne m2, upd_ne m1, upd_same], kL t1 t2 t3 t4, rfl, by show 4 ≤ 15; decide, ?_⟩
      rw [kL_merge]
      have htd0 : H td = none := (same_upd hr0).free htd
      refine ⟨td, kL t1 t2 t3 t4, hd / 2 % 20 - 9, rfl, fun b o e => ?_, upd_same, ?_, kL_self t1 t2 t3 t4⟩
      · rw [upd_ne (ne_of_none e htd0)]
        exact s1 b o e
      · refine trade_of (rows := [("sum", t1, .sum (hd / 2 % 20 - 9)), ("vast", t2, .sum vt), ("cnt", t3, .cnt), ("tally", t4, .cnt)]) upd_same (fun r hr => ?_)
        rcases List.mem_cons.mp hr with e | hr
        · subst e
          rw [upd_ne m1.symm, upd_ne m14, upd_ne m13, upd_ne m12, upd_same]
          rfl
        rcases List.mem_cons.mp hr with e | hr
        · subst e
          rw [upd_ne m2.symm, upd_ne m24, upd_ne m23, upd_same]
          rfl
        rcases List.mem_cons.mp hr with e | hr
        · subst e
          rw [upd_ne m3.symm, upd_ne m34, upd_same]
          rfl
        rw [List.mem_singleton.mp hr]
        rw [upd_ne m4.symm, upd_same]
        rfl
    rintro σ' H1 ⟨td, kvs, n1, rfl, s2, htd1, tr1, hkv⟩
    refine ⟨_, rfl, td, kvs, rfl, .inl htd1, fun hdd hhd => ?_⟩
    have s3 : Same H1 (upd H1 hdd (.dK kvs)) := same_upd hhd
    have nth : td ≠ hdd := ne_of_none htd1 hhd
    have hH0 : H hdd = none := s2.free hhd
    refine ⟨_, rfl, fun x0 dx0 nx0 ndx0 nex0 => ?_⟩
    refine ⟨x0, dx0, hdd, kvs, rfl, upd_same, ?_, fun H3 tt0 l0 a0 kp0 ht0 hl0 ha0 nla0 hx0 hT0 hL0 hA0 => ⟨rfl, ?_⟩⟩
    · rw [upd_ne (fun q => by rw [← q, upd_same] at nx0; cases nx0), upd_ne (fun q => by rw [← q, upd_same] at ndx0; cases ndx0), upd_same]
    obtain ⟨S3, ht0', hl0', ha0'⟩ := made_r nx0 ndx0 kp0 ht0 hl0 ha0
    have n0h : tt0 ≠ hdd := fun q => by rw [q, upd_same] at ht0'; cases ht0'
    have htd3 := S3 _ _ (s3 _ _ htd1)
    refine ⟨_, rfl, td, kvs, rfl, .inl htd3, fun cc hcc => ?_⟩
    have s4 : Same H3 (upd H3 cc (.dK kvs)) := same_upd hcc
    intro x1 dx1 nx1 ndx1 nex1
    refine ⟨x1, dx1, cc, kvs, rfl, upd_same, ?_, fun H5 tt1 l1 a1 kp1 ht1 hl1 ha1 nla1 hx1 hT1 hL1 hA1 => ⟨rfl, ?_⟩⟩
    · rw [upd_ne (fun q => by rw [← q, upd_same] at nx1; cases nx1), upd_ne (fun q => by rw [← q, upd_same] at ndx1; cases ndx1), upd_same]
    obtain ⟨S5, ht1', hl1', ha1'⟩ := made_r nx1 ndx1 kp1 ht1 hl1 ha1
    have n1h : tt1 ≠ hdd := fun q => by rw [q, s4 _ _ (S3 _ _ upd_same)] at ht1'; cases ht1'
    have g3 : Grown H3 [a0, l0] := Grown.two (ms := []) ⟨List.nodup_nil, fun _ m => nomatch m⟩ S3 ha0' hl0' nla0 hA0 hL0
    have g5 : Grown H5 [a1, l1, a0, l0] := (g3.same s4).two S5 ha1' hl1' nla1 hA1 hL1
    have s35 := s4.trans S5
    refine ⟨h2, fun wl hwl => ?_⟩
    have g6 := g5.add (.lst [.ref x0, .ref x1]) hwl
    have s6 : Same H5 (upd H5 wl (.lst [.ref x0, .ref x1])) := same_upd hwl
    have hwl6 : upd H5 wl (.lst [.ref x0, .ref x1]) wl = some (.lst [.ref x0, .ref x1]) := upd_same
    have hdd6 := s6 _ _ (s35 _ _ (S3 _ _ (upd_same (H := H1) (a := hdd) (o := .dK kvs))))
    have htd6 := s6 _ _ (s35 _ _ htd3)
    have hx06 := s6 _ _ (s35 _ _ hx0)
    have hT06 := s6 _ _ (s35 _ _ hT0)
    have hL06 := s6 _ _ (s35 _ _ hL0)
    have hA06 := s6 _ _ (s35 _ _ hA0)
    have hx16 := s6 _ _ hx1
    have hT16 := s6 _ _ hT1
    have hL16 := s6 _ _ hL1
    have hA16 := s6 _ _ hA1
    have sH6 := (((s2.trans s3).trans S3).trans s35).trans s6
    have tr6 : TradeAt (upd H5 wl (.lst [.ref x0, .ref x1])) td (trL n1 vt) := tr1.fr (same_fr (((s3.trans S3).trans s35).trans s6))
    clear hx0 hT0 hL0 hA0 hx1 hT1 hL1 hA1 g3 g5 htd3 kp0 kp1 nx0 ndx0 nx1 ndx1 ht0 hl0 ha0 ht1 hl1 ha1 ht0' hl0' ha0' ht1' hl1' ha1' s35 s6 hwl S5 S3 s4 s3 tr1 htd1 hcc hhd s2
    revert g6 hwl6 hdd6 htd6 hx06 hT06 hL06 hA06 hx16 hT16 hL16 hA16 sH6 tr6
    generalize upd H5 wl (.lst [.ref x0, .ref x1]) = H6
    intro g6 hwl6 hdd6 htd6 hx06 hT06 hL06 hA06 hx16 hT16 hL16 hA16 sH6 tr6
    refine ⟨_, rfl, _, rfl, hdd, td, kvs, rfl, rfl, hdd6, htd6, hkv, _, rfl, iteF ?_⟩
    have tr6' := tr6
    refine ⟨fun σ' H' => σ' = [some (.ref sa), some (.int hd), some (.int vt), some (.ref td), some (.ref hdd), some (.ref wl), none, none, none, none, none, none, none, none, none, none, none] ∧
      SqL K H' sa (ns.map V.int) ∧ Grown H' [wl, a1, l1, a0, l0] ∧ H' wl = some (.lst [.ref x0, .ref x1]) ∧ WorkerAt C H' x0 l0 a0 (trL n1 vt) [] ∧ WorkerAt C H' x1 l1 a1 (trL n1 vt) [] ∧ TradeAt H' td (trL n1 vt), ?_, ?_⟩
    · refine ⟨_, rfl, .inr (.inr (.inl ⟨rfl, .inl ⟨_, hdd6⟩⟩)), hdd, kvs, rfl, rfl, hdd6, ?_⟩
      have nd_ : ∀ {b : Addr} {o : HO}, H6 b = some o → o ≠ .dK kvs → b ≠ hdd := fun h n => ne_of h hdd6 n
      have hwl7 : upd H6 hdd (.dK []) wl = some (.lst [.ref x0, .ref x1]) := by rw [upd_ne (nd_ hwl6 (by intro q; cases q))]; exact hwl6
      have hx07 : upd H6 hdd (.dK []) x0 = some (.ins C dx0 (fl tt0 l0 a0)) := by rw [upd_ne (nd_ hx06 (by intro q; cases q))]; exact hx06
      have hx17 : upd H6 hdd (.dK []) x1 = some (.ins C dx1 (fl tt1 l1 a1)) := by rw [upd_ne (nd_ hx16 (by intro q; cases q))]; exact hx16
      have hT07 : upd H6 hdd (.dK []) tt0 = some (.dK kvs) := by rw [upd_ne n0h]; exact hT06
      have hT17 : upd H6 hdd (.dK []) tt1 = some (.dK kvs) := by rw [upd_ne n1h]; exact hT16
      have htd7 : upd H6 hdd (.dK []) td = some (.dK kvs) := by rw [upd_ne nth]; exact htd6
      have hL07 : upd H6 hdd (.dK []) l0 = some (.lst []) := by rw [upd_ne (nd_ hL06 (by intro q; cases q))]; exact hL06
      have hL17 : upd H6 hdd (.dK []) l1 = some (.lst []) := by rw [upd_ne (nd_ hL16 (by intro q; cases q))]; exact hL16
      have hA07 : upd H6 hdd (.dK []) a0 = some (.dT []) := by rw [upd_ne (nd_ hA06 (by intro q; cases q))]; exact hA06
      have hA17 : upd H6 hdd (.dK []) a1 = some (.dT []) := by rw [upd_ne (nd_ hA16 (by intro q; cases q))]; exact hA16
      have tr7 : TradeAt (upd H6 hdd (.dK [])) td (trL n1 vt) := by
        obtain ⟨kv, q1, q2⟩ := tr6
        rw [htd6] at q1
        cases q1
        have tv : ∀ (x : Option V) (t : Option Tr), TrV H6 x t → TrV (upd H6 hdd (.dK [])) x t := fun x t h => by
          cases x with
          | none => cases t with
            | none => trivial
            | some t => exact (show False from h).elim
          | some x => cases t with
            | none => cases x <;> exact (show False from h).elim
            | some t => cases x with
              | ref b => cases t with
                | cnt =>
                  have h' : H6 b = some (.tup [.str "count"]) := h
                  show upd H6 hdd (.dK []) b = _
                  rw [upd_ne (nd_ h' (by intro q; cases q))]
                  exact h'
                | sum n =>
                  have h' : H6 b = some (.tup [.str "sum", .int n]) := h
                  show upd H6 hdd (.dK []) b = _
                  rw [upd_ne (nd_ h' (by intro q; cases q))]
                  exact h'
              | _ => exact (show False from h).elim
        exact ⟨kvs, htd7, fun w => tv _ _ (q2 w)⟩
      refine ⟨rfl, ?_, g6.upd hdd (.dK []), hwl7, ⟨⟨dx0, tt0, hx07, tr7.copy htd7 hT07⟩, ⟨[], hL07, .nil⟩, hA07⟩, ⟨⟨dx1, tt1, hx17, tr7.copy htd7 hT17⟩, ⟨[], hL17, .nil⟩, hA17⟩, tr7⟩
      have sH7 : Same H (upd H6 hdd (.dK [])) := fun b o e => by
        rw [upd_ne (ne_of_none e hH0)]
        exact sH6 b o e
      exact sH7.seq hS
    clear g6 hwl6 hdd6 htd6 hx06 hT06 hL06 hA06 hx16 hT16 hL16 hA16 sH6 tr6 tr6' hkv hS hH0
    rintro σ' H7 ⟨rfl, hS, g7, hwl7, W0, W1, tr7⟩
    refine ⟨Nat.zero_le _, fun e0 he0 => ⟨Nat.zero_le _, fun e1 he1 => ⟨h2, fun dl hdl => ?_⟩⟩⟩
    intro k0 hk0 k1 hk1
    refine ⟨h2, fun kl hkl => ?_⟩
    refine ⟨fun σ' H' => ∃ hl : Addr, σ' = [some (.ref sa), some (.int hd), some (.int vt), some (.ref td), some (.ref hdd), some (.ref wl), some (.ref dl), some (.ref kl), some (.ref hl), none, none, none, none, none, none, none, none] ∧
      SqL K H' sa (ns.map V.int) ∧ Grown H' [hl, kl, k1, k0, dl, e1, e0, wl, a1, l1, a0, l0] ∧ H' wl = some (.lst [.ref x0, .ref x1]) ∧ H' dl = some (.lst [.ref e0, .ref e1]) ∧ H' kl = some (.lst [.ref k0, .ref k1]) ∧ H' hl = some (.lst []) ∧
      H' e0 = some (.lst []) ∧ H' e1 = some (.lst []) ∧ H' k0 = some (.dT []) ∧ H' k1 = some (.dT []) ∧ WorkerAt C H' x0 l0 a0 (trL n1 vt) [] ∧ WorkerAt C H' x1 l1 a1 (trL n1 vt) [] ∧ TradeAt H' td (trL n1 vt), ?_, ?_⟩
    · refine ⟨Nat.zero_le _, fun hl hhl => ?_⟩
      have sk1 := (same_upd hkl).trans (same_upd (o := .lst []) hhl)
      have sk0 := (same_upd hk1).trans sk1
      have sdl := (same_upd hk0).trans sk0
      have se1 := (same_upd hdl).trans sdl
      have se0 := (same_upd he1).trans se1
      have s7 := (same_upd he0).trans se0
      refine ⟨hl, rfl, s7.seq hS, ((((((g7.add _ he0).add _ he1).add _ hdl).add _ hk0).add _ hk1).add _ hkl).add _ hhl, s7 _ _ hwl7, sdl _ _ upd_same, (same_upd hhl) _ _ upd_same, upd_same, se0 _ _ upd_same, se1 _ _ upd_same, sk0 _ _ upd_same, sk1 _ _ upd_same, W0.same s7, W1.same s7, tr7.fr (same_fr s7)⟩
    clear hS g7 hwl7 W0 W1 tr7 he0 he1 hdl hk0 hk1 hkl
    rintro σ' H8 ⟨hl, rfl, hS, g8, hwl8, hdl8, hkl8, hhl8, he08, he18, hk08, hk18, W0, W1, tr8⟩
    refine ⟨h2, fun c1 hc1 => ?_⟩
    obtain ⟨cs, ecs, lcs⟩ := ints_cut ns none (some 61)
    refine ⟨_, rfl, _, rfl, sa, ns.map V.int, rfl, (same_upd hc1).seq hS, fun c2 hc2 => ?_⟩
    rw [ecs]
    have s9 := (same_upd hc1).trans (same_upd (o := .lst (cs.map V.int)) hc2)
    refine ⟨c1, c2, _, _, rfl, rfl, same_upd hc2 _ _ upd_same, upd_same, by rw [List.length_map]; show 2 + cs.length ≤ sizeLine; exact Nat.le_of_lt (small1000 (by omega)), fun cl hcl => ?_⟩
    have s10 := s9.trans (same_upd (o := .lst ((0 :: 5 :: cs).map V.int)) hcl)
    have g10 := ((g8.upd c1 (.lst [.int 0, .int 5])).upd c2 (.lst (cs.map V.int))).add (.lst ((0 :: 5 :: cs).map V.int)) hcl
    obtain ⟨nd, nwl, ndl, nkl, ncl⟩ := grown_all g10.nd
    refine ⟨cl, rfl, ⟨(0 :: 5 :: cs).map V.int, SqL.of upd_same⟩, ?_⟩
    obtain ⟨Z, q1, q2, q3, q4, q5, q6, I0, Sp⟩ : ∃ Z : Ads, Z.td = td ∧ Z.wl = wl ∧ Z.dl = dl ∧ Z.kl = kl ∧ Z.hl = hl ∧ Z.cl = cl ∧
        LInv C Z (trL n1 vt) (0 :: 5 :: cs) (upd (upd (upd H8 c1 (.lst [.int 0, .int 5])) c2 (.lst (cs.map V.int))) cl (.lst ((0 :: 5 :: cs).map V.int))) (fun _ => []) 0 0 ∧ Sep Z := by
      refine ⟨⟨two x0 x1, two l0 l1, two a0 a1, two e0 e1, two k0 k1, td, wl, dl, kl, hl, cl⟩, rfl, rfl, rfl, rfl, rfl, rfl, ?_, sep_of nd⟩
      refine ⟨⟨fun b => ?_, fun b => ?_, fun b => ?_, ⟨[], s10 _ _ hhl8⟩⟩, (fun _ _ m => nomatch m), fun _ => Nat.le_refl _, tr8.fr (same_fr s10), cut_of (s10 _ _ hwl8) nwl, cut_of (s10 _ _ hdl8) ndl, cut_of (s10 _ _ hkl8) nkl, cut_of upd_same ncl,
        ⟨[], s10 _ _ hhl8, Nat.le_refl _, (fun _ m => nomatch m)⟩⟩
      · cases b
        · exact W0.same s10
        · exact W1.same s10
      · cases b
        · exact ⟨[], s10 _ _ he08, .nil⟩
        · exact ⟨[], s10 _ _ he18, .nil⟩
      · cases b
        · exact s10 _ _ hk08
        · exact s10 _ _ hk18
    clear s10 s9 g10 nd nwl ndl nkl ncl g8 hwl8 hdl8 hkl8 hhl8 he08 he18 hk08 hk18 W0 W1 tr8 hS hcl hc2 hc1
    subst q1 q2 q3 q4 q5 q6
    refine for_list (K := K) (a := Z.cl) (xs := (0 :: 5 :: cs).map V.int) (fun i σ H' => ∃ (r9 r10 r11 r12 r13 r14 r15 : Option V) (ds : Bool → List Deed), σ = sg sa hd vt hdd Z r9 r10 r11 r12 r13 r14 r15 ∧ LInv C Z (trL n1 vt) (0 :: 5 :: cs) H' ds i i)
      ⟨none, none, none, none, none, none, none, _, rfl, I0⟩ (fun i σ H' _ ⟨_, _, _, _, _, _, _, ds, _, I⟩ => SqL.of (of_cut I.cl).1) ?_ ?_
    · rintro i y σ H0 hi ⟨r9, r10, r11, r12, r13, r14, r15, ds, rfl, I⟩
      have hi100 : i < 100 := by
        have q := (List.getElem?_eq_some_iff.mp hi).1
        rw [List.length_map] at q
        simp only [List.length_cons] at q
        omega
      obtain ⟨cell, rfl⟩ : ∃ u, y = V.int u := by
        rw [List.getElem?_map] at hi
        cases e : (0 :: 5 :: cs)[i]? with
        | none =>
          rw [e] at hi
          cases hi
        | some u =>
          rw [e] at hi
          exact ⟨u, (Option.some.inj hi).symm⟩
      refine ⟨_, rfl, _, rfl, _, _, rfl, rfl, (by show (0 : Int) < 2; decide), h3, fun D hD0 => ?_⟩
      have sD : ∀ {H' : Hp}, Fr [D] (upd H0 D (dk cell (hd % 2) 7)) H' → Same H0 H' := fun f b o e => f.keep b o (same_upd hD0 b o e) (by
        rw [List.mem_singleton]
        exact ne_of_none e hD0)
      refine ⟨_, rfl, D, 2, _, _, 7, rfl, upd_same, by decide, by decide, by decide, by decide, fun r a1 cc1 q0 q1 q2 q3 => ?_⟩
      obtain ⟨b, rfl⟩ := who_of q0 q1
      have f1 : Fr [D] (upd H0 D (dk cell (hd % 2) 7)) (upd (upd H0 D (dk cell (hd % 2) 7)) D (dk a1 (hd % 2) cc1)) := (fr_list upd_same).put (by simp)
      refine ⟨_, rfl, D, 5, _, _, _, rfl, upd_same, by decide, by decide, q2, by omega, fun i1 a2 cc2 H2 q4 q5 f2 hD2 => ?_⟩
      refine ⟨_, rfl, D, 4, _, _, _, rfl, hD2, by decide, by decide, q4, by omega, fun i2 a3 cc3 H3 q6 q7 f3 hD3 => ?_⟩
      have s3 : Same H0 H3 := sD ((f1.trans f2.keep).trans f3.keep)
      refine ⟨h2, fun t ht => ?_⟩
      have s4 : Same H0 (upd H3 t (.tup [.int i1, .int i2])) := s3.trans (same_upd ht)
      have hD4 : upd H3 t (.tup [.int i1, .int i2]) D = some (dk a3 (hd % 2) cc3) := same_upd ht _ _ hD3
      refine ⟨fun σ' H' => ∃ (t : Addr) (j1 j2 a' c' : Int), σ' = sg sa hd vt hdd Z (some (.int cell)) (some (.ref D)) (some (.int (whoI b))) (some (.ref t)) r13 r14 r15 ∧ Same H0 H' ∧ H' D = some (dk a' (hd % 2) c') ∧ 0 ≤ c' ∧ c' ≤ 100 ∧
        H' t = some (.tup [.int j1, .int j2]), ?_, ?_⟩
      · have kl4 := (of_cut (I.same s4).kl).1
        refine ⟨_, rfl, _, rfl, Z.kl, _, whoI b, _, rfl, rfl, SqL.of kl4, at_b Z.k b, ?_⟩
        intro em hem
        have s5 := s4.trans (same_upd (o := .dT []) hem)
        refine ⟨Z.k b, em, _, rfl, rfl, (I.same s5).c.k b, upd_same, _, rfl, ?_⟩
        have hD5 := same_upd (o := .dT []) hem _ _ hD4
        have ht5 : upd (upd H3 t (.tup [.int i1, .int i2])) em (.dT []) t = some (.tup [.int i1, .int i2]) := same_upd hem _ _ upd_same
        cases hne : (!((ds b).map ent).isEmpty) with
        | false =>
          refine iteF ?_
          refine iteF ?_
          exact ⟨t, i1, i2, _, _, rfl, s5, hD5, by omega, by omega, ht5⟩
        | true =>
          refine iteT ?_
          have hpos : 1 ≤ (ds b).length := by
            cases hq : ds b with
            | nil => rw [hq] at hne; exact absurd hne (by decide)
            | cons d r => simp
          refine ⟨_, rfl, D, 3, _, _, _, rfl, hD5, by decide, by decide, by omega, by omega, fun r a5 cc5 _ _ q8 q9 => ?_⟩
          have f6 := (fr_list hD5).put (t := D) (o := dk a5 (hd % 2) cc5) (by simp)
          have s6 : Same H0 _ := sD (((f1.trans f2.keep).trans f3.keep).trans (fun b o e n => f6.keep b o ((same_upd ht).trans (same_upd hem) b o e) n))
          have ht6 := f6.tup ht5
          refine ⟨rfl, _, rfl, ?_⟩
          refine ite2 (fun _ => ?_) (fun _ => ?_)
          · have kl6 := (of_cut (I.same s6).kl).1
            refine ⟨_, rfl, _, rfl, Z.kl, _, whoI b, _, rfl, rfl, SqL.of kl6, at_b Z.k b, ?_⟩
            refine ⟨Z.k b, _, rfl, (I.same s6).c.k b, (fun p hp => ?_), fun ys sp hyl hys hsp => ?_⟩
            · obtain ⟨d, _, rfl⟩ := List.mem_map.mp hp
              exact ⟨d.run, d.tick, rfl⟩
            have s7 := s6.trans (same_upd (o := .lst ys) hsp)
            have kl7 := (of_cut (I.same s7).kl).1
            have hD7 := same_upd (o := .lst ys) hsp _ _ (upd_same (H := upd (upd H3 t (.tup [.int i1, .int i2])) em (.dT [])) (a := D) (o := dk a5 (hd % 2) cc5))
            have hyl' : ys.length = (ds b).length := by rw [hyl, List.length_map]
            have hlb := I.len b
            refine ⟨_, rfl, _, rfl, _, rfl, Z.kl, _, whoI b, _, rfl, rfl, SqL.of kl7, at_b Z.k b, Z.k b, _, rfl, (I.same s7).c.k b, D, _, _, _, _, rfl, hD7, by rw [List.length_map]; omega, by rw [List.length_map]; omega, by omega, by omega, fun r7 a7 cc7 q10 q11 q12 q13 => ?_⟩
            rw [List.length_map] at q11
            have f8 := (fr_list hD7).put (t := D) (o := dk a7 (hd % 2) cc7) (by simp)
            have s8 : Same H0 _ := sD ((((f1.trans f2.keep).trans f3.keep).trans (fun b o e n => f6.keep b o ((same_upd ht).trans (same_upd hem) b o e) n)).trans (fun b o e n => f8.keep b o (same_upd hsp b o e) n))
            obtain ⟨v, hv, hva⟩ := atI_any (xs := ys) q10 (by omega)
            have nDsp : sp ≠ D := fun q => by rw [q, upd_same] at hsp; cases hsp
            obtain ⟨bb, q, hq, rfl, hbt⟩ := hys v hv
            obtain ⟨d, _, rfl⟩ := List.mem_map.mp hq
            refine ⟨sp, ys, r7, _, rfl, rfl, SqL.of (by rw [upd_ne nDsp, upd_same]), hva, ?_⟩
            exact ⟨bb, d.run, d.tick, _, _, rfl, s8, upd_same, by omega, by omega, f8.tup (same_upd hsp _ _ hbt)⟩
          · exact ⟨t, i1, i2, _, _, rfl, s6, upd_same, by omega, by omega, ht6⟩
      clear s4 hD4 ht s3 hD3 f3 hD2 f2 f1 sD q0 q1 q2 q3 q4 q5 q6 q7
      rintro σ' H4 ⟨t4, j1, j2, a4, cc4, rfl, s4, hD4, p0, p1, ht4⟩
      refine ⟨h5, fun wk hwk => ?_⟩
      have sw := same_upd (o := .lst (([("sum" : Str), "vast", "cnt", "tally", "odd"] : List Str).map V.str)) hwk
      refine ⟨_, rfl, D, 5, _, _, _, rfl, sw _ _ hD4, by decide, by decide, p0, by omega, fun r5 a5 cc5 v0 v1 v2 v3 => ?_⟩
      have nDw : wk ≠ D := fun q => by rw [q, hD4] at hwk; cases hwk
      obtain ⟨ws, hws, hwa⟩ := atI_strs (ss := ["sum", "vast", "cnt", "tally", "odd"]) v0 v1
      refine ⟨wk, _, r5, _, rfl, rfl, SqL.of (by rw [upd_ne nDw]; exact upd_same), hwa, ?_⟩
      have okw : PyData.strOk ws = true := by
        have all : ∀ x ∈ (["sum", "vast", "cnt", "tally", "odd"] : List Str), PyData.strOk x = true := by decide +kernel
        exact all ws hws
      have f5 := (fr_list (sw _ _ hD4)).put (t := D) (o := dk a5 (hd % 2) cc5) (by simp)
      have sE : ∀ {H' : Hp}, (∀ b o, H4 b = some o → b ∉ [D] → H' b = some o) → Same H0 H' := fun f b o e => f b o (s4 b o e) (by
        rw [List.mem_singleton]
        exact ne_of_none e hD0)
      have s5 : Same H0 (upd (upd H4 wk (.lst (([("sum" : Str), "vast", "cnt", "tally", "odd"] : List Str).map V.str))) D (dk a5 (hd % 2) cc5)) := sE fun b o e n => f5.keep b o (sw b o e) n
      have ht5 : upd (upd H4 wk (.lst (([("sum" : Str), "vast", "cnt", "tally", "odd"] : List Str).map V.str))) D (dk a5 (hd % 2) cc5) t4 = some (.tup [.int j1, .int j2]) := f5.tup (sw _ _ ht4)
      have hD5 : upd (upd H4 wk (.lst (([("sum" : Str), "vast", "cnt", "tally", "odd"] : List Str).map V.str))) D (dk a5 (hd % 2) cc5) D = some (dk a5 (hd % 2) cc5) := upd_same
      refine ⟨fun σ' H' => ∃ o : Option Int, σ' = sg sa hd vt hdd Z (some (.int cell)) (some (.ref D)) (some (.int (whoI b))) (some (.ref t4)) (some (.str ws)) (some (oV o)) r15 ∧ Same H0 H' ∧ H' t4 = some (.tup [.int j1, .int j2]), ?_, ?_⟩
      · refine ⟨_, rfl, _, _, rfl, rfl, c9, _, _, rfl, rfl, c9, _, rfl, _, _, rfl, rfl, c9, _, _, rfl, rfl, _, rfl, D, 100, _, _, _, rfl, hD5, by decide, by decide, v2, by omega, fun r6 a6 cc6 _ _ v6 v7 => ?_⟩
        have f6 := (fr_list hD5).put (t := D) (o := dk a6 (hd % 2) cc6) (by simp)
        refine ⟨h8, fun ol hol => ?_⟩
        have so := same_upd (o := .lst (([none, some 0, some 1, some (-7), some ((10 : Int) ^ (9 : Int).toNat), some (-((10 : Int) ^ (9 : Int).toNat)), some ((10 : Int) ^ (9 : Int).toNat - 3), some r6] : List (Option Int)).map oV)) hol
        refine ⟨_, rfl, D, 8, _, _, _, rfl, so _ _ upd_same, by decide, by decide, v6, by omega, fun r7 a7 cc7 u0 u1 u2 u3 => ?_⟩
        have nDo : ol ≠ D := fun q => by rw [q, upd_same] at hol; cases hol
        obtain ⟨o, ho⟩ := atI_opts (os := [none, some 0, some 1, some (-7), some ((10 : Int) ^ (9 : Int).toNat), some (-((10 : Int) ^ (9 : Int).toNat)), some ((10 : Int) ^ (9 : Int).toNat - 3), some r6]) u0 u1
        refine ⟨ol, _, r7, _, rfl, rfl, SqL.of (by rw [upd_ne nDo]; exact upd_same), ho, ?_⟩
        have f7 := (fr_list (so _ _ (upd_same (H := upd (upd H4 wk (.lst (([("sum" : Str), "vast", "cnt", "tally", "odd"] : List Str).map V.str))) D (dk a5 (hd % 2) cc5)) (a := D) (o := dk a6 (hd % 2) cc6)))).put (t := D) (o := dk a7 (hd % 2) cc7) (by simp)
        exact ⟨o, rfl, sE fun b o e n => f7.keep b o (so b o (f6.keep b o (f5.keep b o (sw b o e) n) n)) n, f7.tup (so _ _ (f6.tup ht5))⟩
      clear s5 ht5 hD5 sE f5 hwa hws nDw v0 v1 v2 v3 sw hwk ht4 p0 p1 hD4 s4
      rintro σ' Hc ⟨wo, rfl, sc, htc⟩
      have Ic := I.same sc
      clear I sc
      obtain ⟨dn, ans, hst⟩ : ∃ dn ans, step (trL n1 vt) (ds b) j1 j2 ws wo = (dn, ans) := ⟨_, _, rfl⟩
      have sub : ∀ x ∈ [Z.k b, Z.e b], x ∈ Z.M := fun x hx => by
        rcases List.mem_cons.mp hx with e | hx
        · rw [e]; exact Z.mk' b
        · rw [List.mem_singleton.mp hx]; exact Z.me b
      have dlAt : ∀ {H' : Hp}, Fr [Z.k b, Z.e b] Hc H' → H' Z.dl = some (.lst [.ref (Z.e false), .ref (Z.e true)]) := fun f => (of_cut (cut_fr f sub _ _ Ic.dl)).1
      have klAt : ∀ {H' : Hp}, Fr [Z.k b, Z.e b] Hc H' → H' Z.kl = some (.lst [.ref (Z.k false), .ref (Z.k true)]) := fun f => (of_cut (cut_fr f sub _ _ Ic.kl)).1
      have wlAt : ∀ {H' : Hp}, Fr [Z.k b, Z.e b] Hc H' → H' Z.wl = some (.lst [.ref (Z.p false), .ref (Z.p true)]) := fun f => (of_cut (cut_fr f sub _ _ Ic.wl)).1
      have hkc := Ic.c.k b
      obtain ⟨xe, hec, hDe⟩ := Ic.c.e b
      have lxe : xe.length = (ds b).length := Paired.length hDe
      have hlb := Ic.len b
      have fc : Fr [Z.k b, Z.e b] Hc Hc := ⟨fun b o e _ => e, fun x o m e => by
        rcases List.mem_cons.mp m with q | q
        · rw [q, hkc] at e
          cases e
          trivial
        · rw [List.mem_singleton.mp q, hec] at e
          cases e
          trivial⟩
      refine ⟨fun σ' H' => σ' = sg sa hd vt hdd Z (some (.int cell)) (some (.ref D)) (some (.int (whoI b))) (some (.ref t4)) (some (.str ws)) (some (oV wo)) r15 ∧ Fr [Z.k b, Z.e b] Hc H' ∧ H' (Z.k b) = some (.dT (dn.map ent)) ∧
        ∃ xs, H' (Z.e b) = some (.lst xs) ∧ Deeds H' xs dn, ?_, ?_⟩
      · refine ⟨_, rfl, _, rfl, _, rfl, Z.kl, _, whoI b, _, rfl, rfl, SqL.of (klAt fc), at_b Z.k b, Z.k b, _, rfl, DGet.t (k := kK j1 j2) hkc htc, _, rfl, ?_⟩
        rw [valV_ent]
        cases e : seek (ds b) j1 j2 with
        | some d =>
          refine iteF ?_
          have e2 : dn = ds b := by
            unfold step at hst
            rw [e] at hst
            cases hst
            rfl
          rw [e2]
          exact ⟨rfl, fc, hkc, xe, hec, hDe⟩
        | none =>
          refine iteT ?_
          have e2 : dn = ds b ++ [newDeed (trL n1 vt) (ds b) j1 j2 ws wo] := by
            unfold step at hst
            rw [e] at hst
            cases hst
            rfl
          refine ⟨_, rfl, _, rfl, _, rfl, Z.dl, _, whoI b, _, rfl, rfl, SqL.of (dlAt fc), at_b Z.e b, _, rfl, _, rfl, Z.td, Z.e b, trL n1 vt, ds b, xe, ws, wo, rfl, Ic.t, hec, hDe, by omega, fun H2 s2 => ?_⟩
          have f2 := fc.on s2
          refine ⟨_, rfl, _, rfl, Z.kl, _, whoI b, _, rfl, rfl, SqL.of (klAt f2), at_b Z.k b, _, rfl, Z.k b, _, rfl, DPut.t (k := kK j1 j2) (s2 _ _ hkc) (s2 _ _ htc) (small1000 (by rw [List.length_map]; omega)), ?_⟩
          have f3 := f2.put (t := Z.k b) (o := .dT (putK ((ds b).map ent) (kK j1 j2) (oV (made (trL n1 vt) (ds b) ws wo)))) (by simp)
          have he3 : upd H2 (Z.k b) (.dT (putK ((ds b).map ent) (kK j1 j2) (oV (made (trL n1 vt) (ds b) ws wo)))) (Z.e b) = some (.lst xe) := by rw [upd_ne (Sp.ek b b)]; exact s2 _ _ hec
          have hv : valV (putK ((ds b).map ent) (kK j1 j2) (oV (made (trL n1 vt) (ds b) ws wo))) (kK j1 j2) = some (oV (made (trL n1 vt) (ds b) ws wo)) := by rw [valV_put, if_pos rfl]
          refine ⟨_, rfl, _, rfl, Z.dl, _, whoI b, _, rfl, rfl, SqL.of (dlAt f3), at_b Z.e b, .inl ⟨rfl, _, SqL.of he3⟩, _, rfl, _, rfl, _, rfl, _, rfl, _, rfl, Z.kl, _, whoI b, _, rfl, rfl, SqL.of (klAt f3), at_b Z.k b, _, rfl,
            Z.k b, _, rfl, .inr ⟨_, kK j1 j2, t4, .inl upd_same, rfl, f3.tup htc, hv.symm⟩, h3, fun q5 hq5 => ?_⟩
          have f4 := f3.new (o := .tup [.str ws, oV wo, oV (made (trL n1 vt) (ds b) ws wo)]) hq5
          refine ⟨t4, q5, _, _, rfl, rfl, SqT.of (f4.tup htc), SqT.of upd_same, by simp, h5, (fun q => by cases q), fun _ q6 hq6 => ?_⟩
          have f5 := f4.new (o := .tup (tupOf (newDeed (trL n1 vt) (ds b) j1 j2 ws wo))) hq6
          have he4 := same_upd (o := .tup [.str ws, oV wo, oV (made (trL n1 vt) (ds b) ws wo)]) hq5 _ _ he3
          have he5 := same_upd (o := .tup (tupOf (newDeed (trL n1 vt) (ds b) j1 j2 ws wo))) hq6 _ _ he4
          refine ⟨Z.e b, xe, _, rfl, rfl, he5, small1000 (by omega), ?_⟩
          have f6 := f5.put (t := Z.e b) (o := .lst (xe ++ [.ref q6])) (by simp)
          have ne6 : q6 ≠ Z.e b := fun q => by rw [q, he4] at hq6; cases hq6
          refine ⟨rfl, f6, ?_, xe ++ [.ref q6], upd_same, ?_⟩
          · rw [upd_ne (Sp.ek b b).symm]
            refine (same_upd hq6 _ _ (same_upd hq5 _ _ upd_same)).trans ?_
            rw [e2]
            exact congrArg (fun z => some (HO.dT z)) (put_ent (d := newDeed (trL n1 vt) (ds b) j1 j2 ws wo) e)
          · rw [e2]
            refine Paired.snoc (hDe.fr f6) ⟨q6, rfl, ?_⟩
            rw [upd_ne ne6, upd_same]
            rfl
      rintro σ' Hg ⟨rfl, fg, hkg, xg, heg, hDg⟩
      have htg := fg.tup htc
      have Wg : WorkerAt C Hg (Z.p b) (Z.l b) (Z.a b) (trL n1 vt) (ds b) := (Ic.c.w b).fr fg (by simp [Sp.lk, Sp.le]) (by simp [Sp.ak, Sp.ae])
      obtain ⟨dxg, ttg, hpg, _⟩ := Wg.ob
      refine ⟨_, rfl, _, rfl, Z.wl, _, whoI b, _, rfl, rfl, SqL.of (wlAt fg), at_b Z.p b, Z.p b, dxg, _, rfl, hpg, fl_do _ _ _, _, rfl, t4, _, 0, _, rfl, rfl, SqT.of htg, rfl, _, rfl, t4, _, 1, _, rfl, rfl, SqT.of htg, rfl, _, rfl, _, rfl, ?_⟩
      refine ⟨Z.p b, Z.l b, Z.a b, trL n1 vt, ds b, j1, j2, ws, wo, rfl, Wg, by omega, fun ds2 ans2 Hh st fh Wh => ?_⟩
      rw [hst] at st
      cases st
      have gd : Good dn := step_good hst (Ic.g b) okw
      have ld : dn.length ≤ i + 1 := by
        have := step_len hst
        omega
      have I2 := Ic.turn Sp fg hkg heg hDg fh Wh gd ld
      have hth := fh.tup htg
      have hkb : Hh (Z.k b) = some (.dT (dn.map ent)) := by
        have q := I2.c.k b
        rw [turnD_same] at q
        exact q
      have Wb : WorkerAt C Hh (Z.p b) (Z.l b) (Z.a b) (trL n1 vt) dn := Wh
      obtain ⟨xb, heb, hDb⟩ : ∃ xs, Hh (Z.e b) = some (.lst xs) ∧ Deeds Hh xs dn := by
        have q := I2.c.e b
        rw [turnD_same] at q
        exact q
      have wl2 := (of_cut I2.wl).1
      have dl2 := (of_cut I2.dl).1
      have kl2 := (of_cut I2.kl).1
      have ty : ∃ T : String, TyX K Hh (oV ans) (.type T) ∧ PySem.W.kitOne K (.type T) (.type "bool") = some false := by
        cases ans with
        | none => exact ⟨"NoneType", .base .non, kit_ty (r := false) (by decide +kernel)⟩
        | some n => exact ⟨"int", .base (.int n), kit_ty (r := false) (by decide +kernel)⟩
      obtain ⟨tyn, ty1, ty2⟩ := ty
      refine ⟨_, rfl, _, rfl, _, rfl, Z.kl, _, whoI b, _, rfl, rfl, SqL.of kl2, at_b Z.k b, _, rfl, Z.k b, oV ans, rfl, .inr ⟨_, kK j1 j2, t4, .inl hkb, rfl, hth, (step_val hst).symm⟩, oV_scal _ _, _, rfl, ?_⟩
      refine iteNS rfl ?_
      refine ⟨_, rfl, _, _, _, _, _, rfl, .ty _, ty1, ty2, _, rfl, ?_⟩
      refine iteF ?_
      refine ⟨_, rfl, _, rfl, Z.wl, _, whoI b, _, rfl, rfl, SqL.of wl2, at_b Z.p b, _, rfl, _, rfl, Z.dl, _, whoI b, _, rfl, rfl, SqL.of dl2, at_b Z.e b, Z.p b, Z.l b, Z.a b, Z.e b, trL n1 vt, dn, xb, rfl, Wb, heb, hDb, gd, by omega, fun Hi si => ?_⟩
      refine ⟨_, rfl, ?_⟩
      refine iteF ?_
      have I3 := I2.same si
      have Wi := Wb.same si
      obtain ⟨hs, hh, hhl, _⟩ := I3.hl
      obtain ⟨⟨dxi, tti, hpi, _⟩, ⟨xl, hli, hDl⟩, _⟩ := id Wi
      have hei := si _ _ heb
      refine ⟨_, rfl, .inl ⟨rfl, _, SqL.of hh⟩, ?_⟩
      refine ⟨_, rfl, _, rfl, Z.wl, _, whoI b, _, rfl, rfl, SqL.of (si _ _ wl2), at_b Z.p b, Z.p b, dxi, _, rfl, hpi, fl_deeds _ _ _, Z.p b, Z.l b, Z.a b, trL n1 vt, dn, xl, rfl, Wi, hli, fun u1 hu1 => ?_⟩
      have su1 := same_upd (o := .lst xl) hu1
      refine ⟨_, rfl, _, rfl, Z.dl, _, whoI b, _, rfl, rfl, SqL.of (su1 _ _ (si _ _ dl2)), at_b Z.e b, Z.e b, xb, rfl, .inl (SqL.of (su1 _ _ hei)), fun u2 hu2 => ?_⟩
      have su2 := same_upd (o := .lst xb) hu2
      refine ⟨h2, fun u3 hu3 => ?_⟩
      have su3 := same_upd (o := .lst [.ref u1, .ref u2]) hu3
      have sall := (su1.trans su2).trans su3
      have I4 := I3.same sall
      have hh4 := sall _ _ hh
      refine ⟨Z.hl, hs, _, rfl, rfl, hh4, small1000 (by omega), ?_⟩
      have I5 := I4.hold Sp (r1 := u1) (r2 := u2) (r3 := u3) (xu := xl) (xv := xb) (d := dn) (I3.free hu1) ((I3.same su1).free hu2) ((I3.same (su1.trans su2)).free hu3)
        ((su2.trans su3) _ _ upd_same) (su3 _ _ upd_same) upd_same (hDl.fr (same_fr sall)) (hDb.fr (same_fr (si.trans sall))) gd hh4
      exact ⟨_, _, _, _, _, _, _, _, rfl, I5⟩
    · rintro σ H0 ⟨r9, r10, r11, r12, r13, r14, r15, ds, rfl, I⟩
      obtain ⟨hs, hh, hhl, hheld⟩ := I.hl
      refine ⟨_, rfl, Z.hl, rfl, ⟨_, SqL.of hh⟩, fun D hD0 => ?_⟩
      refine lc_list (K := K) (a := Z.hl) (xs := hs) (fun i H' => H' = upd H0 D (.lst [])) rfl (fun i H' _ e => by
        subst e
        exact SqL.of (same_upd hD0 _ _ hh)) ?_ ?_
      · rintro i x H' hi rfl
        have hx : x ∈ hs := List.mem_of_getElem? hi
        obtain ⟨bb, u, v, d, xu, xv, rfl, q1, q2, q3, q4, q5, q6⟩ := (hheld x hx).same (cut_same.trans (same_upd (o := .lst []) hD0))
        refine ⟨rfl, ?_⟩
        refine ⟨_, rfl, bb, _, 0, _, rfl, rfl, SqL.of q1, rfl, _, rfl, bb, _, 1, _, rfl, rfl, SqL.of q1, rfl, _, _, dp_list q2 q4, dp_list q3 q5, shaped_deeds q6, shaped_deeds q6, _, rfl, ?_⟩
        rw [eqv_deeds q6]
        exact iteF rfl
      rintro H1' rfl
      refine ⟨Nat.zero_le _, fun D2 hD2 => ?_⟩
      have sD := (same_upd (o := .lst []) hD0).trans (same_upd (o := .lst []) hD2)
      refine ⟨.list [], .list [], .lst (SqL.of (same_upd hD2 _ _ upd_same)) .nil, .lst (SqL.of upd_same) .nil, by decide, by decide, _, rfl, ?_⟩
      refine iteF ?_
      have I2 := I.same sD
      have wl2 := (of_cut I2.wl).1
      have dl2 := (of_cut I2.dl).1
      have lcs2 : ((0 :: 5 :: cs).map V.int).length ≤ 1000 := by
        rw [List.length_map]
        simp only [List.length_cons]
        omega
      obtain ⟨xa, hea, hDa⟩ := I2.c.e false
      refine ⟨_, rfl, Z.wl, _, 0, _, rfl, rfl, SqL.of wl2, rfl, _, rfl, Z.dl, _, 0, _, rfl, rfl, SqL.of dl2, rfl, Z.p false, Z.l false, Z.a false, Z.e false, trL n1 vt, ds false, xa, rfl, I2.c.w false, hea, hDa, I2.g false, Nat.le_trans (I2.len false) lcs2, fun H2 s2 => ?_⟩
      refine ⟨_, rfl, ?_⟩
      refine iteF ?_
      have I3 := I2.same s2
      have wl3 := (of_cut I3.wl).1
      have dl3 := (of_cut I3.dl).1
      obtain ⟨xb, heb, hDb⟩ := I3.c.e true
      refine ⟨_, rfl, Z.wl, _, 1, _, rfl, rfl, SqL.of wl3, rfl, _, rfl, Z.dl, _, 1, _, rfl, rfl, SqL.of dl3, rfl, Z.p true, Z.l true, Z.a true, Z.e true, trL n1 vt, ds true, xb, rfl, I3.c.w true, heb, hDb, I3.g true, Nat.le_trans (I3.len true) lcs2, fun H3 s3 => ?_⟩
      refine ⟨_, rfl, ?_⟩
      refine iteF ?_
      exact ⟨rfl, fun H' => kQ H'⟩
end
end OW
namespace OW
open PySem L2
theorem all_mk {l : PySem.W.OpenLaw} {w : World} {K : PySem.W.Frag} {h : Heap} {mg : Str → Option Value} {fa C f1 f2 f3 f4 f5 f6 f7 f8 f9 f10 f11 f12 : Addr} (X : K.In h) (G : h.Ns mainGlobals mg) (hfa : mg "law" = some (.ref fa))
    {od1 an1 od2 an2 od3 an3 od4 an4 od5 an5 od6 an6 od7 an7 od8 an8 od9 an9 od10 an10 od11 an11 od12 an12 : Option Addr} {sl1 sl2 sl3 sl4 sl5 sl6 sl7 sl8 sl9 sl10 sl11 sl12 : Array (Option Value)} {oc1 kV1 dc1 pm1 cd1 ct1 oc2 kV2 dc2 pm2 cd2 ct2 oc3 kV3 dc3 pm3 cd3 ct3 oc4 kV4 dc4 pm4 cd4 ct4 oc5 kV5 dc5 pm5 cd5 ct5 oc6 kV6 dc6 pm6 cd6 ct6 oc7 kV7 dc7 pm7 cd7 ct7 oc8 kV8 dc8 pm8 cd8 ct8 oc9 kV9 dc9 pm9 cd9 ct9 oc10 kV10 dc10 pm10 cd10 ct10 oc11 kV11 dc11 pm11 cd11 ct11 oc12 kV12 dc12 pm12 cd12 ct12 : Value} {tm : Tok}
    (aC : PySem.W.nsIn K mainGlobals "Worker" = some (some (.ref C)))
    (a1 : PySem.W.findIn K (.ref C) "__init__" = some (some (.ref f1))) (i1 : PySem.W.isFn K (.ref f1) = true)
    (l1 : K.lookup f1 = some ⟨oc1, od1, .func (PySem.W.fnOf "__init__" "Worker.__init__" (defArgs sInit) (defBody sInit) (defScope sInit) .none kV1 dc1 pm1 an1 cd1 ct1), sl1⟩) (c1 : PySem.W.codeIn K cd1 "Worker.__init__" = true) (k1 : PySem.W.keepIn K (.ref f1) = true)
    (a2 : PySem.W.findIn K (.ref C) "do" = some (some (.ref f2))) (i2 : PySem.W.isFn K (.ref f2) = true)
    (l2 : K.lookup f2 = some ⟨oc2, od2, .func (PySem.W.fnOf "do" "Worker.do" (defArgs sDo) (defBody sDo) (defScope sDo) .none kV2 dc2 pm2 an2 cd2 ct2), sl2⟩) (c2 : PySem.W.codeIn K cd2 "Worker.do" = true) (k2 : PySem.W.keepIn K (.ref f2) = true)
    (a3 : PySem.W.findIn K (.ref C) "made_of" = some (some (.ref f3))) (i3 : PySem.W.isFn K (.ref f3) = true)
    (l3 : K.lookup f3 = some ⟨oc3, od3, .func (PySem.W.fnOf "made_of" "Worker.made_of" (defArgs sMadeOf) (defBody sMadeOf) (defScope sMadeOf) .none kV3 dc3 pm3 an3 cd3 ct3), sl3⟩) (c3 : PySem.W.codeIn K cd3 "Worker.made_of" = true) (k3 : PySem.W.keepIn K (.ref f3) = true)
    (a4 : PySem.W.findIn K (.ref C) "deeds" = some (some (.ref f4))) (i4 : PySem.W.isFn K (.ref f4) = true)
    (l4 : K.lookup f4 = some ⟨oc4, od4, .func (PySem.W.fnOf "deeds" "Worker.deeds" (defArgs sDeeds) (defBody sDeeds) (defScope sDeeds) .none kV4 dc4 pm4 an4 cd4 ct4), sl4⟩) (c4 : PySem.W.codeIn K cd4 "Worker.deeds" = true) (k4 : PySem.W.keepIn K (.ref f4) = true)
    (a5 : PySem.W.nsIn K mainGlobals "kept" = some (some (.ref f5)))
    (l5 : K.lookup f5 = some ⟨oc5, od5, .func (PySem.W.fnOf "kept" "kept" (defArgs sKept) (defBody sKept) (defScope sKept) .none kV5 dc5 pm5 an5 cd5 ct5), sl5⟩) (c5 : PySem.W.codeIn K cd5 "kept" = true) (k5 : PySem.W.keepIn K (.ref f5) = true)
    (a6 : PySem.W.nsIn K mainGlobals "_law_cell_at" = some (some (.ref f6)))
    (l6 : K.lookup f6 = some ⟨oc6, od6, .func (PySem.W.fnOf "_law_cell_at" "_law_cell_at" (defArgs sCell) (defBody sCell) (defScope sCell) .none kV6 dc6 pm6 an6 cd6 ct6), sl6⟩) (c6 : PySem.W.codeIn K cd6 "_law_cell_at" = true) (k6 : PySem.W.keepIn K (.ref f6) = true)
    (a7 : PySem.W.nsIn K mainGlobals "_law_take" = some (some (.ref f7)))
    (l7 : K.lookup f7 = some ⟨oc7, od7, .func (PySem.W.fnOf "_law_take" "_law_take" (defArgs sTake) (defBody sTake) (defScope sTake) .none kV7 dc7 pm7 an7 cd7 ct7), sl7⟩) (c7 : PySem.W.codeIn K cd7 "_law_take" = true) (k7 : PySem.W.keepIn K (.ref f7) = true)
    (a8 : PySem.W.nsIn K mainGlobals "_law_made" = some (some (.ref f8)))
    (l8 : K.lookup f8 = some ⟨oc8, od8, .func (PySem.W.fnOf "_law_made" "_law_made" (defArgs sLMade) (defBody sLMade) (defScope sLMade) .none kV8 dc8 pm8 an8 cd8 ct8), sl8⟩) (c8 : PySem.W.codeIn K cd8 "_law_made" = true) (k8 : PySem.W.keepIn K (.ref f8) = true)
    (a9 : PySem.W.nsIn K mainGlobals "_law_told_right" = some (some (.ref f9)))
    (l9 : K.lookup f9 = some ⟨oc9, od9, .func (PySem.W.fnOf "_law_told_right" "_law_told_right" (defArgs sTold) (defBody sTold) (defScope sTold) .none kV9 dc9 pm9 an9 cd9 ct9), sl9⟩) (c9 : PySem.W.codeIn K cd9 "_law_told_right" = true) (k9 : PySem.W.keepIn K (.ref f9) = true)
    (a10 : PySem.W.nsIn K mainGlobals "_law_number" = some (some (.ref f10)))
    (l10 : K.lookup f10 = some ⟨oc10, od10, .func (PySem.W.fnOf "_law_number" "_law_number" (defArgs sNumber) (defBody sNumber) (defScope sNumber) .none kV10 dc10 pm10 an10 cd10 ct10), sl10⟩) (c10 : PySem.W.codeIn K cd10 "_law_number" = true) (k10 : PySem.W.keepIn K (.ref f10) = true)
    (a11 : PySem.W.nsIn K mainGlobals "_law_unlike_orders" = some (some (.ref f11)))
    (l11 : K.lookup f11 = some ⟨oc11, od11, .func (PySem.W.fnOf "_law_unlike_orders" "_law_unlike_orders" (defArgs sUnlike) (defBody sUnlike) (defScope sUnlike) .none kV11 dc11 pm11 an11 cd11 ct11), sl11⟩) (c11 : PySem.W.codeIn K cd11 "_law_unlike_orders" = true) (k11 : PySem.W.keepIn K (.ref f11) = true)
    (a12 : PySem.W.nsIn K mainGlobals "law" = some (some (.ref f12)))
    (l12 : K.lookup f12 = some ⟨oc12, od12, .func (PySem.W.fnOf "law" "law" (defArgs sLaw) (defBody sLaw) (defScope sLaw) .none kV12 dc12 pm12 an12 cd12 ct12), sl12⟩) (c12 : PySem.W.codeIn K cd12 "law" = true) (k12 : PySem.W.keepIn K (.ref f12) = true)
    (pg : PySem.W.plainGet K C Str.empty = true) (hd : PySem.W.hasDictIn K C = true) (po : PySem.W.plainOver K C = true) (sa : PySem.W.findIn K (.ref C) "__setattr__" = some (some (.builtin "object.__setattr__"))) (mk : PySem.W.makesIn K C = true) (kc : PySem.W.keepIn K (.ref C) = true)
    (nT : PySem.W.findIn K (.ref C) "trade" = some none) (nD : PySem.W.findIn K (.ref C) "done" = some none) (nA : PySem.W.findIn K (.ref C) "answers" = some none) (mo : PySem.W.nsIn K mainGlobals "MOST" = some (some (.int 1000000000 tm)))
    (z0 : PySem.W.nsIn K mainGlobals "max" = some none) (z1 : PySem.W.nsIn K mainGlobals "min" = some none) (z2 : PySem.W.nsIn K mainGlobals "len" = some none) (z3 : PySem.W.nsIn K mainGlobals "dict" = some none) (z4 : PySem.W.nsIn K mainGlobals "list" = some none) (z5 : PySem.W.nsIn K mainGlobals "sorted" = some none) (z6 : PySem.W.nsIn K mainGlobals "isinstance" = some none) (z7 : PySem.W.nsIn K mainGlobals "range" = some none) (z8 : PySem.W.nsIn K mainGlobals "bool" = some none) :
    ∃ fd : FuncData, (∀ (s : Shared) (v : Value), BindsTo s fd ⟨[v], []⟩ [("script", v)]) ∧ ∀ base : Heap, K.In base → base.Ns mainGlobals mg → FnOk l.prog w K mg base CX0 5 fa fd ["script"] (spLaw K) := by
  have e := hfa.symm.trans (PySem.W.mg_of X G a12)
  cases e
  have T : Txt K mg C := ⟨⟨pg, hd, po, sa⟩, nT, nD, nA, PySem.W.mg_of X G aC, ⟨_, PySem.W.mg_of X G mo⟩, PySem.W.mg_none_of X G z0, PySem.W.mg_none_of X G z1, PySem.W.mg_none_of X G z2, PySem.W.mg_none_of X G z3, PySem.W.mg_none_of X G z4, PySem.W.mg_none_of X G z5, PySem.W.mg_none_of X G z6, PySem.W.mg_none_of X G z7, PySem.W.mg_none_of X G z8⟩
  have F1 := fun_mk (st := sInit) l1 c1 k1
  have F2 := fun_mk (st := sDo) l2 c2 k2
  have F3 := fun_mk (st := sMadeOf) l3 c3 k3
  have F4 := fun_mk (st := sDeeds) l4 c4 k4
  have F5 := fun_mk (st := sKept) l5 c5 k5
  have F6 := fun_mk (st := sCell) l6 c6 k6
  have F7 := fun_mk (st := sTake) l7 c7 k7
  have F8 := fun_mk (st := sLMade) l8 c8 k8
  have F9 := fun_mk (st := sTold) l9 c9 k9
  have F10 := fun_mk (st := sNumber) l10 c10 k10
  have F11 := fun_mk (st := sUnlike) l11 c11 k11
  have F12 := fun_mk (st := sLaw) l12 c12 k12
  have b1 := F1.binds (ps := ["self", "trade"]) fun _ _ _ _ _ _ us hl => match us, hl with | [_, _], _ => rfl
  have b2 := F2.binds (ps := ["self", "run", "ticket", "work", "worth"]) fun _ _ _ _ _ _ us hl => match us, hl with | [_, _, _, _, _], _ => rfl
  have b3 := F3.binds (ps := ["self", "work", "worth"]) fun _ _ _ _ _ _ us hl => match us, hl with | [_, _, _], _ => rfl
  have b4 := F4.binds (ps := ["self"]) fun _ _ _ _ _ _ us hl => match us, hl with | [_], _ => rfl
  have b5 := F5.binds (ps := ["number"]) fun _ _ _ _ _ _ us hl => match us, hl with | [_], _ => rfl
  have b6 := F6.binds (ps := ["script", "k"]) fun _ _ _ _ _ _ us hl => match us, hl with | [_, _], _ => rfl
  have b7 := F7.binds (ps := ["deck", "many"]) fun _ _ _ _ _ _ us hl => match us, hl with | [_, _], _ => rfl
  have b8 := F8.binds (ps := ["trade", "deeds", "work", "worth"]) fun _ _ _ _ _ _ us hl => match us, hl with | [_, _, _, _], _ => rfl
  have b9 := F9.binds (ps := ["worker", "deeds"]) fun _ _ _ _ _ _ us hl => match us, hl with | [_, _], _ => rfl
  have b10 := F10.binds (ps := ["deck", "small"]) fun _ _ _ _ _ _ us hl => match us, hl with | [_, _], _ => rfl
  have b11 := F11.binds (ps := []) fun _ _ _ _ _ _ us hl => match us, hl with | [], _ => rfl
  have B : Tops K mg C f1 f2 f3 f4 f5 _ _ _ _ _ := ⟨T, ⟨mk, a1, i1, kc⟩, F1, b1, F2, b2, ⟨a2, i2, k2⟩, F3, b3, ⟨a3, i3, k3⟩, F4, b4, ⟨a4, i4, k4⟩, F5, b5, PySem.W.mg_of X G a5⟩
  have L : Hlps K mg f6 f7 f8 f9 f10 f11 _ _ _ _ _ _ := ⟨F6, b6, PySem.W.mg_of X G a6, F7, b7, PySem.W.mg_of X G a7, F8, b8, PySem.W.mg_of X G a8, F9, b9, PySem.W.mg_of X G a9, F10, b10, PySem.W.mg_of X G a10, F11, b11, PySem.W.mg_of X G a11⟩
  exact ⟨_, fun s v => .of_eq rfl, fun base _ _ => ok_law F12 B L⟩
theorem walk {l : PySem.W.OpenLaw} {q : Program} {loose : List Str} {XP : (Str → Option Value) → Heap → Prop} {YP : World → Heap → Prop} {d : DefRec} {K : Params → PySem.W.Frag} (hn : l.most = some 63) (hdf : d.params.defaults = [])
    (hY : ∀ (w : World) (h : Heap), YP w h → (K w.params).In h)
    (F : ∀ (w : World) (mg : Str → Option Value) (fa : Addr) (h : Heap), (K w.params).In h → h.Ns mainGlobals mg → mg d.name = some (.ref fa) →
      ∃ fd : FuncData, (∀ (s : Shared) (u : Value), BindsTo s fd ⟨[u], []⟩ [("script", u)]) ∧ ∀ base : Heap, (K w.params).In base → base.Ns mainGlobals mg → FnOk l.prog w (K w.params) mg base CX0 5 fa fd ["script"] (spLaw (K w.params))) :
    PySem.W.WalkO q loose XP YP l.row.toRowW d [] (fun f vs => PySem.call f vs) :=
  L2.walk_of (n := 63) (k := 5) (x := "script") (CX := fun _ => CX0) (sp := fun w => spLaw (K w.params)) hn (by decide) hdf ⟨rfl, by decide, by decide⟩ hY F (fun _ _ a ns hl _ hS => ⟨a, ns, rfl, hS, hl, fun _ => rfl⟩) fun _ _ _ _ _ z => z
end OW
open PySem PySem.W PyProof.Rows in
set_option maxRecDepth 100000 in
set_option maxHeartbeats 0 in
theorem PySem.Challenge.cw_outlast_k71_each_order_once_holds : PySem.Challenge.rw_outlast_k71_each_order_once.Holds := by
  w_on; o_law; k_head; (case hw => w_witness2)
  k_fill
  refine OW.walk (l := PySem.Challenge.rw_outlast_k71_each_order_once) rfl rfl (fun w h Y => PySem.W.kIn_of Y) ?F
  case F =>
    intro w mg fa h KX G hmg
    refine' OW.all_mk KX G hmg ?aC ?a1 ?i1 ?l1 ?c1 ?k1 ?a2 ?i2 ?l2 ?c2 ?k2 ?a3 ?i3 ?l3 ?c3 ?k3 ?a4 ?i4 ?l4 ?c4 ?k4 ?a5 ?l5 ?c5 ?k5 ?a6 ?l6 ?c6 ?k6 ?a7 ?l7 ?c7 ?k7 ?a8 ?l8 ?c8 ?k8 ?a9 ?l9 ?c9 ?k9 ?a10 ?l10 ?c10 ?k10 ?a11 ?l11 ?c11 ?k11 ?a12 ?l12 ?c12 ?k12 ?pg ?hd ?po ?sa ?mk ?kc ?nT ?nD ?nA ?mo ?z0 ?z1 ?z2 ?z3 ?z4 ?z5 ?z6 ?z7 ?z8
    (case aC => k_is)
    (case a1 => k_is)
    (case i1 => k_is)
    (case l1 => k_is)
    (case c1 => k_is)
    (case k1 => k_is)
    (case a2 => k_is)
    (case i2 => k_is)
    (case l2 => k_is)
    (case c2 => k_is)
    (case k2 => k_is)
    (case a3 => k_is)
    (case i3 => k_is)
    (case l3 => k_is)
    (case c3 => k_is)
    (case k3 => k_is)
    (case a4 => k_is)
    (case i4 => k_is)
    (case l4 => k_is)
    (case c4 => k_is)
    (case k4 => k_is)
    (case a5 => k_is)
    (case l5 => k_is)
    (case c5 => k_is)
    (case k5 => k_is)
    (case a6 => k_is)
    (case l6 => k_is)
    (case c6 => k_is)
    (case k6 => k_is)
    (case a7 => k_is)
    (case l7 => k_is)
    (case c7 => k_is)
    (case k7 => k_is)
    (case a8 => k_is)
    (case l8 => k_is)
    (case c8 => k_is)
    (case k8 => k_is)
    (case a9 => k_is)
    (case l9 => k_is)
    (case c9 => k_is)
    (case k9 => k_is)
    (case a10 => k_is)
    (case l10 => k_is)
    (case c10 => k_is)
    (case k10 => k_is)
    (case a11 => k_is)
    (case l11 => k_is)
    (case c11 => k_is)
    (case k11 => k_is)
    (case a12 => k_is)
    (case l12 => k_is)
    (case c12 => k_is)
    (case k12 => k_is)
    (case pg => k_is)
    (case hd => k_is)
    (case po => k_is)
    (case sa => k_is)
    (case mk => k_is)
    (case kc => k_is)
    (case nT => k_is)
    (case nD => k_is)
    (case nA => k_is)
    (case mo => k_is)
    (case z0 => k_is)
    (case z1 => k_is)
    (case z2 => k_is)
    (case z3 => k_is)
    (case z4 => k_is)
    (case z5 => k_is)
    (case z6 => k_is)
    (case z7 => k_is)
    (case z8 => k_is)
