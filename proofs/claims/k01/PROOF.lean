import PyProof.Rows.All
import Wide.All
import OpenK.AllK
import Wide.FinOn
import HandS.ForMost
import HandS.ForExc
import HandS.Evl
import HandS.Flow
import HandS.Walk
import HandS.TupAny
import HandS.Deep
import HandS.IsInst
import HandS.DictTup
import HandS.ListItems
import HandS.NoneIn
import KE.SortData
import KE.KDictPairs
import HandS.TupSets
import HandS.SetKeys
import KE.KDictKeyed
import PyProof.TupleOfSeq
import PyProof.ReprRoads
import PyProof.CallFns
import PyProof.CallStr
import HandS.Zip
import HandS.Codes
import PyProof.IsRules
import PyProof.ReprLen
import HandS.TryOnly
import HandS.ExcOwn
import HandS.Text
import HandS.More
import HandS.Style
import PyProof.StrOps2
import PySem.Challenge.RW_meetsagain_k01_deeds_and_documents
set_option Elab.async false
set_option linter.all false
set_option maxRecDepth 100000
set_option maxHeartbeats 4000000
/-! M0: slots, what they own, the one word that stands over a state -/
namespace MM
open PySem PySem.Spec L2

/-- what a name holds: nothing known, plain data that stays, a list of its own, a dict of its own -/
inductive Slot where
  | un
  | p (d : PyData)
  | l (xs : List Slot)
  | m (ks : List (Key × Slot))
  | t (ks : List ((Int × Int) × PyData))

/-- a dict whose keys are pairs of numbers: it stays as it is -/
def hashP (p : Int × Int) : Int := reduceHash (Builtin.Tuple.tupleHashOf [hashInt p.1, hashInt p.2])
def PrO (a : Addr) (zs : List ((Int × Int) × V × V)) : HO := .ext fun h => ∃ (o : Obj) (es : Array DictEntry) (ep : Nat) (xs : List ((Int × Int) × Addr × Value)), h.get? a = some o ∧ o.ExactDict ∧ o.data = .dict es ep ∧ es.toList = xs.map (fun x => ⟨hashP x.1, .ref x.2.1, x.2.2⟩) ∧
  (xs.map (·.1)).Nodup ∧ (a == sysModules) = false ∧ Paired (fun (p : (Int × Int) × V × V) (q : (Int × Int) × Addr × Value) => p.1 = q.1 ∧ p.2.1 = V.ref q.2.1 ∧ RelV p.2.2 q.2.2) zs xs
abbrev kPr (p : Int × Int) : PyData := .tuple [.int p.1, .int p.2]

/-- all its items are tuples -/
def isTup : PyData → Bool
  | .tuple _ => true
  | _ => false
def rowB (ds : List PyData) : Bool := ds.all isTup
/-- what stands at a tuple's address: a row of tuples is known to the object, all others are tracked as they are -/
def TpK (K : PySem.W.Frag) (H : Hp) (a : Addr) (xs : List V) (ds : List PyData) : Prop :=
  (∃ (o : Obj) (its : Array Value) (n : Nat), K.lookup a = some o ∧ o.cls = .type "tuple" ∧ o.data = .seq its n ∧ its.size ≤ sizeLine ∧ Vals xs its.toList ∧ o.dict = none) ∨
    (rowB ds = true ∧ ∃ o : Obj, H a = some (.frz o (.tup xs)) ∧ o.dict = none) ∨ (rowB ds = false ∧ H a = some (.tup xs))
theorem TpK.sq {K : PySem.W.Frag} {H : Hp} {a : Addr} {xs : List V} {ds : List PyData} (h : TpK K H a xs ds) : SqT K H a xs := by
  rcases h with ⟨o, its, n, h1, h2, h3, h4, h5, _⟩ | ⟨_, o, h, _⟩ | ⟨_, h⟩
  · exact .inr ⟨o, its, n, h1, h2, h3, h4, h5⟩
  · exact .inl (.inr ⟨o, h⟩)
  · exact .inl (.inl h)
mutual
inductive Dq (K : PySem.W.Frag) (H : Hp) : V → PyData → Prop
  | non : Dq K H .non .none
  | bl (b : Bool) : Dq K H (.bl b) (.bool b)
  | int (i : Int) : Dq K H (.int i) (.int i)
  | str (x : Str) : Dq K H (.str x) (.str x)
  | lst {a : Addr} {xs : List V} {ds : List PyData} : SqL K H a xs → DqAll K H xs ds → Dq K H (.ref a) (.list ds)
  | tup {a : Addr} {xs : List V} {ds : List PyData} : TpK K H a xs ds → DqAll K H xs ds → Dq K H (.ref a) (.tuple ds)
inductive DqAll (K : PySem.W.Frag) (H : Hp) : List V → List PyData → Prop
  | nil : DqAll K H [] []
  | cons {v : V} {vs : List V} {d : PyData} {ds : List PyData} : Dq K H v d → DqAll K H vs ds → DqAll K H (v :: vs) (d :: ds)
end
mutual
theorem Dq.dp {K : PySem.W.Frag} {H : Hp} : ∀ {v : V} {d : PyData}, Dq K H v d → Dp K H v d
  | _, _, .non => .non
  | _, _, .bl b => .bl b
  | _, _, .int i => .int i
  | _, _, .str x => .str x
  | _, _, .lst h t => .lst h t.dp
  | _, _, .tup h t => .tup h.sq t.dp
theorem DqAll.dp {K : PySem.W.Frag} {H : Hp} : ∀ {vs : List V} {ds : List PyData}, DqAll K H vs ds → DpAll K H vs ds
  | _, _, .nil => .nil
  | _, _, .cons h t => .cons h.dp t.dp
end

mutual
inductive Ow (K : PySem.W.Frag) (F H : Hp) : Option V → Slot → List Addr → Prop
  | un {o : Option V} : Ow K F H o .un []
  | p {v : V} {d : PyData} : Dq K F v d → Ow K F H (some v) (.p d) []
  | l {a : Addr} {vs : List V} {xs : List Slot} {fp : List Addr} : H a = some (.lst vs) → OwL K F H vs xs fp → Ow K F H (some (.ref a)) (.l xs) (a :: fp)
  | m {a : Addr} {ks : List (Key × V)} {xs : List (Key × Slot)} {fp : List Addr} : H a = some (.dK ks) → OwM K F H ks xs fp → Ow K F H (some (.ref a)) (.m xs) (a :: fp)
  | t {a : Addr} {zs : List ((Int × Int) × V × V)} {ks : List ((Int × Int) × PyData)} : F a = some (PrO a zs) → zs.map (·.1) = ks.map (·.1) → DqAll K F (zs.map (·.2.1)) (ks.map fun k => kPr k.1) → DqAll K F (zs.map (·.2.2)) (ks.map (·.2)) → Ow K F H (some (.ref a)) (.t ks) []
inductive OwL (K : PySem.W.Frag) (F H : Hp) : List V → List Slot → List Addr → Prop
  | nil : OwL K F H [] [] []
  | cons {v : V} {s : Slot} {f g : List Addr} {vs : List V} {ss : List Slot} : Ow K F H (some v) s f → OwL K F H vs ss g → OwL K F H (v :: vs) (s :: ss) (f ++ g)
inductive OwM (K : PySem.W.Frag) (F H : Hp) : List (Key × V) → List (Key × Slot) → List Addr → Prop
  | nil : OwM K F H [] [] []
  | cons {k : Key} {v : V} {s : Slot} {f g : List Addr} {vs : List (Key × V)} {ss : List (Key × Slot)} : Ow K F H (some v) s f → OwM K F H vs ss g → OwM K F H ((k, v) :: vs) ((k, s) :: ss) (f ++ g)
end

/-- a row of things held -/
abbrev Row := List (Option V × Slot)
inductive OwE (K : PySem.W.Frag) (F H : Hp) : Row → List Addr → Prop
  | nil : OwE K F H [] []
  | cons {o : Option V} {s : Slot} {f g : List Addr} {L : Row} : Ow K F H o s f → OwE K F H L g → OwE K F H ((o, s) :: L) (f ++ g)

def Ex (H H' : Hp) : Prop := ∀ a o, H a = some o → H' a = some o
theorem Ex.refl (H : Hp) : Ex H H := fun _ _ h => h
theorem Ex.trans {H H1 H2 : Hp} (a : Ex H H1) (b : Ex H1 H2) : Ex H H2 := fun x o h => b x o (a x o h)

theorem TpK.mono {K : PySem.W.Frag} {F F' : Hp} {a : Addr} {xs : List V} {ds : List PyData} (e : Ex F F') (h : TpK K F a xs ds) : TpK K F' a xs ds := by
  rcases h with h | ⟨h1, o, h, h2⟩ | ⟨h1, h⟩
  · exact .inl h
  · exact .inr (.inl ⟨h1, o, e _ _ h, h2⟩)
  · exact .inr (.inr ⟨h1, e _ _ h⟩)
mutual
theorem Dq.mono {K : PySem.W.Frag} {F F' : Hp} (e : Ex F F') : ∀ {v : V} {d : PyData}, Dq K F v d → Dq K F' v d
  | _, _, .non => .non
  | _, _, .bl b => .bl b
  | _, _, .int i => .int i
  | _, _, .str x => .str x
  | _, _, .lst h t => .lst (Evl.ex_l e h) (t.mono e)
  | _, _, .tup h t => .tup (h.mono e) (t.mono e)
theorem DqAll.mono {K : PySem.W.Frag} {F F' : Hp} (e : Ex F F') : ∀ {vs : List V} {ds : List PyData}, DqAll K F vs ds → DqAll K F' vs ds
  | _, _, .nil => .nil
  | _, _, .cons h t => .cons (h.mono e) (t.mono e)
end

mutual
theorem Ow.mono {K : PySem.W.Frag} {F F' H H' : Hp} (e : Ex F F') : ∀ {o : Option V} {s : Slot} {fp : List Addr}, (∀ a ∈ fp, H' a = H a) → Ow K F H o s fp → Ow K F' H' o s fp
  | _, _, _, _, .un => .un
  | _, _, _, _, .p h => .p (h.mono e)
  | _, _, _, k, .l h t => .l ((k _ List.mem_cons_self).trans h) (OwL.mono e (fun a q => k a (List.mem_cons_of_mem _ q)) t)
  | _, _, _, k, .m h t => .m ((k _ List.mem_cons_self).trans h) (OwM.mono e (fun a q => k a (List.mem_cons_of_mem _ q)) t)
  | _, _, _, _, .t h hk h1 h2 => .t (e _ _ h) hk (h1.mono e) (h2.mono e)
theorem OwL.mono {K : PySem.W.Frag} {F F' H H' : Hp} (e : Ex F F') : ∀ {vs : List V} {ss : List Slot} {fp : List Addr}, (∀ a ∈ fp, H' a = H a) → OwL K F H vs ss fp → OwL K F' H' vs ss fp
  | _, _, _, _, .nil => .nil
  | _, _, _, k, .cons h t => .cons (Ow.mono e (fun a q => k a (List.mem_append_left _ q)) h) (OwL.mono e (fun a q => k a (List.mem_append_right _ q)) t)
theorem OwM.mono {K : PySem.W.Frag} {F F' H H' : Hp} (e : Ex F F') : ∀ {vs : List (Key × V)} {ss : List (Key × Slot)} {fp : List Addr}, (∀ a ∈ fp, H' a = H a) → OwM K F H vs ss fp → OwM K F' H' vs ss fp
  | _, _, _, _, .nil => .nil
  | _, _, _, k, .cons h t => .cons (Ow.mono e (fun a q => k a (List.mem_append_left _ q)) h) (OwM.mono e (fun a q => k a (List.mem_append_right _ q)) t)
end
theorem OwE.mono {K : PySem.W.Frag} {F F' H H' : Hp} (e : Ex F F') : ∀ {L : Row} {fp : List Addr}, (∀ a ∈ fp, H' a = H a) → OwE K F H L fp → OwE K F' H' L fp
  | _, _, _, .nil => .nil
  | _, _, k, .cons h t => .cons (Ow.mono e (fun a q => k a (List.mem_append_left _ q)) h) (OwE.mono e (fun a q => k a (List.mem_append_right _ q)) t)
mutual
theorem Ow.there {K : PySem.W.Frag} {F H : Hp} : ∀ {o : Option V} {s : Slot} {fp : List Addr}, Ow K F H o s fp → ∀ a ∈ fp, H a ≠ none
  | _, _, _, .un => fun _ q => nomatch q
  | _, _, _, .p _ => fun _ q => nomatch q
  | _, _, _, .l h t => fun a q => by
    rcases List.mem_cons.mp q with rfl | q
    · rw [h]; exact fun z => nomatch z
    · exact OwL.there t a q
  | _, _, _, .m h t => fun a q => by
    rcases List.mem_cons.mp q with rfl | q
    · rw [h]; exact fun z => nomatch z
    · exact OwM.there t a q
  | _, _, _, .t _ _ _ _ => fun _ q => nomatch q
theorem OwL.there {K : PySem.W.Frag} {F H : Hp} : ∀ {vs : List V} {ss : List Slot} {fp : List Addr}, OwL K F H vs ss fp → ∀ a ∈ fp, H a ≠ none
  | _, _, _, .nil => fun _ q => nomatch q
  | _, _, _, .cons h t => fun a q => (List.mem_append.mp q).elim (Ow.there h a) (OwL.there t a)
theorem OwM.there {K : PySem.W.Frag} {F H : Hp} : ∀ {vs : List (Key × V)} {ss : List (Key × Slot)} {fp : List Addr}, OwM K F H vs ss fp → ∀ a ∈ fp, H a ≠ none
  | _, _, _, .nil => fun _ q => nomatch q
  | _, _, _, .cons h t => fun a q => (List.mem_append.mp q).elim (Ow.there h a) (OwM.there t a)
end
theorem OwE.there {K : PySem.W.Frag} {F H : Hp} : ∀ {L : Row} {fp : List Addr}, OwE K F H L fp → ∀ a ∈ fp, H a ≠ none
  | _, _, .nil => fun _ q => nomatch q
  | _, _, .cons h t => fun a q => (List.mem_append.mp q).elim (Ow.there h a) (OwE.there t a)
theorem OwE.perm {K : PySem.W.Frag} {F H : Hp} {L L' : Row} (h : L.Perm L') : ∀ {fp : List Addr}, OwE K F H L fp → ∃ fp', fp.Perm fp' ∧ OwE K F H L' fp' := by
  induction h with
  | nil => intro fp h; cases h; exact ⟨_, .refl _, .nil⟩
  | cons x _ ih =>
    intro fp h
    cases h with
    | cons h t =>
      obtain ⟨g, p, t'⟩ := ih t
      exact ⟨_, List.Perm.append_left _ p, .cons h t'⟩
  | swap x y l =>
    intro fp h
    cases h with
    | cons h t =>
      cases t with
      | cons h2 t =>
        refine ⟨_, ?_, .cons h2 (.cons h t)⟩
        rw [← List.append_assoc, ← List.append_assoc]
        exact List.Perm.append_right _ List.perm_append_comm
  | trans _ _ ih1 ih2 =>
    intro fp h
    obtain ⟨f1, p1, h1⟩ := ih1 h
    obtain ⟨f2, p2, h2⟩ := ih2 h1
    exact ⟨f2, p1.trans p2, h2⟩
theorem OwE.app {K : PySem.W.Frag} {F H : Hp} : ∀ {L L' : Row} {f g : List Addr}, OwE K F H L f → OwE K F H L' g → OwE K F H (L ++ L') (f ++ g)
  | _, _, _, _, .nil, h => h
  | _, _, _, _, .cons a t, h => by rw [List.append_assoc]; exact .cons a (OwE.app t h)
theorem OwE.split {K : PySem.W.Frag} {F H : Hp} : ∀ {L L' : Row} {fp : List Addr}, OwE K F H (L ++ L') fp → ∃ f g, fp = f ++ g ∧ OwE K F H L f ∧ OwE K F H L' g
  | [], _, fp, h => ⟨[], fp, rfl, .nil, h⟩
  | _ :: L, _, _, .cons a t => by
    obtain ⟨f, g, e, h1, h2⟩ := OwE.split t
    exact ⟨_, g, by rw [e, List.append_assoc], .cons a h1, h2⟩
/-- the items of a list beside what they are -/
def zS (vs : List V) (xs : List Slot) : Row := (vs.map some).zip xs
def zP (vs : List V) (ds : List PyData) : Row := (vs.map some).zip (ds.map Slot.p)
theorem OwL.row {K : PySem.W.Frag} {F H : Hp} : ∀ {vs : List V} {xs : List Slot} {fp : List Addr}, OwL K F H vs xs fp → OwE K F H (zS vs xs) fp ∧ vs.length = xs.length
  | _, _, _, .nil => ⟨.nil, rfl⟩
  | _, _, _, .cons h t => ⟨.cons h (OwL.row t).1, by rw [List.length_cons, List.length_cons, (OwL.row t).2]⟩
theorem OwL.of {K : PySem.W.Frag} {F H : Hp} : ∀ {vs : List V} {xs : List Slot} {fp : List Addr}, vs.length = xs.length → OwE K F H (zS vs xs) fp → OwL K F H vs xs fp
  | [], [], _, _, h => by cases h; exact .nil
  | _ :: _, _ :: _, _, e, h => by
    cases h with
    | cons a t => exact .cons a (OwL.of (by simpa using e) t)
  | [], _ :: _, _, e, _ => by simp at e
  | _ :: _, [], _, e, _ => by simp at e
def zM (ks : List (Key × V)) (xs : List (Key × Slot)) : Row := (ks.map fun p => some p.2).zip (xs.map (·.2))
theorem OwM.row {K : PySem.W.Frag} {F H : Hp} : ∀ {vs : List (Key × V)} {xs : List (Key × Slot)} {fp : List Addr}, OwM K F H vs xs fp → OwE K F H (zM vs xs) fp ∧ vs.map (·.1) = xs.map (·.1)
  | _, _, _, .nil => ⟨.nil, rfl⟩
  | _, _, _, .cons h t => ⟨.cons h (OwM.row t).1, by rw [List.map_cons, List.map_cons, (OwM.row t).2]⟩
theorem OwM.of {K : PySem.W.Frag} {F H : Hp} : ∀ {vs : List (Key × V)} {xs : List (Key × Slot)} {fp : List Addr}, vs.map (·.1) = xs.map (·.1) → OwE K F H (zM vs xs) fp → OwM K F H vs xs fp
  | [], [], _, _, h => by cases h; exact .nil
  | (k, _) :: _, (k', _) :: _, _, e, h => by
    cases h with
    | cons a t =>
      simp only [List.map_cons, List.cons.injEq] at e
      obtain ⟨rfl, e⟩ := e
      exact .cons a (OwM.of e t)
  | [], _ :: _, _, e, _ => by simp at e
  | _ :: _, [], _, e, _ => by simp at e
theorem dpall_row {K : PySem.W.Frag} {F H : Hp} : ∀ {vs : List V} {ds : List PyData}, DqAll K F vs ds → OwE K F H (zP vs ds) [] ∧ vs.length = ds.length
  | _, _, .nil => ⟨.nil, rfl⟩
  | _, _, .cons h t => ⟨.cons (f := []) (g := []) (.p h) (dpall_row t).1, by rw [List.length_cons, List.length_cons, (dpall_row (H := H) t).2]⟩
theorem dpall_of {K : PySem.W.Frag} {F H : Hp} : ∀ {vs : List V} {ds : List PyData} {fp : List Addr}, vs.length = ds.length → OwE K F H (zP vs ds) fp → DqAll K F vs ds
  | [], [], _, _, h => .nil
  | _ :: _, _ :: _, _, e, h => by
    cases h with
    | cons a t =>
      cases a with
      | p a => exact .cons a (dpall_of (by simpa using e) t)
  | [], _ :: _, _, e, _ => by simp at e
  | _ :: _, [], _, e, _ => by simp at e

theorem OwE.mem {K : PySem.W.Frag} {F H : Hp} {o : Option V} {d : PyData} : ∀ {L : Row} {fp : List Addr}, OwE K F H L fp → (o, Slot.p d) ∈ L → ∃ v, o = some v ∧ Dq K F v d
  | _, _, .nil, h => nomatch h
  | _, _, .cons a t, h => by
    rcases List.mem_cons.mp h with z | h
    · cases z
      cases a with
      | p q => exact ⟨_, rfl, q⟩
    · exact OwE.mem t h
/-- THE WORD: what the row holds, each of its own lists its own; R: addresses set aside -/
def Good (K : PySem.W.Frag) (H : Hp) (R : List Addr) (L : Row) : Prop :=
  ∃ (F : Hp) (fp : List Addr), Ex F H ∧ OwE K F H L fp ∧ (R ++ fp).Nodup ∧ (∀ a ∈ R ++ fp, F a = none) ∧ ∀ a ∈ R, H a ≠ none

section
variable {K : PySem.W.Frag} {H H' : Hp} {R : List Addr} {L L' : Row} {o : Option V} {s : Slot} {a p : Addr} {u : HO} {v : V} {d : PyData} {vs : List V} {xs : List Slot} {ds : List PyData}
theorem Good.perm (g : Good K H R L) (h : L.Perm L') : Good K H R L' := by
  obtain ⟨F, fp, e, w, nd, fn, rt⟩ := g
  obtain ⟨fp', pp, w'⟩ := w.perm h
  exact ⟨F, fp', e, w', (List.Perm.append_left R pp).nodup_iff.mp nd, fun a q => fn a ((List.Perm.append_left R pp).mem_iff.mpr q), rt⟩
theorem Good.drop (g : Good K H R ((o, s) :: L)) : Good K H R L := by
  obtain ⟨F, fp, e, w, nd, fn, rt⟩ := g
  cases w with
  | @cons _ _ f g' _ h t =>
    have sub : List.Sublist (R ++ g') (R ++ (f ++ g')) := List.Sublist.append_left (List.sublist_append_right f g') R
    exact ⟨F, g', e, t, nd.sublist sub, fun a q => fn a (sub.subset q), rt⟩
theorem Good.dropApp (g : Good K H R (L ++ L')) : Good K H R L' := by
  induction L with
  | nil => exact g
  | cons x L ih => exact ih (Good.drop (o := x.1) (s := x.2) g)
/-- what stands in the row is known of H -/
theorem Good.dq (g : Good K H R L) (h : (o, Slot.p d) ∈ L) : ∃ v, o = some v ∧ Dq K H v d := by
  obtain ⟨F, fp, e, w, _, _, _⟩ := g
  obtain ⟨v, rfl, q⟩ := w.mem h
  exact ⟨v, rfl, q.mono e⟩
theorem Good.dp (g : Good K H R L) (h : (o, Slot.p d) ∈ L) : ∃ v, o = some v ∧ Dp K H v d := by
  obtain ⟨v, e, q⟩ := g.dq h
  exact ⟨v, e, q.dp⟩
theorem Good.copy (g : Good K H R L) (h : (o, Slot.p d) ∈ L) : Good K H R ((o, .p d) :: L) := by
  obtain ⟨F, fp, e, w, nd, fn, rt⟩ := g
  obtain ⟨v, rfl, q⟩ := w.mem h
  exact ⟨F, fp, e, .cons (f := []) (.p q) w, nd, fn, rt⟩
/-- a plain thing that is known anywhere -/
theorem Good.push (g : Good K H R L) (h : ∀ F, Dq K F v d) : Good K H R ((some v, .p d) :: L) := by
  obtain ⟨F, fp, e, w, nd, fn, rt⟩ := g
  exact ⟨F, fp, e, .cons (f := []) (.p (h F)) w, nd, fn, rt⟩
theorem Good.pushUn (g : Good K H R L) : Good K H R ((o, .un) :: L) := by
  obtain ⟨F, fp, e, w, nd, fn, rt⟩ := g
  exact ⟨F, fp, e, .cons (f := []) .un w, nd, fn, rt⟩
theorem ex_upd {F : Hp} (e : Ex F H) (h : F a = none) : Ex F (upd H a u) := fun b x q => by
  by_cases z : b = a
  · subst z; rw [h] at q; cases q
  · rw [upd_ne z]; exact e b x q
theorem Good.write (g : Good K H R L) (h : a ∈ R) : Good K (upd H a u) R L := by
  obtain ⟨F, fp, e, w, nd, fn, rt⟩ := g
  refine ⟨F, fp, ex_upd e (fn a (List.mem_append_left _ h)), w.mono (Ex.refl F) fun b q => ?_, nd, fn, fun b q => ?_⟩
  · refine upd_ne fun z => ?_
    subst z
    exact (List.nodup_append.mp nd).2.2 b h b q rfl
  · by_cases z : b = a
    · subst z; rw [upd_same]; exact fun z => nomatch z
    · rw [upd_ne z]; exact rt b q
theorem Good.reserve (g : Good K H R L) (h : H p = none) : Good K (upd H p u) (p :: R) L := by
  obtain ⟨F, fp, e, w, nd, fn, rt⟩ := g
  have np : F p = none := by
    cases q : F p with
    | none => rfl
    | some x => rw [e p x q] at h; cases h
  have nf : p ∉ fp := fun z => w.there p z h
  have nr : p ∉ R := fun z => rt p z h
  refine ⟨F, fp, ex_upd e np, w.mono (Ex.refl F) fun b q => upd_ne fun z => nf (z ▸ q), List.nodup_cons.mpr ⟨fun z => (List.mem_append.mp z).elim nr nf, nd⟩, fun b q => ?_, fun b q => ?_⟩
  · rcases List.mem_cons.mp q with rfl | q
    · exact np
    · exact fn b q
  · rcases List.mem_cons.mp q with rfl | q
    · rw [upd_same]; exact fun z => nomatch z
    · rw [upd_ne (fun z => nr (by rw [← z]; exact q))]; exact rt b q
theorem Good.free (g : Good K H (p :: R) L) : Good K H R L := by
  obtain ⟨F, fp, e, w, nd, fn, rt⟩ := g
  exact ⟨F, fp, e, w, (List.nodup_cons.mp nd).2, fun b q => fn b (List.mem_cons_of_mem _ q), fun b q => rt b (List.mem_cons_of_mem _ q)⟩
theorem zS_app_len (h : vs.length = xs.length) : zS vs xs = (vs.map some).zip xs := rfl
theorem Good.open_ (g : Good K H R ((o, .l xs) :: L)) : ∃ a vs, o = some (.ref a) ∧ H a = some (.lst vs) ∧ vs.length = xs.length ∧ Good K H (a :: R) (zS vs xs ++ L) := by
  obtain ⟨F, fp, e, w, nd, fn, rt⟩ := g
  cases w with
  | @cons _ _ f g' _ h t =>
    cases h with
    | @l a vs _ f1 ha hl =>
      obtain ⟨r, len⟩ := hl.row
      have pm : (R ++ (a :: f1 ++ g')).Perm (a :: R ++ (f1 ++ g')) := by
        show (R ++ a :: (f1 ++ g')).Perm (a :: (R ++ (f1 ++ g')))
        exact List.perm_middle
      refine ⟨a, vs, rfl, ha, len, F, f1 ++ g', e, r.app t, pm.nodup_iff.mp nd, fun b q => fn b (pm.mem_iff.mpr q), fun b q => ?_⟩
      rcases List.mem_cons.mp q with rfl | q
      · rw [ha]; exact fun z => nomatch z
      · exact rt b q
theorem Good.close (g : Good K H (a :: R) (zS vs xs ++ L)) (ha : H a = some (.lst vs)) (len : vs.length = xs.length) : Good K H R ((some (.ref a), .l xs) :: L) := by
  obtain ⟨F, fp, e, w, nd, fn, rt⟩ := g
  obtain ⟨f, g', rfl, h1, h2⟩ := w.split
  have pm : (R ++ (a :: f ++ g')).Perm (a :: R ++ (f ++ g')) := by
    show (R ++ a :: (f ++ g')).Perm (a :: (R ++ (f ++ g')))
    exact List.perm_middle
  exact ⟨F, (a :: f) ++ g', e, .cons (.l ha (OwL.of len h1)) h2, pm.nodup_iff.mpr nd, fun b q => fn b (pm.mem_iff.mp q), fun b q => rt b (List.mem_cons_of_mem _ q)⟩
theorem Good.openM {ks : List (Key × Slot)} (g : Good K H R ((o, .m ks) :: L)) : ∃ a vs, o = some (.ref a) ∧ H a = some (.dK vs) ∧ vs.map (·.1) = ks.map (·.1) ∧ Good K H (a :: R) (zM vs ks ++ L) := by
  obtain ⟨F, fp, e, w, nd, fn, rt⟩ := g
  cases w with
  | @cons _ _ f g' _ h t =>
    cases h with
    | @m a vs _ f1 ha hl =>
      obtain ⟨r, len⟩ := hl.row
      have pm : (R ++ (a :: f1 ++ g')).Perm (a :: R ++ (f1 ++ g')) := by
        show (R ++ a :: (f1 ++ g')).Perm (a :: (R ++ (f1 ++ g')))
        exact List.perm_middle
      refine ⟨a, vs, rfl, ha, len, F, f1 ++ g', e, r.app t, pm.nodup_iff.mp nd, fun b q => fn b (pm.mem_iff.mpr q), fun b q => ?_⟩
      rcases List.mem_cons.mp q with rfl | q
      · rw [ha]; exact fun z => nomatch z
      · exact rt b q
theorem Good.closeM {ks : List (Key × Slot)} {vs : List (Key × V)} (g : Good K H (a :: R) (zM vs ks ++ L)) (ha : H a = some (.dK vs)) (len : vs.map (·.1) = ks.map (·.1)) : Good K H R ((some (.ref a), .m ks) :: L) := by
  obtain ⟨F, fp, e, w, nd, fn, rt⟩ := g
  obtain ⟨f, g', rfl, h1, h2⟩ := w.split
  have pm : (R ++ (a :: f ++ g')).Perm (a :: R ++ (f ++ g')) := by
    show (R ++ a :: (f ++ g')).Perm (a :: (R ++ (f ++ g')))
    exact List.perm_middle
  exact ⟨F, (a :: f) ++ g', e, .cons (.m ha (OwM.of len h1)) h2, pm.nodup_iff.mpr nd, fun b q => fn b (pm.mem_iff.mp q), fun b q => rt b (List.mem_cons_of_mem _ q)⟩
/-- a list of plain things stays as it is from now on -/
theorem Good.freeze (g : Good K H (a :: R) (zP vs ds ++ L)) (ha : H a = some (.lst vs)) (len : vs.length = ds.length) : Good K H R ((some (.ref a), .p (.list ds)) :: L) := by
  obtain ⟨F, fp, e, w, nd, fn, rt⟩ := g
  obtain ⟨f, g', rfl, h1, h2⟩ := w.split
  have hF : F a = none := fn a List.mem_cons_self
  have e1 : Ex F (upd F a (.lst vs)) := ex_upd (Ex.refl F) hF
  have ds1 := (dpall_of len h1).mono e1
  have nd2 := List.nodup_cons.mp nd
  have sub : List.Sublist (R ++ g') (R ++ (f ++ g')) := List.Sublist.append_left (List.sublist_append_right f g') R
  refine ⟨upd F a (.lst vs), [] ++ g', fun b x q => ?_, .cons (.p (.lst (.inl (.inl upd_same)) ds1)) (h2.mono e1 fun _ _ => rfl), nd2.2.sublist sub, fun b q => ?_, fun b q => rt b (List.mem_cons_of_mem _ q)⟩
  · by_cases z : b = a
    · subst z; rw [upd_same] at q; cases q; exact ha
    · rw [upd_ne z] at q; exact e b x q
  · have z : b ≠ a := fun z => nd2.1 (z ▸ sub.subset q)
    rw [upd_ne z]; exact fn b (List.mem_cons_of_mem _ (sub.subset q))
/-- a new tuple of plain things: how it is laid -/
def TupHO (ds : List PyData) (vs : List V) (u : HO) : Prop := (rowB ds = true ∧ ∃ o : Obj, u = .frz o (.tup vs) ∧ o.dict = none) ∨ (rowB ds = false ∧ u = .tup vs)
theorem Good.newTup (g : Good K H R (zP vs ds ++ L)) (hp : H p = none) (len : vs.length = ds.length) (hu : TupHO ds vs u) : Good K (upd H p u) R ((some (.ref p), .p (.tuple ds)) :: L) := by
  obtain ⟨F, fp, e, w, nd, fn, rt⟩ := g.reserve (u := u) hp
  obtain ⟨f, g', rfl, h1, h2⟩ := w.split
  have hF : F p = none := fn p List.mem_cons_self
  have e1 : Ex F (upd F p u) := ex_upd (Ex.refl F) hF
  have ds1 := (dpall_of len h1).mono e1
  have nd2 := List.nodup_cons.mp nd
  have sub : List.Sublist (R ++ g') (R ++ (f ++ g')) := List.Sublist.append_left (List.sublist_append_right f g') R
  have tk : TpK K (upd F p u) p vs ds := by
    rcases hu with ⟨h3, o, h4, h5⟩ | ⟨h3, h4⟩
    · exact .inr (.inl ⟨h3, o, by rw [upd_same, h4], h5⟩)
    · exact .inr (.inr ⟨h3, by rw [upd_same, h4]⟩)
  refine ⟨upd F p u, [] ++ g', fun b x q => ?_, .cons (.p (.tup tk ds1)) (h2.mono e1 fun _ _ => rfl), nd2.2.sublist sub, fun b q => ?_, fun b q => rt b (List.mem_cons_of_mem _ q)⟩
  · by_cases z : b = p
    · subst z; rw [upd_same] at q; cases q; exact upd_same
    · rw [upd_ne z] at q; exact e b x q
  · have z : b ≠ p := fun z => nd2.1 (z ▸ sub.subset q)
    rw [upd_ne z]; exact fn b (List.mem_cons_of_mem _ (sub.subset q))
/-- the items of a tuple, of a list that stays -/
theorem Good.items {o : Option V} (g : Good K H R L) (h : (o, Slot.p d) ∈ L) (hd : d = .tuple ds ∨ d = .list ds) : ∃ a vs, o = some (.ref a) ∧ (d = .tuple ds → SqT K H a vs) ∧ (d = .list ds → SqL K H a vs) ∧ vs.length = ds.length ∧ Good K H R (zP vs ds ++ L) := by
  obtain ⟨F, fp, e, w, nd, fn, rt⟩ := g
  obtain ⟨v, rfl, q⟩ := w.mem h
  rcases hd with rfl | rfl
  · cases q with
    | tup hq ha =>
      exact ⟨_, _, rfl, fun _ => Evl.ex_t e hq.sq, fun z => (nomatch z), (dpall_row (H := H) ha).2, F, [] ++ fp, e, (dpall_row ha).1.app w, nd, fn, rt⟩
  · cases q with
    | lst hq ha =>
      exact ⟨_, _, rfl, fun z => (nomatch z), fun _ => Evl.ex_l e hq, (dpall_row (H := H) ha).2, F, [] ++ fp, e, (dpall_row ha).1.app w, nd, fn, rt⟩
/-- what stands in a dict whose keys are pairs of numbers -/
theorem OwE.memT {K : PySem.W.Frag} {F H : Hp} {o : Option V} {ks : List ((Int × Int) × PyData)} : ∀ {L : Row} {fp : List Addr}, OwE K F H L fp → (o, Slot.t ks) ∈ L → ∃ a zs, o = some (V.ref a) ∧ F a = some (PrO a zs) ∧ zs.map (·.1) = ks.map (·.1) ∧ DqAll K F (zs.map (·.2.1)) (ks.map fun k => kPr k.1) ∧ DqAll K F (zs.map (·.2.2)) (ks.map (·.2))
  | _, _, .nil, h => nomatch h
  | _, _, .cons a t, h => by
    rcases List.mem_cons.mp h with z | h
    · cases z
      cases a with
      | t q1 q2 q3 q4 => exact ⟨_, _, rfl, q1, q2, q3, q4⟩
    · exact OwE.memT t h
theorem Good.openT {o : Option V} {ks : List ((Int × Int) × PyData)} (g : Good K H R L) (h : (o, Slot.t ks) ∈ L) : ∃ a zs, o = some (V.ref a) ∧ H a = some (PrO a zs) ∧ zs.map (·.1) = ks.map (·.1) ∧ Good K H R (zP (zs.map (·.2.1)) (ks.map fun k => kPr k.1) ++ (zP (zs.map (·.2.2)) (ks.map (·.2)) ++ L)) := by
  obtain ⟨F, fp, e, w, nd, fn, rt⟩ := g
  obtain ⟨a, zs, rfl, h1, h2, h3, h4⟩ := w.memT h
  exact ⟨a, zs, rfl, e _ _ h1, h2, F, [] ++ ([] ++ fp), e, (dpall_row h3).1.app ((dpall_row h4).1.app w), nd, fn, rt⟩
/-- a new one -/
theorem Good.newT {zs : List ((Int × Int) × V × V)} {ks : List ((Int × Int) × PyData)} (g : Good K H R (zP (zs.map (·.2.1)) (ks.map fun k => kPr k.1) ++ (zP (zs.map (·.2.2)) (ks.map (·.2)) ++ L))) (hp : H p = none) (hk : zs.map (·.1) = ks.map (·.1)) : Good K (upd H p (PrO p zs)) R ((some (.ref p), .t ks) :: L) := by
  have len : zs.length = ks.length := by have := congrArg List.length hk; simpa using this
  obtain ⟨F, fp, e, w, nd, fn, rt⟩ := g.reserve (u := PrO p zs) hp
  obtain ⟨f, g', rfl, h1, h2⟩ := w.split
  obtain ⟨f2, g2, rfl, h3, h4⟩ := h2.split
  have hF : F p = none := fn p List.mem_cons_self
  have e1 : Ex F (upd F p (PrO p zs)) := ex_upd (Ex.refl F) hF
  have d1 := (dpall_of (by rw [List.length_map, List.length_map]; exact len) h1).mono e1
  have d2 := (dpall_of (by rw [List.length_map, List.length_map]; exact len) h3).mono e1
  have nd2 := List.nodup_cons.mp nd
  have sub : List.Sublist (R ++ g2) (R ++ (f ++ (f2 ++ g2))) := List.Sublist.append_left ((List.sublist_append_right f2 g2).trans (List.sublist_append_right f _)) R
  refine ⟨upd F p (PrO p zs), [] ++ g2, fun b x q => ?_, .cons (.t upd_same hk d1 d2) (h4.mono e1 fun _ _ => rfl), nd2.2.sublist sub, fun b q => ?_, fun b q => rt b (List.mem_cons_of_mem _ q)⟩
  · by_cases z : b = p
    · subst z; rw [upd_same] at q; cases q; exact upd_same
    · rw [upd_ne z] at q; exact e b x q
  · have z : b ≠ p := fun z => nd2.1 (z ▸ sub.subset q)
    rw [upd_ne z]; exact fn b (List.mem_cons_of_mem _ (sub.subset q))
end
end MM
/-! M1: what expressions are worth: mirrors over a row of slots, and how a reading follows them -/
namespace MM
open PySem PySem.Spec L2

/-- what is raised: its class by name, the value of its field -/
structure Exn where
  c : Str
  f : Option PyData
abbrev Env := List Slot
/-- an expression's outcome: a thing of its own, or a name's thing as it stands -/
inductive Opd where
  | val (s : Slot)
  | ref (i : Nat)
inductive Res (α : Type) where
  | ok (a : α)
  | ex (x : Exn)
abbrev Mir (α : Type) := Env → Option (Res α × Env)
abbrev ExM := Mir Opd
def bnd {α β : Type} (m : Mir α) (k : α → Mir β) : Mir β := fun env => match m env with
  | none => none
  | some (.ok a, e) => k a e
  | some (.ex x, e) => some (.ex x, e)
def ret {α : Type} (a : α) : Mir α := fun env => some (.ok a, env)
def stuck {α : Type} : Mir α := fun _ => none
theorem bnd_ok {α β : Type} {m : Mir α} {k : α → Mir β} {env e : Env} {a : α} (h : m env = some (.ok a, e)) : bnd m k env = k a e := by
  unfold bnd; rw [h]
theorem bnd_ex {α β : Type} {m : Mir α} {k : α → Mir β} {env e : Env} {x : Exn} (h : m env = some (.ex x, e)) : bnd m k env = some (.ex x, e) := by
  unfold bnd; rw [h]
theorem bnd_assoc {α β γ : Type} (m : Mir α) (k : α → Mir β) (l : β → Mir γ) : bnd (bnd m k) l = bnd m (fun a => bnd (k a) l) := by
  funext env
  unfold bnd
  cases m env with
  | none => rfl
  | some p =>
    obtain ⟨r, e⟩ := p
    cases r <;> rfl
theorem bnd_ret {α β : Type} (a : α) (k : α → Mir β) : bnd (ret a) k = k a := rfl
/-- plain data of a slot: it is plain, or a list of plain things -/
def Slot.p? : Slot → Option PyData
  | .p d => some d
  | _ => none
def allP : List Slot → Option (List PyData)
  | [] => some []
  | .p d :: xs => (allP xs).map (d :: ·)
  | _ :: _ => none
def Slot.dat : Slot → Option PyData
  | .p d => some d
  | .l xs => (allP xs).map .list
  | _ => none
@[simp] theorem allP_map (ds : List PyData) : allP (ds.map .p) = some ds := by
  induction ds with
  | nil => rfl
  | cons d ds ih => show (allP (ds.map Slot.p)).map (d :: ·) = _; rw [ih]; rfl
theorem allP_eq : ∀ {xs : List Slot} {ds : List PyData}, allP xs = some ds → xs = ds.map .p
  | [], ds, h => by cases h; rfl
  | .p d :: xs, ds, h => by
    obtain ⟨es, h1, h2⟩ := Option.map_eq_some_iff.mp (show (allP xs).map (d :: ·) = some ds from h)
    subst h2
    rw [allP_eq h1]; rfl
  | .un :: _, _, h => nomatch h
  | .l _ :: _, _, h => nomatch h
  | .m _ :: _, _, h => nomatch h
def Opd.get (o : Opd) (env : Env) : Slot := match o with
  | .val s => s
  | .ref i => (env[i]?).getD .un
def Opd.slot : Opd → Slot
  | .val s => s
  | .ref _ => .un
def Opd.is (σ : St) (v : V) : Opd → Prop
  | .val _ => True
  | .ref i => σ[i]? = some (some v)
/-- its data now -/
def look (o : Opd) : Mir PyData := fun env => match (o.get env).dat with
  | some d => some (.ok d, env)
  | none => none

structure Ki where
  K : PySem.W.Frag
  cl : Str → Value
def XP (ki : Ki) (x : Exn) (cls : Value) (d : Option Addr) (H : Hp) : Prop :=
  cls = ki.cl x.c ∧ ∀ pd, x.f = some pd → ∃ dd fs v, d = some dd ∧ H dd = some (.xd fs) ∧ fs.lookup ("line" : Str) = some v ∧ ∀ F, Dq ki.K F v pd

abbrev G (ki : Ki) (H : Hp) (L : Row) : Prop := Good ki.K H [] L
abbrev zE (σ : St) (env : Env) : Row := σ.zip env

/-- what an expression's end may lean on -/
def Pst (ki : Ki) (W : WX) (σ : St) (T : Row) (Q : VK) (n : Nat) : Res Opd → Env → Prop
  | .ok o, env' => ∀ v H', env'.length = n → G ki H' (zE σ env' ++ (some v, o.slot) :: T) → o.is σ v → Q v H'
  | .ex x, env' => ∀ cls d H', env'.length = n → G ki H' (zE σ env' ++ T) → XP ki x cls d H' → W cls d σ H'
def Rd (ki : Ki) (W : WX) (te : TE) (m : ExM) : Prop :=
  ∀ (σ : St) (H : Hp) (env : Env) (T : Row) (r : Res Opd) (env' : Env), σ.length = env.length → G ki H (zE σ env ++ T) → m env = some (r, env') → ∀ Q : VK, Pst ki W σ T Q env.length r env' → te σ H Q
def PstT (ki : Ki) (W : WX) (σ : St) (T : Row) (Q : Bool → Hp → Prop) (n : Nat) : Res Bool → Env → Prop
  | .ok b, env' => ∀ H', env'.length = n → G ki H' (zE σ env' ++ T) → Q b H'
  | .ex x, env' => ∀ cls d H', env'.length = n → G ki H' (zE σ env' ++ T) → XP ki x cls d H' → W cls d σ H'
def RdT (ki : Ki) (W : WX) (tt : TT) (m : Mir Bool) : Prop :=
  ∀ (σ : St) (H : Hp) (env : Env) (T : Row) (r : Res Bool) (env' : Env), σ.length = env.length → G ki H (zE σ env ++ T) → m env = some (r, env') → ∀ Q : Bool → Hp → Prop, PstT ki W σ T Q env.length r env' → tt σ H Q
/-- argument lists -/
def zO (vs : List V) (os : List Opd) : Row := (vs.map some).zip (os.map Opd.slot)
def isAll (σ : St) : List V → List Opd → Prop
  | [], [] => True
  | v :: vs, o :: os => o.is σ v ∧ isAll σ vs os
  | _, _ => False
def PstA (ki : Ki) (W : WX) (σ : St) (T : Row) (Q : List V → Hp → Prop) (n : Nat) : Res (List Opd) → Env → Prop
  | .ok os, env' => ∀ vs H', env'.length = n → G ki H' (zE σ env' ++ (zO vs os ++ T)) → isAll σ vs os → Q vs H'
  | .ex x, env' => ∀ cls d H', env'.length = n → G ki H' (zE σ env' ++ T) → XP ki x cls d H' → W cls d σ H'
def RdA (ki : Ki) (W : WX) (ta : TA) (m : Mir (List Opd)) : Prop :=
  ∀ (σ : St) (H : Hp) (env : Env) (T : Row) (r : Res (List Opd)) (env' : Env), σ.length = env.length → G ki H (zE σ env ++ T) → m env = some (r, env') → ∀ Q : List V → Hp → Prop, PstA ki W σ T Q env.length r env' → ta σ H Q

theorem dropMid {ki : Ki} {H : Hp} {A E T : Row} (g : G ki H (A ++ (E ++ T))) : G ki H (A ++ T) := by
  have p : (A ++ (E ++ T)).Perm (E ++ (A ++ T)) := by
    rw [← List.append_assoc, ← List.append_assoc]
    exact List.Perm.append_right _ List.perm_append_comm
  exact Good.dropApp (g.perm p)

section
variable {ki : Ki} {W : WX} {ta tb te : TE} {tt : TT} {tas : TA} {ma mb : ExM} {mt : Mir Bool} {ms : Mir (List Opd)} {σ : St} {H : Hp} {env env' : Env} {E T : Row}
/-- the use of a part: E are the things that wait meanwhile -/
theorem Rd.use {k : Opd → ExM} {r : Res Opd} {Q : VK} (h : Rd ki W te ma) (hl : σ.length = env.length) (g : G ki H (zE σ env ++ (E ++ T))) (e : bnd ma k env = some (r, env')) (post : Pst ki W σ T Q env.length r env') {Q1 : VK}
    (go : ∀ o v H1 env1, env1.length = env.length → G ki H1 (zE σ env1 ++ ((some v, o.slot) :: (E ++ T))) → o.is σ v → k o env1 = some (r, env') → Q1 v H1) : te σ H Q1 := by
  unfold bnd at e
  cases hm : ma env with
  | none => rw [hm] at e; cases e
  | some p =>
    obtain ⟨r1, e1⟩ := p
    rw [hm] at e
    cases r1 with
    | ok o => exact h σ H env (E ++ T) _ _ hl g hm Q1 fun v H1 hn g1 ho => go o v H1 e1 hn g1 ho e
    | ex x =>
      cases e
      exact h σ H env (E ++ T) _ _ hl g hm Q1 fun cls d H1 hn g1 hx => post cls d H1 hn (dropMid g1) hx
theorem RdT.use {k : Bool → ExM} {r : Res Opd} {Q : VK} (h : RdT ki W tt mt) (hl : σ.length = env.length) (g : G ki H (zE σ env ++ (E ++ T))) (e : bnd mt k env = some (r, env')) (post : Pst ki W σ T Q env.length r env') {Q1 : Bool → Hp → Prop}
    (go : ∀ b H1 env1, env1.length = env.length → G ki H1 (zE σ env1 ++ (E ++ T)) → k b env1 = some (r, env') → Q1 b H1) : tt σ H Q1 := by
  unfold bnd at e
  cases hm : mt env with
  | none => rw [hm] at e; cases e
  | some p =>
    obtain ⟨r1, e1⟩ := p
    rw [hm] at e
    cases r1 with
    | ok o => exact h σ H env (E ++ T) _ _ hl g hm Q1 fun H1 hn g1 => go o H1 e1 hn g1 e
    | ex x =>
      cases e
      exact h σ H env (E ++ T) _ _ hl g hm Q1 fun cls d H1 hn g1 hx => post cls d H1 hn (dropMid g1) hx
theorem RdT.useT {k : Bool → Mir Bool} {r : Res Bool} {Q : Bool → Hp → Prop} (h : RdT ki W tt mt) (hl : σ.length = env.length) (g : G ki H (zE σ env ++ (E ++ T))) (e : bnd mt k env = some (r, env')) (post : PstT ki W σ T Q env.length r env') {Q1 : Bool → Hp → Prop}
    (go : ∀ b H1 env1, env1.length = env.length → G ki H1 (zE σ env1 ++ (E ++ T)) → k b env1 = some (r, env') → Q1 b H1) : tt σ H Q1 := by
  unfold bnd at e
  cases hm : mt env with
  | none => rw [hm] at e; cases e
  | some p =>
    obtain ⟨r1, e1⟩ := p
    rw [hm] at e
    cases r1 with
    | ok o => exact h σ H env (E ++ T) _ _ hl g hm Q1 fun H1 hn g1 => go o H1 e1 hn g1 e
    | ex x =>
      cases e
      exact h σ H env (E ++ T) _ _ hl g hm Q1 fun cls d H1 hn g1 hx => post cls d H1 hn (dropMid g1) hx
theorem Rd.useT {k : Opd → Mir Bool} {r : Res Bool} {Q : Bool → Hp → Prop} (h : Rd ki W te ma) (hl : σ.length = env.length) (g : G ki H (zE σ env ++ (E ++ T))) (e : bnd ma k env = some (r, env')) (post : PstT ki W σ T Q env.length r env') {Q1 : VK}
    (go : ∀ o v H1 env1, env1.length = env.length → G ki H1 (zE σ env1 ++ ((some v, o.slot) :: (E ++ T))) → o.is σ v → k o env1 = some (r, env') → Q1 v H1) : te σ H Q1 := by
  unfold bnd at e
  cases hm : ma env with
  | none => rw [hm] at e; cases e
  | some p =>
    obtain ⟨r1, e1⟩ := p
    rw [hm] at e
    cases r1 with
    | ok o => exact h σ H env (E ++ T) _ _ hl g hm Q1 fun v H1 hn g1 ho => go o v H1 e1 hn g1 ho e
    | ex x =>
      cases e
      exact h σ H env (E ++ T) _ _ hl g hm Q1 fun cls d H1 hn g1 hx => post cls d H1 hn (dropMid g1) hx
theorem RdA.use {k : List Opd → ExM} {r : Res Opd} {Q : VK} (h : RdA ki W tas ms) (hl : σ.length = env.length) (g : G ki H (zE σ env ++ (E ++ T))) (e : bnd ms k env = some (r, env')) (post : Pst ki W σ T Q env.length r env') {Q1 : List V → Hp → Prop}
    (go : ∀ os vs H1 env1, env1.length = env.length → G ki H1 (zE σ env1 ++ (zO vs os ++ (E ++ T))) → isAll σ vs os → k os env1 = some (r, env') → Q1 vs H1) : tas σ H Q1 := by
  unfold bnd at e
  cases hm : ms env with
  | none => rw [hm] at e; cases e
  | some p =>
    obtain ⟨r1, e1⟩ := p
    rw [hm] at e
    cases r1 with
    | ok o => exact h σ H env (E ++ T) _ _ hl g hm Q1 fun v H1 hn g1 ho => go o v H1 e1 hn g1 ho e
    | ex x =>
      cases e
      exact h σ H env (E ++ T) _ _ hl g hm Q1 fun cls d H1 hn g1 hx => post cls d H1 hn (dropMid g1) hx

/-! ### argument lists -/
def mNil : Mir (List Opd) := ret []
def mCons (m : ExM) (ms : Mir (List Opd)) : Mir (List Opd) := bnd m fun o => bnd ms fun os => ret (o :: os)
theorem rda_nil : RdA ki W tNil mNil := fun σ H env T r env' hl g e Q post => by
  cases e
  exact post [] H rfl g trivial
theorem rda_cons (ha : Rd ki W ta ma) (hs : RdA ki W tas ms) : RdA ki W (tCons ta tas) (mCons ma ms) := fun σ H env T r env' hl g e Q post => by
  unfold mCons at e
  unfold bnd at e
  cases hm : ma env with
  | none => rw [hm] at e; cases e
  | some p =>
    obtain ⟨r1, e1⟩ := p
    rw [hm] at e
    cases r1 with
    | ex x =>
      cases e
      exact ha σ H env T _ _ hl g hm _ post
    | ok o =>
      refine ha σ H env T _ _ hl g hm _ fun v H1 hn g1 ho => ?_
      have e : bnd ms (fun os => ret (o :: os)) e1 = some (r, env') := e
      unfold bnd at e
      cases hm2 : ms e1 with
      | none => rw [hm2] at e; cases e
      | some p =>
        obtain ⟨r2, e2⟩ := p
        rw [hm2] at e
        cases r2 with
        | ex x =>
          cases e
          exact hs σ H1 e1 _ _ _ (hl.trans hn.symm) g1 hm2 _ fun cls d H2 hn2 g2 hx => post cls d H2 (hn2.trans hn) (dropMid (E := [_]) g2) hx
        | ok os =>
          cases e
          refine hs σ H1 e1 _ _ _ (hl.trans hn.symm) g1 hm2 _ fun vs H2 hn2 g2 hi => post (v :: vs) H2 (hn2.trans hn) (g2.perm (List.Perm.append_left _ ?_)) ⟨ho, hi⟩
          exact List.perm_middle
end

/-! ### what stands in the row -/
theorem zE_mem {σ : St} {env : Env} {i : Nat} {o : Option V} {s : Slot} (h1 : σ[i]? = some o) (h2 : env[i]? = some s) : (o, s) ∈ zE σ env := by
  have : (zE σ env)[i]? = some (o, s) := by
    show (List.zip σ env)[i]? = _
    rw [List.getElem?_zip_eq_some]
    exact ⟨h1, h2⟩
  exact List.mem_of_getElem? this
theorem Opd.mem {σ : L2.St} {env : Env} {o : Opd} {v : V} {T : Row} (ho : o.is σ v) (hd : o.get env ≠ .un) (hv : ∀ s, o = .val s → (some v, s) ∈ T) : (some v, o.get env) ∈ zE σ env ++ T := by
  cases o with
  | val s => exact List.mem_append_right _ (hv s rfl)
  | ref i =>
    refine List.mem_append_left _ (zE_mem ho ?_)
    show env[i]? = some ((env[i]?).getD .un)
    cases q : env[i]? with
    | none => exact absurd (show (env[i]?).getD .un = .un by rw [q]; rfl) hd
    | some s => rfl
theorem dat_ne {s : Slot} {d : PyData} (h : s.dat = some d) : s ≠ .un := fun e => by subst e; cases h
theorem Opd.memD {σ : L2.St} {env : Env} {o : Opd} {v : V} {d : PyData} {A B : Row} (ho : o.is σ v) (hd : (o.get env).dat = some d) : (some v, o.get env) ∈ zE σ env ++ (A ++ ((some v, o.slot) :: B)) :=
  Opd.mem ho (dat_ne hd) fun s e => by subst e; exact List.mem_append_right _ List.mem_cons_self

section
variable {ki : Ki} {H : Hp} {R : List Addr} {L : Row} {x : V} {s : Slot} {d : PyData} {ds : List PyData} {vs : List V}
theorem Good.dpAll {K : PySem.W.Frag} (g : Good K H R (zP vs ds ++ L)) (len : vs.length = ds.length) : DpAll K H vs ds := by
  obtain ⟨F, fp, e, w, nd, fn, rt⟩ := g
  obtain ⟨f, g', rfl, h1, h2⟩ := w.split
  exact ((dpall_of len h1).mono e).dp
theorem mem_perm {x : Option V × Slot} {L : Row} (h : x ∈ L) : ∃ L', L.Perm (x :: L') := by
  obtain ⟨A, B, rfl⟩ := List.append_of_mem h
  exact ⟨A ++ B, List.perm_middle⟩
theorem zS_map (vs : List V) (ds : List PyData) : zS vs (ds.map .p) = zP vs ds := rfl
theorem Good.elems {K : PySem.W.Frag} {A : Row} (g : Good K H R (zP vs ds ++ L)) : ∀ A : Row, (∀ x ∈ A, x ∈ zP vs ds) → Good K H R (A ++ (zP vs ds ++ L)) := by
  intro A
  induction A with
  | nil => intro _; exact g
  | cons x A ih =>
    intro h
    have h1 := ih fun y hy => h y (List.mem_cons_of_mem _ hy)
    obtain ⟨v, d, e⟩ : ∃ (v : Option V) (d : PyData), x = (v, .p d) := by
      have hx := h x List.mem_cons_self
      obtain ⟨i, hi⟩ := List.getElem?_of_mem hx
      have := List.getElem?_zip_eq_some.mp hi
      have h2 := this.2
      rw [List.getElem?_map] at h2
      obtain ⟨d, _, e⟩ := Option.map_eq_some_iff.mp h2
      exact ⟨x.1, d, by rw [e]⟩
    subst e
    exact h1.copy (List.mem_append_right _ (List.mem_append_left _ (h _ List.mem_cons_self)))
/-- the row with its list's items laid beside -/
theorem Good.view {K : PySem.W.Frag} (g : Good K H R L) (hm : (some x, s) ∈ L) (hd : s.dat = some d) (hk : d = .tuple ds ∨ d = .list ds) :
    ∃ a vs, x = .ref a ∧ (d = .tuple ds → SqT K H a vs) ∧ (d = .list ds → SqL K H a vs) ∧ vs.length = ds.length ∧ Good K H R (zP vs ds ++ L) := by
  cases s with
  | un => cases hd
  | m _ => cases hd
  | t _ => cases hd
  | p d' =>
    cases hd
    obtain ⟨a, vs, e, h1, h2, h3, h4⟩ := g.items hm hk
    cases e
    exact ⟨a, vs, rfl, h1, h2, h3, h4⟩
  | l xs =>
    obtain ⟨es, h1, h2⟩ := Option.map_eq_some_iff.mp (show (allP xs).map PyData.list = some d from hd)
    subst h2
    rcases hk with hk | hk
    · cases hk
    · cases hk
      have hx := allP_eq h1
      subst hx
      obtain ⟨L', p⟩ := mem_perm hm
      obtain ⟨a, vs, e, ha, len, g2⟩ := (g.perm p).open_
      cases e
      rw [List.length_map] at len
      rw [zS_map] at g2
      refine ⟨a, vs, rfl, fun z => (nomatch z), fun _ => SqL.of ha, len, ?_⟩
      -- lay the items twice, close one
      have g3 := Good.elems (A := zP vs ds) g2 (zP vs ds) (fun _ h => h)
      have g4 : Good K H (a :: R) (zS vs (ds.map .p) ++ (zP vs ds ++ L')) := g3
      have g5 := g4.close ha (by rw [List.length_map]; exact len)
      refine g5.perm ?_
      exact (List.perm_middle.symm).trans (List.Perm.append_left _ p.symm)
theorem Good.datDp {K : PySem.W.Frag} (g : Good K H R L) (hm : (some x, s) ∈ L) (hd : s.dat = some d) : Dp K H x d := by
  cases s with
  | un => cases hd
  | m _ => cases hd
  | t _ => cases hd
  | p d' =>
    cases hd
    obtain ⟨v, e, h⟩ := g.dp hm
    cases e
    exact h
  | l xs =>
    obtain ⟨es, h1, h2⟩ := Option.map_eq_some_iff.mp (show (allP xs).map PyData.list = some d from hd)
    subst h2
    obtain ⟨a, vs, rfl, _, hl, len, g2⟩ := g.view (ds := es) hm hd (.inr rfl)
    exact .lst (hl rfl) (g2.dpAll len)
end

/-! ### operations -/
def ofO (o : Option Slot) : ExM := fun env => o.map fun s => (.ok (.val s), env)
/-- two-place operations -/
def OpG (ki : Ki) (r : R2) (g : PyData → PyData → Option Slot) : Prop := ∀ (H : Hp) (L : Row) (x y : V) (sx sy : Slot) (d e : PyData) (s : Slot), G ki H L → (some x, sx) ∈ L → sx.dat = some d → (some y, sy) ∈ L → sy.dat = some e → g d e = some s →
  ∀ Q : VK, (∀ v H', G ki H' ((some v, s) :: L) → Q v H') → r x y H Q
def mOp (g : PyData → PyData → Option Slot) (ma mb : ExM) : ExM := bnd ma fun o1 => bnd mb fun o2 => bnd (look o1) fun d => bnd (look o2) fun e => ofO (g d e)
theorem look_inv {α : Type} {o : Opd} {k : PyData → Mir α} {env env' : Env} {r : Res α} (h : bnd (look o) k env = some (r, env')) : ∃ d, (o.get env).dat = some d ∧ k d env = some (r, env') := by
  unfold bnd look at h
  cases q : (o.get env).dat with
  | none => rw [q] at h; cases h
  | some d => rw [q] at h; exact ⟨d, rfl, h⟩
theorem ofO_inv {o : Option Slot} {env env' : Env} {r : Res Opd} (h : ofO o env = some (r, env')) : ∃ s, o = some s ∧ r = .ok (.val s) ∧ env' = env := by
  obtain ⟨s, h1, h2⟩ := Option.map_eq_some_iff.mp (show o.map _ = some (r, env') from h)
  cases h2
  exact ⟨s, h1, rfl, rfl⟩
/-- the new thing goes to its place, what waited goes -/
theorem settle {ki : Ki} {H : Hp} {A E T : Row} {x : Option V × Slot} (g : G ki H (x :: (A ++ (E ++ T)))) : G ki H (A ++ x :: T) := by
  have g1 : G ki H ((x :: A) ++ (E ++ T)) := g
  have g2 := dropMid g1
  exact g2.perm (List.perm_middle.symm)
section
variable {ki : Ki} {W : WX} {ta tb te : TE} {tas : TA} {ma mb : ExM} {ms : Mir (List Opd)}
theorem rd_op {r : R2} {g : PyData → PyData → Option Slot} (h : OpG ki r g) (ha : Rd ki W ta ma) (hb : Rd ki W tb mb) : Rd ki W (tOp r ta tb) (mOp g ma mb) := fun σ H env T r' env' hl gd e Q post => by
  refine ha.use (E := []) hl gd e post fun o1 v1 H1 env1 n1 g1 i1 e => ?_
  refine hb.use (E := [(some v1, o1.slot)]) (hl.trans n1.symm) g1 e (by rw [n1]; exact post) fun o2 v2 H2 env2 n2 g2 i2 e => ?_
  obtain ⟨d1, q1, e⟩ := look_inv e
  obtain ⟨d2, q2, e⟩ := look_inv e
  obtain ⟨s, hs, rfl, rfl⟩ := ofO_inv e
  refine h H2 _ v1 v2 _ _ d1 d2 s g2 (Opd.memD (A := [(some v2, o2.slot)]) i1 q1) q1 (Opd.memD (A := []) i2 q2) q2 hs Q fun v H' g3 => ?_
  exact post v H' (n2.trans n1) (settle (E := [(some v2, o2.slot), (some v1, o1.slot)]) g3) trivial
/-- one-place operations, attributes .. -/
def UnG (ki : Ki) (r : V → Hp → VK → Prop) (g : PyData → Option Slot) : Prop := ∀ (H : Hp) (L : Row) (x : V) (sx : Slot) (d : PyData) (s : Slot), G ki H L → (some x, sx) ∈ L → sx.dat = some d → g d = some s →
  ∀ Q : VK, (∀ v H', G ki H' ((some v, s) :: L) → Q v H') → r x H Q
def mUn (g : PyData → Option Slot) (ma : ExM) : ExM := bnd ma fun o1 => bnd (look o1) fun d => ofO (g d)
theorem rd_un {r : V → Hp → VK → Prop} {g : PyData → Option Slot} (h : UnG ki r g) (ha : Rd ki W ta ma) : Rd ki W (tUn r ta) (mUn g ma) := fun σ H env T r' env' hl gd e Q post => by
  refine ha.use (E := []) hl gd e post fun o1 v1 H1 env1 n1 g1 i1 e => ?_
  obtain ⟨d1, q1, e⟩ := look_inv e
  obtain ⟨s, hs, rfl, rfl⟩ := ofO_inv e
  refine h H1 _ v1 _ d1 s g1 (Opd.memD (A := []) i1 q1) q1 hs Q fun v H' g3 => ?_
  exact post v H' n1 (settle (E := [(some v1, o1.slot)]) g3) trivial
/-- calls of built-ins -/
def lookAll : List Opd → Mir (List PyData)
  | [] => ret []
  | o :: os => bnd (look o) fun d => bnd (lookAll os) fun ds => ret (d :: ds)
inductive Args (L : Row) : List V → List PyData → Prop
  | nil : Args L [] []
  | cons {v : V} {s : Slot} {d : PyData} {vs : List V} {ds : List PyData} : (some v, s) ∈ L → s.dat = some d → Args L vs ds → Args L (v :: vs) (d :: ds)
theorem Args.sub {L L' : Row} (h : ∀ x ∈ L, x ∈ L') : ∀ {vs : List V} {ds : List PyData}, Args L vs ds → Args L' vs ds
  | _, _, .nil => .nil
  | _, _, .cons a b c => .cons (h _ a) b (Args.sub h c)
def CallG (ki : Ki) (r : List V → Hp → VK → Prop) (g : List PyData → Option Slot) : Prop := ∀ (H : Hp) (L : Row) (vs : List V) (ds : List PyData) (s : Slot), G ki H L → Args L vs ds → g ds = some s →
  ∀ Q : VK, (∀ v H', G ki H' ((some v, s) :: L) → Q v H') → r vs H Q
def mCall (g : List PyData → Option Slot) (ms : Mir (List Opd)) : ExM := bnd ms fun os => bnd (lookAll os) fun ds => ofO (g ds)
theorem lookAll_inv {α : Type} {σ : L2.St} {env env' : Env} {B : Row} : ∀ {os : List Opd} {k : List PyData → Mir α} {r : Res α} {vs : List V}, bnd (lookAll os) k env = some (r, env') → isAll σ vs os → ∃ ds, Args (zE σ env ++ (zO vs os ++ B)) vs ds ∧ k ds env = some (r, env')
  | [], k, r, [], h, _ => ⟨[], .nil, h⟩
  | o :: os, k, r, v :: vs, h, ⟨h1, h2⟩ => by
    have h' : bnd (look o) (fun d => bnd (lookAll os) fun ds => k (d :: ds)) env = some (r, env') := by
      have q : bnd (lookAll (o :: os)) k = bnd (look o) (fun d => bnd (lookAll os) fun ds => k (d :: ds)) := by
        show bnd (bnd (look o) fun d => bnd (lookAll os) fun ds => ret (d :: ds)) k = _
        simp only [bnd_assoc, bnd_ret]
      rw [← q]; exact h
    obtain ⟨d, q, h'⟩ := look_inv h'
    obtain ⟨ds, a, h''⟩ := lookAll_inv (B := B) h' h2
    refine ⟨d :: ds, .cons (Opd.memD (A := []) h1 q) q (a.sub fun x hx => ?_), h''⟩
    rcases List.mem_append.mp hx with hx | hx
    · exact List.mem_append_left _ hx
    · exact List.mem_append_right _ (List.mem_cons_of_mem _ hx)
  | [], _, _, _ :: _, _, h => h.elim
  | _ :: _, _, _, [], _, h => h.elim
theorem rd_call {r : List V → Hp → VK → Prop} {g : List PyData → Option Slot} (h : CallG ki r g) (ha : RdA ki W tas ms) : Rd ki W (tCB r tas) (mCall g ms) := fun σ H env T r' env' hl gd e Q post => by
  refine ha.use (E := []) hl gd e post fun os vs H1 env1 n1 g1 i1 e => ?_
  obtain ⟨ds, a, e⟩ := lookAll_inv (B := T) e i1
  obtain ⟨s, hs, rfl, rfl⟩ := ofO_inv e
  refine h H1 _ vs ds s g1 a hs Q fun v H' g3 => ?_
  exact post v H' n1 (settle (E := zO vs os) g3) trivial
/-- methods of built-in types, by data -/
def MtG (ki : Ki) (r : V → List V → Hp → VK → Prop) (ty : V → Hp → Prop) (g : PyData → List PyData → Option Slot) : Prop := ∀ (H : Hp) (L : Row) (x : V) (sx : Slot) (d : PyData) (vs : List V) (ds : List PyData) (s : Slot), G ki H L → (some x, sx) ∈ L → sx.dat = some d → Args L vs ds → g d ds = some s →
  ∀ Q : VK, (∀ v H', G ki H' ((some v, s) :: L) → Q v H') → r x vs H Q
end
end MM
/-! M2: names, constants, tests, displays, what is walked, comprehensions -/
namespace L2
open PySem PySem.Spec PyProof.Rows
/-- a new tuple, tracked as it is, or known to the object: as the reading wants -/
def hoT (k : Bool) (ob : Obj) (xs : List V) : HO := if k = true then .frz ob (.tup xs) else .tup xs
section
variable {X : Cx} {es : List Expr} {t : TA} {pos : Pos}
def tTupC (t : TA) : TE := fun σ H Q => t σ H fun xs H1 => xs.length ≤ sizeLine ∧ ∀ p, H1 p = none → ∃ k : Bool, ∀ ob : Obj, ob.dict = none → Q (.ref p) (upd H1 p (hoT k ob xs))
theorem okT {P : Program} {w : World} {H : Hp} {h : Heap} {a : Addr} {ob : Obj} {xs : List V} (k : Bool) (e : h.get? a = some ob) (o : ObjOk P w H h a (.tup xs)) : ObjOk P w H h a (hoT k ob xs) := by
  cases k with
  | true => exact ⟨e, o⟩
  | false => exact o
theorem pe_tupC {x1} (h : PA X es t) : PE X (.Tuple es x1 pos) (tTupC t) := by
  refine ⟨fun pins s σ H Q I hq => ?_⟩
  refine wpAny_Tuple_spliced (thn (h.run pos pins s σ H _ I hq) fun us s1 ⟨xs, H1, I1, r, z, q⟩ => ⟨by rw [← r.length]; exact z, ?_⟩)
  have hf : H1 s1.heap.objs.size = none := I1.hok.fresh (Nat.le_refl _)
  obtain ⟨k, q⟩ := q _ hf
  refine ⟨.ref s1.heap.objs.size, upd H1 s1.heap.objs.size (hoT k _ xs), I1.laid (t' := s1.toks) (fun b u e => Heap.get?_push_of_some _ e) (Nat.le_refl _) (okT k (Heap.get?_push_size _ rfl) ?_), rfl, q _ rfl⟩
  exact ⟨z, us, r, ⟨_, Heap.get?_push_size _ rfl, rfl, _, rfl⟩⟩
end
end L2
namespace MM
open PySem PySem.Spec L2
theorem hoT_ok {ds : List PyData} {vs : List V} {ob : Obj} (h : ob.dict = none) : TupHO ds vs (hoT (rowB ds) ob vs) := by
  cases q : rowB ds with
  | true => exact .inl ⟨q, ob, rfl, h⟩
  | false => exact .inr ⟨q, rfl⟩

section
variable {ki : Ki} {W : WX} {ta tb te : TE} {tt tu : TT} {tas : TA} {ma mb : ExM} {mt mu : Mir Bool} {ms : Mir (List Opd)}
theorem lenGet {σ : L2.St} {env : Env} {i : Nat} {s : Slot} (hl : σ.length = env.length) (h : env[i]? = some s) : ∃ o, σ[i]? = some o := by
  have : i < env.length := (List.getElem?_eq_some_iff.mp h).1
  exact ⟨σ[i]'(by omega), List.getElem?_eq_getElem (by omega)⟩
theorem Good.owned {K : PySem.W.Frag} {H : Hp} {R : List Addr} {L : Row} {o : Option V} {s : Slot} (g : Good K H R L) (h : (o, s) ∈ L) (hs : s ≠ .un) : ∃ v, o = some v := by
  obtain ⟨L', p⟩ := mem_perm h
  cases s with
  | un => exact absurd rfl hs
  | p d => obtain ⟨v, e, _⟩ := g.dp h; exact ⟨v, e⟩
  | l xs => obtain ⟨a, vs, e, _⟩ := (g.perm p).open_; exact ⟨_, e⟩
  | m ks => obtain ⟨a, vs, e, _⟩ := (g.perm p).openM; exact ⟨_, e⟩
  | t ks => obtain ⟨a, vs, e, _⟩ := g.openT h; exact ⟨_, e⟩
/-- a thing goes on top -/
theorem toTop {ki : Ki} {H : Hp} {A T : Row} {x : Option V × Slot} (g : G ki H (x :: (A ++ T))) : G ki H (A ++ x :: T) := g.perm List.perm_middle.symm
/-- a name -/
def mVar (i : Nat) : ExM := fun env => match env[i]? with
  | some (.p d) => some (.ok (.val (.p d)), env)
  | some (.l _) => some (.ok (.ref i), env)
  | some (.m _) => some (.ok (.ref i), env)
  | _ => none
theorem rd_var {i : Nat} : Rd ki W (tVar i) (mVar i) := fun σ H env T r env' hl g e Q post => by
  unfold mVar at e
  cases q : env[i]? with
  | none => rw [q] at e; cases e
  | some s =>
    obtain ⟨o, ho⟩ := lenGet hl q
    have hm : (o, s) ∈ zE σ env ++ T := List.mem_append_left _ (zE_mem ho q)
    rw [q] at e
    cases s with
    | un => cases e
    | p d =>
      cases e
      obtain ⟨v, rfl, _⟩ := g.dp hm
      exact ⟨v, ho, post v H rfl (toTop (g.copy hm)) trivial⟩
    | l xs =>
      cases e
      obtain ⟨v, rfl⟩ := g.owned hm (fun z => nomatch z)
      exact ⟨v, ho, post v H rfl (toTop g.pushUn) ho⟩
    | m xs =>
      cases e
      obtain ⟨v, rfl⟩ := g.owned hm (fun z => nomatch z)
      exact ⟨v, ho, post v H rfl (toTop g.pushUn) ho⟩
    | t xs => cases e
/-- a constant -/
def mC (d : PyData) : ExM := ret (.val (.p d))
theorem rd_c {v : V} {d : PyData} (h : ∀ F, Dq ki.K F v d) : Rd ki W (tC v) (mC d) := fun σ H env T r env' hl g e Q post => by
  cases e
  exact post v H rfl (toTop (g.push h)) trivial

/-! ### tests -/
def truD : PyData → Option Bool
  | .none => some false
  | .bool b => some b
  | .int i => some (i != 0)
  | .str x => if x.length ≤ 1000000 then some ((x.length : Int) != 0) else none
  | .list xs => some (!xs.isEmpty)
  | .tuple xs => some (!xs.isEmpty)
  | .dict _ => none
def ofT (o : Option Bool) : Mir Bool := fun env => o.map fun b => (.ok b, env)
theorem ofT_inv {o : Option Bool} {env env' : Env} {r : Res Bool} (h : ofT o env = some (r, env')) : ∃ s, o = some s ∧ r = .ok s ∧ env' = env := by
  obtain ⟨s, h1, h2⟩ := Option.map_eq_some_iff.mp (show o.map _ = some (r, env') from h)
  cases h2
  exact ⟨s, h1, rfl, rfl⟩
theorem ofT_invK {α : Type} {o : Option Bool} {k : Bool → Mir α} {env env' : Env} {r : Res α} (h : bnd (ofT o) k env = some (r, env')) : ∃ s, o = some s ∧ k s env = some (r, env') := by
  unfold bnd ofT at h
  cases o with
  | none => cases h
  | some b => exact ⟨b, rfl, h⟩
theorem big_le {n : Nat} (h : n ≤ 1000000) : n ≤ sizeLine := Nat.le_trans h (by decide)
theorem tru_dp {K : PySem.W.Frag} {H : Hp} {v : V} {d : PyData} {b : Bool} (h : Dp K H v d) (e : truD d = some b) : TruV K v H b := by
  cases h with
  | non => cases e; rfl
  | bl b => cases e; rfl
  | int i => cases e; rfl
  | str x =>
    have e : (if x.length ≤ 1000000 then some ((x.length : Int) != 0) else none) = some b := e
    by_cases hz : x.length ≤ 1000000
    · rw [if_pos hz] at e
      cases e
      exact ⟨big_le hz, rfl⟩
    · rw [if_neg hz] at e; cases e
  | @lst a xs ds hq ha =>
    cases e
    refine .inl ⟨xs, hq, ?_⟩
    cases ha <;> rfl
  | @tup a xs ds hq ha =>
    cases e
    refine .inr (.inl ⟨xs, hq, ?_⟩)
    cases ha <;> rfl
def mTruth (ma : ExM) : Mir Bool := bnd ma fun o => bnd (look o) fun d => ofT (truD d)
abbrev tTru (K : PySem.W.Frag) (ta : TE) : TT := fun σ H Q => ta σ H fun x H' => ∃ k, TruV K x H' k ∧ Q k H'
theorem dropTop {ki : Ki} {H : Hp} {A T : Row} {x : Option V × Slot} (g : G ki H (A ++ x :: T)) : G ki H (A ++ T) := dropMid (E := [x]) g
theorem rdt_truth (ha : Rd ki W ta ma) : RdT ki W (tTru ki.K ta) (mTruth ma) := fun σ H env T r env' hl g e Q post => by
  refine ha.useT (E := []) hl g e post fun o1 v1 H1 env1 n1 g1 i1 e => ?_
  obtain ⟨d1, q1, e⟩ := look_inv e
  obtain ⟨b, hb, rfl, rfl⟩ := ofT_inv e
  exact ⟨b, tru_dp (g1.datDp (Opd.memD (A := []) i1 q1) q1) hb, post H1 n1 (dropTop g1)⟩
/-- a comparison as a test: its value is a bool -/
def boD : PyData → Option Bool
  | .bool b => some b
  | _ => none
def mTest (ma : ExM) : Mir Bool := bnd ma fun o => bnd (look o) fun d => ofT (boD d)
theorem bo_dp {K : PySem.W.Frag} {H : Hp} {v : V} {d : PyData} {b : Bool} (h : Dp K H v d) (e : boD d = some b) : v = .bl b := by
  cases h <;> first | (cases e; rfl) | cases e
theorem rdt_test (ha : Rd ki W ta ma) : RdT ki W (tTest ta) (mTest ma) := fun σ H env T r env' hl g e Q post => by
  refine ha.useT (E := []) hl g e post fun o1 v1 H1 env1 n1 g1 i1 e => ?_
  obtain ⟨d1, q1, e⟩ := look_inv e
  obtain ⟨b, hb, rfl, rfl⟩ := ofT_inv e
  exact ⟨b, bo_dp (g1.datDp (Opd.memD (A := []) i1 q1) q1) hb, post H1 n1 (dropTop g1)⟩
def mAndT (mt mu : Mir Bool) : Mir Bool := bnd mt fun b => if b = true then mu else ret false
def mOrT (mt mu : Mir Bool) : Mir Bool := bnd mt fun b => if b = true then ret true else mu
def mNotT (mt : Mir Bool) : Mir Bool := bnd mt fun b => ret (!b)
theorem rdt_and (h1 : RdT ki W tt mt) (h2 : RdT ki W tu mu) : RdT ki W (tAnd tt tu) (mAndT mt mu) := fun σ H env T r env' hl g e Q post => by
  refine h1.useT (E := []) hl g e post fun b H1 env1 n1 g1 e => ?_
  cases b with
  | true => exact h2 σ H1 env1 T r env' (hl.trans n1.symm) g1 e Q (by rw [n1]; exact post)
  | false => cases e; exact post H1 n1 g1
theorem rdt_or (h1 : RdT ki W tt mt) (h2 : RdT ki W tu mu) : RdT ki W (tOr tt tu) (mOrT mt mu) := fun σ H env T r env' hl g e Q post => by
  refine h1.useT (E := []) hl g e post fun b H1 env1 n1 g1 e => ?_
  cases b with
  | false => exact h2 σ H1 env1 T r env' (hl.trans n1.symm) g1 e Q (by rw [n1]; exact post)
  | true => cases e; exact post H1 n1 g1
theorem rdt_not (h1 : RdT ki W tt mt) : RdT ki W (tNot tt) (mNotT mt) := fun σ H env T r env' hl g e Q post => by
  refine h1.useT (E := []) hl g e post fun b H1 env1 n1 g1 e => ?_
  cases e
  exact post H1 n1 g1
/-- values by truth -/
def mAnd (ma mb : ExM) : ExM := bnd ma fun o => bnd (look o) fun d => bnd (ofT (truD d)) fun b => if b = true then mb else ret o
def mOr (ma mb : ExM) : ExM := bnd ma fun o => bnd (look o) fun d => bnd (ofT (truD d)) fun b => if b = true then ret o else mb
def mNot (ma : ExM) : ExM := bnd ma fun o => bnd (look o) fun d => bnd (ofT (truD d)) fun b => ret (.val (.p (.bool (!b))))
theorem rd_and (ha : Rd ki W ta ma) (hb : Rd ki W tb mb) : Rd ki W (tAndT ki.K ta tb) (mAnd ma mb) := fun σ H env T r env' hl g e Q post => by
  refine ha.use (E := []) hl g e post fun o1 v1 H1 env1 n1 g1 i1 e => ?_
  obtain ⟨d1, q1, e⟩ := look_inv e
  obtain ⟨b, hb1, e⟩ := ofT_invK e
  refine ⟨b, tru_dp (g1.datDp (Opd.memD (A := []) i1 q1) q1) hb1, ?_⟩
  cases b with
  | true => exact hb σ H1 env1 T r env' (hl.trans n1.symm) (dropTop g1) e Q (by rw [n1]; exact post)
  | false => cases e; exact post v1 H1 n1 g1 i1
theorem rd_or (ha : Rd ki W ta ma) (hb : Rd ki W tb mb) : Rd ki W (tOrT ki.K ta tb) (mOr ma mb) := fun σ H env T r env' hl g e Q post => by
  refine ha.use (E := []) hl g e post fun o1 v1 H1 env1 n1 g1 i1 e => ?_
  obtain ⟨d1, q1, e⟩ := look_inv e
  obtain ⟨b, hb1, e⟩ := ofT_invK e
  refine ⟨b, tru_dp (g1.datDp (Opd.memD (A := []) i1 q1) q1) hb1, ?_⟩
  cases b with
  | false => exact hb σ H1 env1 T r env' (hl.trans n1.symm) (dropTop g1) e Q (by rw [n1]; exact post)
  | true => cases e; exact post v1 H1 n1 g1 i1
theorem rd_not (ha : Rd ki W ta ma) : Rd ki W (tNotT ki.K ta) (mNot ma) := fun σ H env T r env' hl g e Q post => by
  refine ha.use (E := []) hl g e post fun o1 v1 H1 env1 n1 g1 i1 e => ?_
  obtain ⟨d1, q1, e⟩ := look_inv e
  obtain ⟨b, hb1, e⟩ := ofT_invK e
  refine ⟨b, tru_dp (g1.datDp (Opd.memD (A := []) i1 q1) q1) hb1, ?_⟩
  cases e
  exact post _ H1 n1 (toTop ((dropTop g1).push fun F => .bl _)) trivial
def mIf (mt : Mir Bool) (ma mb : ExM) : ExM := bnd mt fun b => if b = true then ma else mb
theorem rd_if (ht : RdT ki W tt mt) (ha : Rd ki W ta ma) (hb : Rd ki W tb mb) : Rd ki W (tIf tt ta tb) (mIf mt ma mb) := fun σ H env T r env' hl g e Q post => by
  refine ht.use (E := []) hl g e post fun b H1 env1 n1 g1 e => ?_
  cases b with
  | true => exact ha σ H1 env1 T r env' (hl.trans n1.symm) g1 e Q (by rw [n1]; exact post)
  | false => exact hb σ H1 env1 T r env' (hl.trans n1.symm) g1 e Q (by rw [n1]; exact post)
/-- a op b op' c -/
def mChain (g g' : PyData → PyData → Option Slot) (ma mb mc : ExM) : ExM := bnd ma fun o1 => bnd mb fun o2 => bnd (look o1) fun d => bnd (look o2) fun e => bnd (ofT ((g d e).bind fun s => s.dat.bind boD)) fun b =>
  if b = true then bnd mc fun o3 => bnd (look o2) fun e => bnd (look o3) fun f => ofO (g' e f) else ret (.val (.p (.bool false)))
theorem rd_chain {r r' : R2} {tc : TE} {mc : ExM} {g g' : PyData → PyData → Option Slot} (h : OpG ki r g) (h' : OpG ki r' g') (ha : Rd ki W ta ma) (hb : Rd ki W tb mb) (hc : Rd ki W tc mc) : Rd ki W (tChain r r' ta tb tc) (mChain g g' ma mb mc) := fun σ H env T rr env' hl gd e Q post => by
  refine ha.use (E := []) hl gd e post fun o1 v1 H1 env1 n1 g1 i1 e => ?_
  refine hb.use (E := [(some v1, o1.slot)]) (hl.trans n1.symm) g1 e (by rw [n1]; exact post) fun o2 v2 H2 env2 n2 g2 i2 e => ?_
  obtain ⟨d1, q1, e⟩ := look_inv e
  obtain ⟨d2, q2, e⟩ := look_inv e
  obtain ⟨b, hb1, e⟩ := ofT_invK e
  obtain ⟨s, hs, hs2⟩ := Option.bind_eq_some_iff.mp hb1
  obtain ⟨ds, hs3, hs4⟩ := Option.bind_eq_some_iff.mp hs2
  refine h H2 _ v1 v2 _ _ d1 d2 s g2 (Opd.memD (A := [(some v2, o2.slot)]) i1 q1) q1 (Opd.memD (A := []) i2 q2) q2 hs _ fun v H' g3 => ?_
  have hv : v = .bl b := bo_dp (g3.datDp List.mem_cons_self hs3) hs4
  refine ⟨b, hv, ?_⟩
  have g4 : G ki H' (zE σ env2 ++ ((some v2, o2.slot) :: (some v1, o1.slot) :: T)) := g3.drop
  cases b with
  | true =>
    rw [if_pos rfl]
    rw [if_pos rfl] at e
    refine hc.use (E := [(some v2, o2.slot), (some v1, o1.slot)]) (hl.trans (n2.trans n1).symm) g4 e (by rw [n2, n1]; exact post) fun o3 v3 H3 env3 n3 g5 i3 e => ?_
    obtain ⟨d3, q3, e⟩ := look_inv e
    obtain ⟨d4, q4, e⟩ := look_inv e
    obtain ⟨s2, hs2, rfl, rfl⟩ := ofO_inv e
    refine h' H3 _ v2 v3 _ _ d3 d4 s2 g5 (Opd.memD (A := [(some v3, o3.slot)]) i2 q3) q3 (Opd.memD (A := []) i3 q4) q4 hs2 Q fun v H' g6 => ?_
    exact post v H' (n3.trans (n2.trans n1)) (settle (E := [(some v3, o3.slot), (some v2, o2.slot), (some v1, o1.slot)]) g6) trivial
  | false =>
    rw [if_neg Bool.false_ne_true]
    cases e
    exact post _ H' (n2.trans n1) (toTop ((dropMid (E := [(some v2, o2.slot), (some v1, o1.slot)]) g4).push fun F => .bl _)) trivial
end

/-! ### displays -/
/-- its own data, to be laid into something -/
def Opd.own : Opd → Option PyData
  | .val s => s.dat
  | .ref _ => none
def ownAll : List Opd → Option (List PyData)
  | [] => some []
  | o :: os => o.own.bind fun d => (ownAll os).map (d :: ·)
section
variable {ki : Ki} {W : WX} {H : Hp} {R : List Addr}
theorem Good.frz {K : PySem.W.Frag} {L : Row} {v : V} {s : Slot} {d : PyData} (g : Good K H R ((some v, s) :: L)) (h : s.dat = some d) : Good K H R ((some v, .p d) :: L) := by
  cases s with
  | un => cases h
  | m _ => cases h
  | t _ => cases h
  | p d' => cases h; exact g
  | l xs =>
    obtain ⟨es, h1, h2⟩ := Option.map_eq_some_iff.mp (show (allP xs).map PyData.list = some d from h)
    subst h2
    have hx := allP_eq h1
    subst hx
    obtain ⟨a, vs, e, ha, len, g2⟩ := g.open_
    cases e
    exact Good.freeze g2 ha (by rw [len, List.length_map])
theorem frzAll {K : PySem.W.Frag} {σ : L2.St} : ∀ {os : List Opd} {vs : List V} {ds : List PyData} {L : Row}, isAll σ vs os → ownAll os = some ds → Good K H R (zO vs os ++ L) → Good K H R (zP vs ds ++ L) ∧ vs.length = ds.length
  | [], [], ds, L, _, h, g => by cases h; exact ⟨g, rfl⟩
  | o :: os, v :: vs, ds, L, ⟨h1, h2⟩, h, g => by
    obtain ⟨d, q1, q2⟩ := Option.bind_eq_some_iff.mp (show o.own.bind _ = some ds from h)
    obtain ⟨es, q3, rfl⟩ := Option.map_eq_some_iff.mp q2
    cases o with
    | ref i => cases q1
    | val s =>
      have g1 : Good K H R ((some v, s) :: (zO vs os ++ L)) := g
      have g2 := g1.frz q1
      have g3 : Good K H R (zO vs os ++ ((some v, .p d) :: L)) := g2.perm List.perm_middle.symm
      obtain ⟨g4, len⟩ := frzAll h2 q3 g3
      exact ⟨g4.perm List.perm_middle, by rw [List.length_cons, List.length_cons, len]⟩
  | [], _ :: _, _, _, h, _, _ => h.elim
  | _ :: _, [], _, _, h, _, _ => h.elim
/-- parts to the front -/
theorem front {K : PySem.W.Frag} {A B T : Row} (g : Good K H R (A ++ (B ++ T))) : Good K H R (B ++ (A ++ T)) := by
  refine g.perm ?_
  rw [← List.append_assoc, ← List.append_assoc]
  exact List.Perm.append_right _ List.perm_append_comm
variable {tas : TA} {ms : Mir (List Opd)}
def ownM (os : List Opd) : Mir (List PyData) := fun env => if os.length ≤ 1000 then (ownAll os).map fun ds => (.ok ds, env) else none
theorem ownM_inv {α : Type} {os : List Opd} {k : List PyData → Mir α} {env env' : Env} {r : Res α} (h : bnd (ownM os) k env = some (r, env')) : ∃ ds, ownAll os = some ds ∧ os.length ≤ 1000 ∧ k ds env = some (r, env') := by
  unfold bnd ownM at h
  by_cases hz : os.length ≤ 1000
  · rw [if_pos hz] at h
    cases q : ownAll os with
    | none => rw [q] at h; cases h
    | some ds => rw [q] at h; exact ⟨ds, rfl, hz, h⟩
  · rw [if_neg hz] at h; cases h
theorem ownAll_len : ∀ {os : List Opd} {ds : List PyData}, ownAll os = some ds → ds.length = os.length
  | [], ds, h => by cases h; rfl
  | o :: os, ds, h => by
    obtain ⟨d, q1, q2⟩ := Option.bind_eq_some_iff.mp (show o.own.bind _ = some ds from h)
    obtain ⟨es, q3, rfl⟩ := Option.map_eq_some_iff.mp q2
    rw [List.length_cons, List.length_cons, ownAll_len q3]
def mTup (ms : Mir (List Opd)) : ExM := bnd ms fun os => bnd (ownM os) fun ds => ret (.val (.p (.tuple ds)))
theorem rd_tup (h : RdA ki W tas ms) : Rd ki W (tTupC tas) (mTup ms) := fun σ H env T r env' hl g e Q post => by
  refine h.use (E := []) hl g e post fun os vs H1 env1 n1 g1 i1 e => ?_
  obtain ⟨ds, q1, hz, e⟩ := ownM_inv e
  cases e
  obtain ⟨g2, len⟩ := frzAll i1 q1 (front g1)
  have := ownAll_len q1
  refine ⟨big_le (by omega), fun p np => ⟨rowB ds, fun ob hob => post _ _ n1 (toTop (g2.newTup np len (hoT_ok hob))) trivial⟩⟩
def mLst (ms : Mir (List Opd)) : ExM := bnd ms fun os => bnd (ownM os) fun ds => ret (.val (.l (ds.map .p)))
theorem Good.newList {K : PySem.W.Frag} {L : Row} {p : Addr} {vs : List V} {ds : List PyData} (g : Good K H R (zP vs ds ++ L)) (hp : H p = none) (len : vs.length = ds.length) : Good K (upd H p (.lst vs)) R ((some (.ref p), .l (ds.map .p)) :: L) := by
  have g1 := g.reserve (u := .lst vs) hp
  exact Good.close (xs := ds.map .p) g1 upd_same (by rw [List.length_map]; exact len)
theorem rd_lst (h : RdA ki W tas ms) : Rd ki W (tLst tas) (mLst ms) := fun σ H env T r env' hl g e Q post => by
  refine h.use (E := []) hl g e post fun os vs H1 env1 n1 g1 i1 e => ?_
  obtain ⟨ds, q1, hz, e⟩ := ownM_inv e
  cases e
  obtain ⟨g2, len⟩ := frzAll i1 q1 (front g1)
  have := ownAll_len q1
  refine ⟨big_le (by omega), fun p np => post _ _ n1 (toTop (g2.newList np len)) trivial⟩
end
end MM
/-! M3: targets, what is walked, comprehensions -/
namespace L2
open PySem PySem.Spec PyProof.Rows
section
variable {X : Cx} {tg : Expr}
/-- a list, a tuple, a text: whichever stands there -/
def iSeq (K : PySem.W.Frag) (tl : TE) : TI := fun σ H R => tl σ H fun x H1 => (∃ a, x = .ref a ∧ (∃ xs, SqL K H1 a xs) ∧ R (Itl K a) H1) ∨ (∃ a, x = .ref a ∧ (∃ xs, SqT K H1 a xs) ∧ R (Itt K a) H1) ∨ ∃ z, x = .str z ∧ R (Its z) H1
theorem pi_seq {l : Expr} {tl : TE} (hl : PE X l tl) : PI X tg l (iSeq X.K tl) := by
  refine ⟨fun pins s σ H R I h => ?_⟩
  refine thn (hl.run pins s σ H _ I h) fun v s1 ⟨x, H1, I1, r1, q1⟩ => ?_
  rcases q1 with ⟨a, e, ⟨xs, hq⟩, q⟩ | ⟨a, e, ⟨xs, hq⟩, q⟩ | ⟨z, e, q⟩
  · subst e
    cases r1
    obtain ⟨its, rv, p, hz⟩ := I1.list hq
    refine wpAny_pyIter_list p.isList ?_
    refine ⟨s1.heap.objs.size, [s1.heap.objs.size], _, _, H1, rfl, I1.kept (t' := s1.toks) fun b o e => Heap.get?_push_of_some _ e, turn_list a _, ⟨_, Heap.get?_push_size _ rfl, rfl, rfl⟩, fun b hb => ?_, q⟩
    have e : b = s1.heap.objs.size := by simpa using hb
    subst e
    exact I1.fpOk (Nat.le_refl _) (I1.hok.fresh (Nat.le_refl _))
  · subst e
    cases r1
    obtain ⟨its, rv, p, hz⟩ := I1.tuple hq
    refine wpAny_pyIter_tuple (show s1.heap.IsTuple a its.toArray from p) ?_
    refine ⟨s1.heap.objs.size, [s1.heap.objs.size], _, _, H1, rfl, I1.kept (t' := s1.toks) fun b o e => Heap.get?_push_of_some _ e, turn_tuple a _, ⟨_, Heap.get?_push_size _ rfl, rfl, rfl⟩, fun b hb => ?_, q⟩
    have e : b = s1.heap.objs.size := by simpa using hb
    subst e
    exact I1.fpOk (Nat.le_refl _) (I1.hok.fresh (Nat.le_refl _))
  · subst e
    obtain ⟨t, rfl⟩ := r1
    cases ha : z.cps.all (· < 128)
    · exact wpAny_pyIter_wide ha (pi_one (tk := s1.toks) I1 _ (turn_str _ z t "str_iterator" (.inr rfl)) ⟨_, Heap.get?_push_size _ rfl, rfl, rfl⟩ q)
    · exact wpAny_pyIter_ascii ha (pi_one (tk := s1.toks) I1 _ (turn_str _ z t "str_ascii_iterator" (.inl rfl)) ⟨_, Heap.get?_push_size _ rfl, rfl, rfl⟩ q)
end
end L2
namespace MM
open PySem PySem.Spec L2

/-! ### targets -/
abbrev TgM := Slot → Env → Option Env
def RdG (ki : Ki) (g : TG) (ws : List Nat) (m : TgM) : Prop := ∀ (σ : L2.St) (H : Hp) (env env' : Env) (v : V) (s : Slot) (T : Row), σ.length = env.length → G ki H (zE σ env ++ (some v, s) :: T) → m s env = some env' →
  ∀ Q : L2.St → Hp → Prop, (∀ σ' H', σ'.length = σ.length → env'.length = env.length → (∀ j, j ∉ ws → σ'[j]? = σ[j]?) → G ki H' (zE σ' env' ++ T) → Q σ' H') → g v σ H Q
def RdGs (ki : Ki) (g : TGs) (ws : List Nat) (m : List PyData → Env → Option Env) : Prop := ∀ (σ : L2.St) (H : Hp) (env env' : Env) (vs : List V) (ds : List PyData) (T : Row), σ.length = env.length → vs.length = ds.length → G ki H (zE σ env ++ (zP vs ds ++ T)) → m ds env = some env' →
  ∀ Q : L2.St → Hp → Prop, (∀ σ' H', σ'.length = σ.length → env'.length = env.length → (∀ j, j ∉ ws → σ'[j]? = σ[j]?) → G ki H' (zE σ' env' ++ T) → Q σ' H') → g vs σ H Q
def gN (i : Nat) : TgM := fun s env => if i < env.length then some (env.set i s) else none
theorem zE_set {σ : L2.St} {env : Env} {i : Nat} {o : Option V} {s : Slot} (hl : σ.length = env.length) (hi : i < env.length) {T : Row} {K : PySem.W.Frag} {H : Hp} {R : List Addr} (g : Good K H R (zE σ env ++ (o, s) :: T)) : Good K H R (zE (σ.set i o) (env.set i s) ++ T) := by
  have hz : zE (σ.set i o) (env.set i s) = (zE σ env).set i (o, s) := by
    apply List.ext_getElem?
    intro j
    show (List.zip _ _)[j]? = ((List.zip σ env).set i (o, s))[j]?
    by_cases hj : i = j
    · subst hj
      rw [List.getElem?_set_self (by rw [List.length_zip]; omega), List.getElem?_zip_eq_some]
      exact ⟨List.getElem?_set_self (by omega), List.getElem?_set_self hi⟩
    · rw [List.getElem?_set_ne hj]
      simp only [List.zip, List.getElem?_zipWith]
      rw [List.getElem?_set_ne hj, List.getElem?_set_ne hj]
  rw [hz]
  have hi' : i < (zE σ env).length := by
    show i < (List.zip σ env).length
    rw [List.length_zip]; omega
  have p : (zE σ env ++ (o, s) :: T).Perm ((zE σ env)[i] :: ((zE σ env).set i (o, s) ++ T)) := by
    rw [List.set_eq_take_append_cons_drop, if_pos hi']
    have e : zE σ env = (zE σ env).take i ++ (zE σ env)[i] :: (zE σ env).drop (i + 1) := by
      rw [List.getElem_cons_drop, List.take_append_drop]
    refine (List.perm_middle).trans ?_
    refine ((List.Perm.append_right T (l₁ := zE σ env) (l₂ := (zE σ env)[i] :: ((zE σ env).take i ++ (zE σ env).drop (i + 1))) ?_).cons _).trans ?_
    · exact (List.Perm.of_eq e).trans List.perm_middle
    · refine (List.Perm.swap _ _ _).trans (List.Perm.cons _ ?_)
      show ((o, s) :: ((List.take i (zE σ env) ++ List.drop (i + 1) (zE σ env)) ++ T)).Perm _
      rw [List.append_assoc, List.append_assoc, List.cons_append]
      exact List.perm_middle.symm
  exact (g.perm p).drop
theorem rdg_name {ki : Ki} {i : Nat} : RdG ki (gName i) [i] (gN i) := fun σ H env env' v s T hl g e Q post => by
  unfold gN at e
  by_cases hi : i < env.length
  · rw [if_pos hi] at e
    cases e
    refine post _ H (by rw [List.length_set]) (by rw [List.length_set]) (fun j hj => ?_) (zE_set hl hi g)
    exact List.getElem?_set_ne fun z => hj (by rw [z]; exact List.mem_singleton.mpr rfl)
  · rw [if_neg hi] at e; cases e
/-- a name that holds plain things alone -/
def gNf (i : Nat) : TgM := fun s env => match s.dat with
  | some d => if i < env.length then some (env.set i (.p d)) else none
  | none => if i < env.length then some (env.set i s) else none
theorem rdg_nameF {ki : Ki} {i : Nat} : RdG ki (gName i) [i] (gNf i) := fun σ H env env' v s T hl g e Q post => by
  unfold gNf at e
  cases q : s.dat with
  | none => rw [q] at e; exact rdg_name σ H env env' v s T hl g e Q post
  | some d =>
    rw [q] at e
    have g1 : G ki H ((some v, s) :: (zE σ env ++ T)) := g.perm List.perm_middle
    exact rdg_name σ H env env' v (.p d) T hl (toTop (g1.frz q)) e Q post
def gsNil : List PyData → Env → Option Env := fun ds env => match ds with
  | [] => some env
  | _ => none
def gsCons (m : TgM) (ms : List PyData → Env → Option Env) : List PyData → Env → Option Env := fun ds env => match ds with
  | [] => none
  | d :: ds => (m (.p d) env).bind (ms ds)
theorem rdgs_nil {ki : Ki} : RdGs ki gNil [] gsNil := fun σ H env env' vs ds T hl hn g e Q post => by
  cases ds with
  | cons _ _ => cases e
  | nil =>
    cases e
    have : vs = [] := List.length_eq_zero_iff.mp hn
    subst this
    exact ⟨rfl, post σ H rfl rfl (fun _ _ => rfl) g⟩
theorem rdgs_cons {ki : Ki} {g : TG} {gs : TGs} {w ws : List Nat} {m : TgM} {ms : List PyData → Env → Option Env} (h1 : RdG ki g w m) (h2 : RdGs ki gs ws ms) : RdGs ki (gCons g gs) (w ++ ws) (gsCons m ms) := fun σ H env env' vs ds T hl hn gd e Q post => by
  cases ds with
  | nil => cases e
  | cons d ds =>
    cases vs with
    | nil => simp at hn
    | cons v vs =>
      obtain ⟨e1, q1, q2⟩ := Option.bind_eq_some_iff.mp (show (m (.p d) env).bind (ms ds) = some env' from e)
      refine ⟨v, vs, rfl, h1 σ H env e1 v (.p d) (zP vs ds ++ T) hl gd q1 _ fun σ1 H1 l1 l2 k1 g1 => ?_⟩
      refine h2 σ1 H1 e1 env' vs ds T (by omega) (by simpa using hn) g1 q2 Q fun σ2 H2 l3 l4 k2 g2 => post σ2 H2 (l3.trans l1) (l4.trans l2) (fun j hj => ?_) g2
      rw [k2 j (fun z => hj (List.mem_append_right _ z)), k1 j (fun z => hj (List.mem_append_left _ z))]
def gT (n : Nat) (ms : List PyData → Env → Option Env) : TgM := fun s env => match s with
  | .p (.tuple ds) => if ds.length = n then ms ds env else none
  | _ => none
theorem rdg_tup {ki : Ki} {gs : TGs} {ws : List Nat} {n : Nat} {ms : List PyData → Env → Option Env} (h : RdGs ki gs ws ms) : RdG ki (gTup ki.K n gs) ws (gT n ms) := fun σ H env env' v s T hl g e Q post => by
  cases s with
  | p d =>
    cases d with
    | tuple ds =>
      have e : (if ds.length = n then ms ds env else none) = some env' := e
      by_cases hn : ds.length = n
      · rw [if_pos hn] at e
        obtain ⟨a, vs, e1, h1, _, len, g2⟩ := g.items (o := some v) (d := .tuple ds) (List.mem_append_right _ List.mem_cons_self) (.inl rfl)
        cases e1
        refine ⟨a, vs, rfl, h1 rfl, len.trans hn, h σ H env env' vs ds T hl len ?_ e Q post⟩
        have : G ki H (zE σ env ++ ([(some (V.ref a), Slot.p (.tuple ds))] ++ (zP vs ds ++ T))) := by
          refine g2.perm ?_
          have p1 : (zP vs ds ++ (zE σ env ++ (some (V.ref a), Slot.p (.tuple ds)) :: T)).Perm (zE σ env ++ (zP vs ds ++ (some (V.ref a), Slot.p (.tuple ds)) :: T)) := by
            rw [← List.append_assoc, ← List.append_assoc]
            exact List.Perm.append_right _ List.perm_append_comm
          exact p1.trans (List.Perm.append_left _ List.perm_middle)
        exact dropMid this
      · rw [if_neg hn] at e; cases e
    | _ => cases e
  | _ => cases e

/-! ### what a walk yields -/
abbrev Yl (α : Type) := α → V → Hp → Row → Prop
def RdGA {α : Type} (ki : Ki) (g : TG) (ws : List Nat) (Y : Yl α) (m : α → Env → Option Env) : Prop := ∀ (σ : L2.St) (H : Hp) (env env' : Env) (v : V) (a : α) (E T : Row), σ.length = env.length → Y a v H E → G ki H (zE σ env ++ (E ++ T)) → m a env = some env' →
  ∀ Q : L2.St → Hp → Prop, (∀ σ' H', σ'.length = σ.length → env'.length = env.length → (∀ j, j ∉ ws → σ'[j]? = σ[j]?) → G ki H' (zE σ' env' ++ T) → Q σ' H') → g v σ H Q
/-- a plain thing -/
def Yp : Yl PyData := fun d v _ E => E = [(some v, .p d)]
def tgP (m : TgM) : PyData → Env → Option Env := fun d => m (.p d)
theorem rdgP {ki : Ki} {g : TG} {ws : List Nat} {m : TgM} (h : RdG ki g ws m) : RdGA ki g ws Yp (tgP m) := fun σ H env env' v a E T hl hy g e Q post => by
  cases hy
  exact h σ H env env' v (.p a) T hl g e Q post
/-- a new pair, taken apart at once -/
def Y2 (K : PySem.W.Frag) : Yl (PyData × PyData) := fun d v H E => ∃ a x y, v = .ref a ∧ SqT K H a [x, y] ∧ E = [(some x, .p d.1), (some y, .p d.2)]
def tg2 (m1 m2 : TgM) : PyData × PyData → Env → Option Env := fun d env => (m1 (.p d.1) env).bind (m2 (.p d.2))
theorem rdg2 {ki : Ki} {g1 g2 : TG} {w1 w2 : List Nat} {m1 m2 : TgM} (h1 : RdG ki g1 w1 m1) (h2 : RdG ki g2 w2 m2) : RdGA ki (gTup ki.K 2 (gCons g1 (gCons g2 gNil))) (w1 ++ (w2 ++ [])) (Y2 ki.K) (tg2 m1 m2) := fun σ H env env' v d E T hl hy g e Q post => by
  obtain ⟨a, x, y, rfl, hs, rfl⟩ := hy
  obtain ⟨e1, q1, q2⟩ := Option.bind_eq_some_iff.mp e
  refine ⟨a, [x, y], rfl, hs, rfl, x, [y], rfl, ?_⟩
  have g1 : G ki H (zE σ env ++ (some x, .p d.1) :: ((some y, .p d.2) :: T)) := g
  refine h1 σ H env e1 x (.p d.1) _ hl g1 q1 _ fun σ1 H1 l1 l2 k1 g2 => ?_
  refine ⟨y, [], rfl, ?_⟩
  refine h2 σ1 H1 e1 env' y (.p d.2) T (by omega) g2 q2 _ fun σ2 H2 l3 l4 k2 g3 => ?_
  refine ⟨rfl, post σ2 H2 (l3.trans l1) (l4.trans l2) (fun j hj => ?_) g3⟩
  rw [k2 j (fun z => hj (List.mem_append_right _ (List.mem_append_left _ z))), k1 j (fun z => hj (List.mem_append_left _ z))]
end MM
/-! M4: what is walked, comprehensions -/
namespace MM
open PySem PySem.Spec L2

/-- J gives the things of ds one by one, while x0 stand in the row -/
structure Wk {α : Type} (ki : Ki) (J : It) (ds : List α) (x0 : Row) (Y : Yl α) : Prop where
  goes : ∀ i H L, i < ds.length → G ki H (x0 ++ L) → J.go i H
  stops : ∀ H L, G ki H (x0 ++ L) → J.stop ds.length H
  yields : ∀ i H x H' L d, ds[i]? = some d → G ki H (x0 ++ L) → J.yld i H x H' → ∃ E, Y d x H' E ∧ G ki H' (E ++ (x0 ++ L))
def PstI {α : Type} (ki : Ki) (W : WX) (σ : L2.St) (T : Row) (R : It → Hp → Prop) (n : Nat) (Y : Yl α) : Res (List α) → Env → Prop
  | .ok ds, env' => ∀ J H' x0, env'.length = n → Wk ki J ds x0 Y → G ki H' (zE σ env' ++ (x0 ++ T)) → R J H'
  | .ex x, env' => ∀ cls d H', env'.length = n → G ki H' (zE σ env' ++ T) → XP ki x cls d H' → W cls d σ H'
def RdI {α : Type} (ki : Ki) (W : WX) (wi : TI) (m : Mir (List α)) (Y : Yl α) : Prop :=
  ∀ (σ : L2.St) (H : Hp) (env : Env) (T : Row) (r : Res (List α)) (env' : Env), σ.length = env.length → G ki H (zE σ env ++ T) → m env = some (r, env') → ∀ R : It → Hp → Prop, PstI ki W σ T R env.length Y r env' → wi σ H R

section
variable {ki : Ki} {W : WX} {ta : TE} {tas : TA} {ma : ExM} {ms : Mir (List Opd)} {σ : L2.St} {H : Hp} {env env' : Env} {E T : Row}
theorem Rd.useI {α : Type} {Y : Yl α} {k : Opd → Mir (List α)} {r : Res (List α)} {Q : It → Hp → Prop} (h : Rd ki W ta ma) (hl : σ.length = env.length) (g : G ki H (zE σ env ++ (E ++ T))) (e : bnd ma k env = some (r, env')) (post : PstI ki W σ T Q env.length Y r env') {Q1 : VK}
    (go : ∀ o v H1 env1, env1.length = env.length → G ki H1 (zE σ env1 ++ ((some v, o.slot) :: (E ++ T))) → o.is σ v → k o env1 = some (r, env') → Q1 v H1) : ta σ H Q1 := by
  unfold bnd at e
  cases hm : ma env with
  | none => rw [hm] at e; cases e
  | some p =>
    obtain ⟨r1, e1⟩ := p
    rw [hm] at e
    cases r1 with
    | ok o => exact h σ H env (E ++ T) _ _ hl g hm Q1 fun v H1 hn g1 ho => go o v H1 e1 hn g1 ho e
    | ex x =>
      cases e
      exact h σ H env (E ++ T) _ _ hl g hm Q1 fun cls d H1 hn g1 hx => post cls d H1 hn (dropMid g1) hx
theorem RdA.useI {α : Type} {Y : Yl α} {k : List Opd → Mir (List α)} {r : Res (List α)} {Q : It → Hp → Prop} (h : RdA ki W tas ms) (hl : σ.length = env.length) (g : G ki H (zE σ env ++ (E ++ T))) (e : bnd ms k env = some (r, env')) (post : PstI ki W σ T Q env.length Y r env') {Q1 : List V → Hp → Prop}
    (go : ∀ os vs H1 env1, env1.length = env.length → G ki H1 (zE σ env1 ++ (zO vs os ++ (E ++ T))) → isAll σ vs os → k os env1 = some (r, env') → Q1 vs H1) : tas σ H Q1 := by
  unfold bnd at e
  cases hm : ms env with
  | none => rw [hm] at e; cases e
  | some p =>
    obtain ⟨r1, e1⟩ := p
    rw [hm] at e
    cases r1 with
    | ok o => exact h σ H env (E ++ T) _ _ hl g hm Q1 fun v H1 hn g1 ho => go o v H1 e1 hn g1 ho e
    | ex x =>
      cases e
      exact h σ H env (E ++ T) _ _ hl g hm Q1 fun cls d H1 hn g1 hx => post cls d H1 hn (dropMid g1) hx

/-- the things of a row of data -/
def itD : PyData → Option (List PyData)
  | .list ds => some ds
  | .tuple ds => some ds
  | .str x => some (x.cps.toList.map fun c => .str ⟨#[c]⟩)
  | _ => none
def fixE (o : Opd) (d : PyData) (env : Env) : Env := match o with
  | .val _ => env
  | .ref i => env.set i (.p d)
/-- a name's own list stays as it is from here on -/
def ownD (o : Opd) : Mir PyData := fun env => match o with
  | .val s => s.dat.map fun d => (.ok d, env)
  | .ref i => (o.get env).dat.map fun d => (.ok d, env.set i (.p d))
def mSeq (ma : ExM) : Mir (List PyData) := bnd ma fun o => bnd (ownD o) fun d => fun env => (itD d).map fun ds => (.ok ds, env)
theorem ownD_inv {α : Type} {o : Opd} {k : PyData → Mir α} {r : Res α} (h : bnd (ownD o) k env = some (r, env')) : ∃ d, (o.get env).dat = some d ∧ k d (fixE o d env) = some (r, env') := by
  unfold bnd ownD at h
  cases o with
  | val s =>
    cases q : s.dat with
    | none => simp only [q] at h; cases h
    | some d => simp only [q] at h; exact ⟨d, q, h⟩
  | ref i =>
    cases q : (Opd.get (.ref i) env).dat with
    | none => simp only [q] at h; cases h
    | some d => simp only [q] at h; exact ⟨d, rfl, h⟩
/-- its data laid aside -/
theorem own_top {o : Opd} {v : V} {d : PyData} (hl : σ.length = env.length) (g : G ki H (zE σ env ++ ((some v, o.slot) :: T))) (i1 : o.is σ v) (q : (o.get env).dat = some d) :
    G ki H (zE σ (fixE o d env) ++ ((some v, .p d) :: T)) ∧ (fixE o d env).length = env.length := by
  cases o with
  | val s =>
    have g1 : G ki H ((some v, s) :: (zE σ env ++ T)) := g.perm List.perm_middle
    exact ⟨toTop (g1.frz q), rfl⟩
  | ref i =>
    refine ⟨?_, List.length_set⟩
    have q2 : (env[i]?).getD .un = Opd.get (.ref i) env := rfl
    cases qi : env[i]? with
    | none =>
      have : Opd.get (.ref i) env = .un := by rw [← q2, qi]; rfl
      rw [this] at q; cases q
    | some s =>
      have qs : Opd.get (.ref i) env = s := by rw [← q2, qi]; rfl
      rw [qs] at q
      have hi : i < env.length := (List.getElem?_eq_some_iff.mp qi).1
      have hm : (some v, s) ∈ zE σ env ++ T := List.mem_append_left _ (zE_mem i1 qi)
      -- take it out of its place, freeze it, copy it, lay it back
      have g0 : G ki H (zE σ env ++ T) := dropTop g
      have g1 : G ki H (zE σ env ++ (some v, .un) :: T) := toTop g0.pushUn
      have ez : σ.set i (some v) = σ := by
        apply List.ext_getElem?
        intro j
        by_cases hj : i = j
        · subst hj; rw [List.getElem?_set_self (by omega)]; exact i1.symm
        · rw [List.getElem?_set_ne hj]
      obtain ⟨A, B, hAB, hB2⟩ : ∃ A B, zE σ env = A ++ (some v, s) :: B ∧ ∀ s', zE σ (env.set i s') = A ++ (some v, s') :: B := by
        refine ⟨(zE σ env).take i, (zE σ env).drop (i + 1), ?_, fun s' => ?_⟩
        · have hiz : i < (zE σ env).length := by show i < (List.zip σ env).length; rw [List.length_zip]; omega
          have e1 : (zE σ env)[i] = (some v, s) := by
            have : (zE σ env)[i]? = some (some v, s) := by
              show (List.zip σ env)[i]? = _
              rw [List.getElem?_zip_eq_some]; exact ⟨i1, qi⟩
            exact Option.some.inj ((List.getElem?_eq_getElem hiz).symm.trans this)
          rw [← e1, List.getElem_cons_drop, List.take_append_drop]
        · have hiz : i < (zE σ env).length := by show i < (List.zip σ env).length; rw [List.length_zip]; omega
          have e1 : zE σ (env.set i s') = (zE σ env).set i (some v, s') := by
            apply List.ext_getElem?
            intro j
            show (List.zip _ _)[j]? = ((List.zip σ env).set i (some v, s'))[j]?
            by_cases hj : i = j
            · subst hj
              rw [List.getElem?_set_self (by rw [List.length_zip]; omega), List.getElem?_zip_eq_some]
              exact ⟨i1, List.getElem?_set_self hi⟩
            · rw [List.getElem?_set_ne hj]
              simp only [List.zip, List.getElem?_zipWith]
              rw [List.getElem?_set_ne hj]
          rw [e1, List.set_eq_take_append_cons_drop, if_pos hiz]
      have g2 : G ki H ((some v, s) :: ((A ++ B) ++ T)) := by
        refine g0.perm ?_
        rw [hAB, List.append_assoc, List.cons_append, List.append_assoc]
        exact List.perm_middle
      have g3 := g2.frz q
      have g4 := g3.copy List.mem_cons_self
      have g5 : G ki H ((some v, .p d) :: (A ++ ((some v, .p d) :: (B ++ T)))) := g4.perm (List.Perm.cons _ (by rw [List.append_assoc]; exact List.perm_middle.symm))
      show G ki H (zE σ (env.set i (.p d)) ++ ((some v, .p d) :: T))
      rw [hB2]
      refine toTop (g5.perm (List.Perm.cons _ ?_))
      rw [List.append_assoc]; exact List.Perm.refl _
theorem zP_at {vs : List V} {ds : List PyData} {i : Nat} {x : V} {d : PyData} (h1 : vs[i]? = some x) (h2 : ds[i]? = some d) : (some x, Slot.p d) ∈ zP vs ds := by
  apply List.mem_of_getElem? (i := i)
  unfold zP
  rw [List.getElem?_zip_eq_some, List.getElem?_map, List.getElem?_map, h1, h2]
  exact ⟨rfl, rfl⟩
theorem wk_list {v : V} {a : Addr} {ds : List PyData} (hv : v = .ref a) : Wk ki (Itl ki.K a) ds [(some v, .p (.list ds))] Yp := by
  subst hv
  refine ⟨fun i H L hi g => ?_, fun H L g => ?_, fun i H x H' L d hd g y => ?_⟩
  · obtain ⟨b, vs, e, _, h2, len, _⟩ := g.items (d := .list ds) List.mem_cons_self (.inr rfl)
    cases e
    exact ⟨vs, vs[i]'(by omega), h2 rfl, by simp [show i < vs.length by omega]⟩
  · obtain ⟨b, vs, e, _, h2, len, _⟩ := g.items (d := .list ds) List.mem_cons_self (.inr rfl)
    cases e
    exact ⟨vs, h2 rfl, by omega⟩
  · obtain ⟨b, vs, e, _, h2, len, g2⟩ := g.items (d := .list ds) List.mem_cons_self (.inr rfl)
    cases e
    obtain ⟨e1, e2⟩ := y
    subst e1
    have hx := e2 vs (h2 rfl)
    have g3 := g2.copy (o := some x) (d := d) (List.mem_append_left _ (zP_at hx hd))
    exact ⟨_, rfl, dropMid (ki := ki) (A := [(some x, .p d)]) g3⟩
theorem wk_tup {v : V} {a : Addr} {ds : List PyData} (hv : v = .ref a) : Wk ki (Itt ki.K a) ds [(some v, .p (.tuple ds))] Yp := by
  subst hv
  refine ⟨fun i H L hi g => ?_, fun H L g => ?_, fun i H x H' L d hd g y => ?_⟩
  · obtain ⟨b, vs, e, h2, _, len, _⟩ := g.items (d := .tuple ds) List.mem_cons_self (.inl rfl)
    cases e
    exact ⟨vs, vs[i]'(by omega), h2 rfl, by simp [show i < vs.length by omega]⟩
  · obtain ⟨b, vs, e, h2, _, len, _⟩ := g.items (d := .tuple ds) List.mem_cons_self (.inl rfl)
    cases e
    exact ⟨vs, h2 rfl, by omega⟩
  · obtain ⟨b, vs, e, h2, _, len, g2⟩ := g.items (d := .tuple ds) List.mem_cons_self (.inl rfl)
    cases e
    obtain ⟨e1, e2⟩ := y
    subst e1
    have hx := e2 vs (h2 rfl)
    have g3 := g2.copy (o := some x) (d := d) (List.mem_append_left _ (zP_at hx hd))
    exact ⟨_, rfl, dropMid (ki := ki) (A := [(some x, .p d)]) g3⟩
theorem wk_str {z : Str} {x0 : Row} : Wk ki (Its z) (z.cps.toList.map fun c => .str ⟨#[c]⟩) x0 Yp := by
  refine ⟨fun i H L hi g => (by show i < z.cps.size; simpa using hi), fun H L g => by show z.cps.size ≤ _; simp, fun i H x H' L d hd g y => ?_⟩
  obtain ⟨e1, c, e2, e3⟩ := y
  subst e1 e3
  have : d = .str ⟨#[c]⟩ := by
    rw [List.getElem?_map, Array.getElem?_toList, e2] at hd
    exact (Option.some.inj hd).symm
  subst this
  exact ⟨_, rfl, g.push fun F => .str _⟩
theorem rdi_seq (h : Rd ki W ta ma) : RdI ki W (iSeq ki.K ta) (mSeq ma) Yp := fun σ H env T r env' hl g e R post => by
  refine h.useI (E := []) hl g e post fun o1 v1 H1 env1 n1 g1 i1 e => ?_
  obtain ⟨d, q, e⟩ := ownD_inv e
  obtain ⟨g2, n2⟩ := own_top (hl.trans n1.symm) g1 i1 q
  generalize hE : fixE o1 d env1 = env2 at e g2 n2
  obtain ⟨ds, q2, e3⟩ := Option.map_eq_some_iff.mp e
  cases e3
  have hm : (some v1, Slot.p d) ∈ zE σ env' ++ ((some v1, .p d) :: T) := List.mem_append_right _ List.mem_cons_self
  have dp := g2.datDp hm rfl
  cases dp with
  | @lst a xs es hq ha =>
    cases q2
    exact .inl ⟨a, rfl, ⟨xs, hq⟩, post _ _ _ (n2.trans n1) (wk_list rfl) g2⟩
  | @tup a xs es hq ha =>
    cases q2
    exact .inr (.inl ⟨a, rfl, ⟨xs, hq⟩, post _ _ _ (n2.trans n1) (wk_tup rfl) g2⟩)
  | str x =>
    cases q2
    exact .inr (.inr ⟨x, rfl, post _ _ _ (n2.trans n1) (wk_str (x0 := [(some (.str x), .p (.str x))])) g2⟩)
  | _ => cases q2
/-- range -/
def rgD (lo hi : Int) : List PyData := (List.range (hi - lo).toNat).map fun i => .int (lo + (i : Nat))
def smallI (i : Int) : Bool := decide (i.natAbs ≤ 1000000)
def rng1 : List PyData → Option (List PyData)
  | [.int j] => if smallI j then some (rgD 0 j) else none
  | _ => none
def rng2 : List PyData → Option (List PyData)
  | [.int i, .int j] => if smallI i && smallI j then some (rgD i j) else none
  | _ => none
def mRng (f : List PyData → Option (List PyData)) (ms : Mir (List Opd)) : Mir (List PyData) := bnd ms fun os => bnd (lookAll os) fun ds => fun env => (f ds).map fun es => (.ok es, env)
theorem wk_rng {lo hi : Int} : Wk ki (Itr lo (hi - lo).toNat) (rgD lo hi) [] Yp := by
  refine ⟨fun i H L hi' g => (by show i < (hi - lo).toNat; unfold rgD at hi'; rw [List.length_map, List.length_range] at hi'; exact hi'), fun H L g => by show _ ≤ _; unfold rgD; simp, fun i H x H' L d hd g y => ?_⟩
  obtain ⟨e1, e2⟩ := y
  subst e1 e2
  unfold rgD at hd
  rw [List.getElem?_map] at hd
  obtain ⟨k, h1, h2⟩ := Option.map_eq_some_iff.mp hd
  have : k = i := by
    obtain ⟨hlt, e⟩ := List.getElem?_eq_some_iff.mp h1
    rw [List.getElem_range] at e
    exact e.symm
  subst this h2
  exact ⟨_, rfl, g.push fun F => .int _⟩
theorem args_int {L : Row} {vs : List V} {H : Hp} {R : List Addr} (g : Good ki.K H R L) : ∀ {ds : List PyData}, Args L vs ds → DpAll ki.K H vs ds := by
  intro ds h
  induction h with
  | nil => exact .nil
  | cons a b _ ih => exact .cons (g.datDp a b) ih
theorem dpInt {K : PySem.W.Frag} {H : Hp} {v : V} {i : Int} (h : Dp K H v (.int i)) : v = .int i := by cases h; rfl
theorem rdi_rng1 (h : RdA ki W tas ms) : RdI ki W (iRng1 tas) (mRng rng1 ms) Yp := fun σ H env T r env' hl g e R post => by
  refine h.useI (E := []) hl g e post fun os vs H1 env1 n1 g1 i1 e => ?_
  obtain ⟨ds, a, e⟩ := lookAll_inv (B := T) e i1
  obtain ⟨es, q2, e3⟩ := Option.map_eq_some_iff.mp e
  cases e3
  have dp := args_int g1 a
  have g2 : G ki H1 (zE σ env' ++ ([] ++ T)) := dropMid g1
  unfold rng1 at q2
  split at q2
  · rename_i j
    cases dp with
    | cons h1 h2 =>
      cases h2
      cases dpInt h1
      split at q2
      · rename_i hs
        cases q2
        have hs := of_decide_eq_true hs
        refine ⟨j, rfl, by omega, by omega, ?_⟩
        have w := wk_rng (ki := ki) (lo := 0) (hi := j)
        rw [Int.sub_zero] at w
        exact post _ _ [] n1 w g2
      · cases q2
  · cases q2
theorem rdi_rng2 (h : RdA ki W tas ms) : RdI ki W (iRng2 tas) (mRng rng2 ms) Yp := fun σ H env T r env' hl g e R post => by
  refine h.useI (E := []) hl g e post fun os vs H1 env1 n1 g1 i1 e => ?_
  obtain ⟨ds, a, e⟩ := lookAll_inv (B := T) e i1
  obtain ⟨es, q2, e3⟩ := Option.map_eq_some_iff.mp e
  cases e3
  have dp := args_int g1 a
  have g2 : G ki H1 (zE σ env' ++ ([] ++ T)) := dropMid g1
  unfold rng2 at q2
  split at q2
  · rename_i i j
    cases dp with
    | cons h1 h2 =>
      cases h2 with
      | cons h2 h3 =>
        cases h3
        cases dpInt h1
        cases dpInt h2
        split at q2
        · rename_i hs
          cases q2
          rw [Bool.and_eq_true] at hs
          have hs1 := of_decide_eq_true hs.1
          have hs2 := of_decide_eq_true hs.2
          refine ⟨i, j, rfl, ⟨by omega, by omega, by omega, by omega⟩, ?_⟩
          exact post _ _ [] n1 wk_rng g2
        · cases q2
  · cases q2
end
end MM
/-! M5: comprehensions -/
namespace MM
open PySem PySem.Spec L2

def wipeE (env : Env) : List Nat → Env
  | [] => env
  | v :: vs => (wipeE env vs).set v .un
def resE (env : Env) : Env → List Nat → Env
  | e, [] => e
  | e, v :: vs => resE env (e.set v (((wipeE env vs)[v]?).getD .un)) vs
def svR (σ : L2.St) (env : Env) : List Nat → Row
  | [] => []
  | v :: vs => (((wipe σ vs)[v]?).getD none, ((wipeE env vs)[v]?).getD .un) :: svR σ env vs
theorem wipeE_length (env : Env) : ∀ vs : List Nat, (wipeE env vs).length = env.length
  | [] => rfl
  | v :: vs => by unfold wipeE; rw [List.length_set, wipeE_length env vs]
theorem resE_length (env : Env) : ∀ (vs : List Nat) (e : Env), (resE env e vs).length = e.length
  | [], e => rfl
  | v :: vs, e => by unfold resE; rw [resE_length env vs, List.length_set]
section
variable {ki : Ki} {H : Hp} {σ : L2.St} {env : Env} {T : Row}
theorem takeOut (hl : σ.length = env.length) (i : Nat) (g : G ki H (zE σ env ++ T)) : G ki H (zE (σ.set i none) (env.set i .un) ++ (((σ[i]?).getD none, (env[i]?).getD .un) :: T)) := by
  by_cases hi : i < env.length
  · have e1 : σ[i]? = some σ[i] := List.getElem?_eq_getElem (by omega)
    have e2 : env[i]? = some env[i] := List.getElem?_eq_getElem hi
    rw [e1, e2]
    show G ki H (zE (σ.set i none) (env.set i .un) ++ ((σ[i], env[i]) :: T))
    have hiz : i < (zE σ env).length := by show i < (List.zip σ env).length; rw [List.length_zip]; omega
    have ez : (zE σ env)[i] = (σ[i], env[i]) := by
      show (List.zip σ env)[i] = _
      rw [List.getElem_zip]
    have e3 : zE (σ.set i none) (env.set i .un) = (zE σ env).set i (none, .un) := by
      apply List.ext_getElem?
      intro j
      show (List.zip _ _)[j]? = ((List.zip σ env).set i (none, Slot.un))[j]?
      by_cases hj : i = j
      · subst hj
        rw [List.getElem?_set_self (by rw [List.length_zip]; omega), List.getElem?_zip_eq_some]
        exact ⟨List.getElem?_set_self (by omega), List.getElem?_set_self hi⟩
      · rw [List.getElem?_set_ne hj]
        simp only [List.zip, List.getElem?_zipWith]
        rw [List.getElem?_set_ne hj, List.getElem?_set_ne hj]
    rw [e3, List.set_eq_take_append_cons_drop, if_pos hiz]
    have e4 : zE σ env = (zE σ env).take i ++ (σ[i], env[i]) :: (zE σ env).drop (i + 1) := by
      rw [← ez, List.getElem_cons_drop, List.take_append_drop]
    have g1 : G ki H ((none, .un) :: (zE σ env ++ T)) := g.pushUn
    refine g1.perm ?_
    have p1 : (zE σ env ++ T).Perm ((List.take i (zE σ env) ++ List.drop (i + 1) (zE σ env)) ++ (σ[i], env[i]) :: T) := by
      refine ((List.Perm.append_right T ((List.Perm.of_eq e4).trans List.perm_middle)).trans ?_)
      exact List.perm_middle.symm
    refine (List.Perm.cons _ p1).trans ?_
    show ((none, Slot.un) :: ((List.take i (zE σ env) ++ List.drop (i + 1) (zE σ env)) ++ (σ[i], env[i]) :: T)).Perm _
    rw [List.append_assoc, List.append_assoc]
    exact List.perm_middle.symm
  · rw [List.set_eq_of_length_le (by omega), List.set_eq_of_length_le (by omega), List.getElem?_eq_none (by omega), List.getElem?_eq_none (by omega)]
    exact toTop g.pushUn
theorem saveAll (hl : σ.length = env.length) : ∀ (vs : List Nat), G ki H (zE σ env ++ T) → G ki H (zE (wipe σ vs) (wipeE env vs) ++ (svR σ env vs ++ T))
  | [], g => g
  | v :: vs, g => takeOut (by rw [wipe_length, wipeE_length]; exact hl) v (saveAll hl vs g)
theorem putBack (hl : σ.length = env.length) : ∀ (vs : List Nat) (e : Env), e.length = env.length → G ki H (zE (wipe σ vs) e ++ (svR σ env vs ++ T)) → G ki H (zE σ (resE env e vs) ++ T)
  | [], e, _, g => g
  | v :: vs, e, hn, g => by
    have g0 : G ki H (zE ((wipe σ vs).set v none) e ++ ((((wipe σ vs)[v]?).getD none, ((wipeE env vs)[v]?).getD .un) :: (svR σ env vs ++ T))) := g
    show G ki H (zE σ (resE env (e.set v (((wipeE env vs)[v]?).getD .un)) vs) ++ T)
    refine putBack hl vs _ (by rw [List.length_set]; exact hn) ?_
    by_cases hi : v < e.length
    · have g1 := zE_set (by rw [List.length_set, wipe_length]; omega) hi g0
      have : ((wipe σ vs).set v none).set v (((wipe σ vs)[v]?).getD none) = wipe σ vs := by
        rw [List.set_set]
        apply List.ext_getElem?
        intro j
        by_cases hj : v = j
        · subst hj
          have hv : v < (wipe σ vs).length := by rw [wipe_length]; omega
          rw [List.getElem?_set_self hv, List.getElem?_eq_getElem hv]; rfl
        · rw [List.getElem?_set_ne hj]
      rw [this] at g1
      exact g1
    · have hw : (wipe σ vs).length ≤ v := by rw [wipe_length]; omega
      rw [List.set_eq_of_length_le hw] at g0
      rw [List.set_eq_of_length_le (by omega)]
      exact dropTop g0
theorem wipe_get (σ : L2.St) : ∀ (vs : List Nat) (j : Nat), (wipe σ vs)[j]? = if j ∈ vs then (if j < σ.length then some none else none) else σ[j]?
  | [], j => by rw [if_neg (fun z => nomatch z)]; rfl
  | v :: vs, j => by
    show ((wipe σ vs).set v none)[j]? = _
    by_cases hj : v = j
    · subst hj
      rw [if_pos List.mem_cons_self]
      by_cases hv : v < σ.length
      · rw [if_pos hv, List.getElem?_set_self (by rw [wipe_length]; exact hv)]
      · rw [if_neg hv]; exact List.getElem?_eq_none (by rw [List.length_set, wipe_length]; omega)
    · rw [List.getElem?_set_ne hj, wipe_get σ vs j]
      by_cases hm : j ∈ vs
      · rw [if_pos hm, if_pos (List.mem_cons_of_mem _ hm)]
      · rw [if_neg hm, if_neg (fun z => (List.mem_cons.mp z).elim (fun e => hj e.symm) hm)]
theorem wipe_ext {σ1 σ2 : L2.St} {vs : List Nat} (hl : σ1.length = σ2.length) (h : ∀ j, j ∉ vs → σ1[j]? = σ2[j]?) : wipe σ1 vs = wipe σ2 vs := by
  apply List.ext_getElem?
  intro j
  rw [wipe_get, wipe_get]
  by_cases hj : j ∈ vs
  · rw [if_pos hj, if_pos hj, hl]
  · rw [if_neg hj, if_neg hj, h j hj]
theorem wipe_back {σ2 : L2.St} {vs : List Nat} (hl : σ2.length = (wipe σ vs).length) (h : ∀ j, j ∉ vs → σ2[j]? = (wipe σ vs)[j]?) : wipe σ2 vs = wipe σ vs := by
  apply List.ext_getElem?
  intro j
  rw [wipe_get σ2, hl, wipe_length]
  by_cases hj : j ∈ vs
  · rw [if_pos hj, wipe_get, if_pos hj]
  · rw [if_neg hj, h j hj]
theorem Good.appendTop {K : PySem.W.Frag} {R : List Addr} {L : Row} {D : Addr} {acc : List PyData} {y : V} {d : PyData} (g : Good K H R ((some (.ref D), .l (acc.map .p)) :: (some y, .p d) :: L)) :
    ∃ vs, H D = some (.lst vs) ∧ vs.length = acc.length ∧ Good K (upd H D (.lst (vs ++ [y]))) R ((some (.ref D), .l ((acc ++ [d]).map .p)) :: L) := by
  obtain ⟨a, vs, e, ha, len, g1⟩ := g.open_
  cases e
  rw [List.length_map] at len
  refine ⟨vs, ha, len, ?_⟩
  have g2 : Good K H (D :: R) (zS (vs ++ [y]) ((acc ++ [d]).map .p) ++ L) := by
    refine g1.perm ?_
    have : zS (vs ++ [y]) ((acc ++ [d]).map .p) = zS vs (acc.map .p) ++ [(some y, .p d)] := by
      unfold zS
      rw [List.map_append, List.map_append, List.zip_append (by rw [List.length_map, List.length_map]; exact len)]
      rfl
    rw [this, List.append_assoc]
    exact List.Perm.refl _
  exact (g2.write List.mem_cons_self).close upd_same (by rw [List.length_append, List.length_map, List.length_append, len]; rfl)
end

def compM {α : Type} (own : List Nat) (tg : α → Env → Option Env) (mt : Mir Bool) (me : ExM) : List α → List PyData → Env → Option (List PyData × Env)
  | [], acc, env => some (acc, env)
  | x :: xs, acc, env => (tg x env).bind fun e1 => match mt e1 with
    | some (.ok true, e2) => (match me e2 with
      | some (.ok o, e3) => o.own.bind fun d => compM own tg mt me xs (acc ++ [d]) (wipeE e3 own)
      | _ => none)
    | some (.ok false, e2) => compM own tg mt me xs acc (wipeE e2 own)
    | _ => none
def mComp {α : Type} (own : List Nat) (mi : Mir (List α)) (tg : α → Env → Option Env) (mt : Mir Bool) (me : ExM) : ExM := bnd mi fun ds => fun env =>
  if ds.length ≤ 1000000 then (compM own tg mt me ds [] (wipeE env own)).map fun p => (.ok (.val (.l (p.1.map .p))), resE env p.2 own) else none
/-- no exception leaves -/
abbrev W0 : WX := fun _ _ _ _ => False
theorem RdI.use {α : Type} {Y : Yl α} {ki : Ki} {W : WX} {wi : TI} {mi : Mir (List α)} {σ : L2.St} {H : Hp} {env env' : Env} {E T : Row} {k : List α → ExM} {r : Res Opd} {Q : VK} (h : RdI ki W wi mi Y) (hl : σ.length = env.length) (g : G ki H (zE σ env ++ (E ++ T))) (e : bnd mi k env = some (r, env')) (post : Pst ki W σ T Q env.length r env') {R : It → Hp → Prop}
    (go : ∀ ds J H1 env1 x0, env1.length = env.length → Wk ki J ds x0 Y → G ki H1 (zE σ env1 ++ (x0 ++ (E ++ T))) → k ds env1 = some (r, env') → R J H1) : wi σ H R := by
  unfold bnd at e
  cases hm : mi env with
  | none => rw [hm] at e; cases e
  | some p =>
    obtain ⟨r1, e1⟩ := p
    rw [hm] at e
    cases r1 with
    | ok o => exact h σ H env (E ++ T) _ _ hl g hm R fun J H1 x0 hn w g1 => go o J H1 e1 x0 hn w g1 e
    | ex x =>
      cases e
      exact h σ H env (E ++ T) _ _ hl g hm R fun cls d H1 hn g1 hx => post cls d H1 hn (dropMid g1) hx
theorem rd_comp {α : Type} {Y : Yl α} {ki : Ki} {W : WX} {wi : TI} {g : TG} {tt : TT} {te : TE} {own ws : List Nat} {mi : Mir (List α)} {tg : α → Env → Option Env} {mt : Mir Bool} {me : ExM}
    (hi : RdI ki W wi mi Y) (hg : RdGA ki g ws Y tg) (hws : ∀ j ∈ ws, j ∈ own) (ht : RdT ki W0 tt mt) (he : Rd ki W0 te me) : Rd ki W (tLc wi g tt te own) (mComp own mi tg mt me) := fun σ H env T r env' hl gd e Q post => by
  refine hi.use (E := []) hl gd e post fun ds J H1 env1 x0 n1 wk g1 e => ?_
  by_cases hz : ds.length ≤ 1000000
  case neg => rw [if_neg hz] at e; cases e
  rw [if_pos hz] at e
  obtain ⟨⟨accF, envF⟩, q1, q2⟩ := Option.map_eq_some_iff.mp e
  cases q2
  intro D hD
  have g1' : G ki H1 (zE σ env1 ++ (x0 ++ T)) := g1
  have g2 := Good.newList (vs := []) (ds := []) g1' hD rfl
  have hl1 : σ.length = env1.length := hl.trans n1.symm
  have g3 : G ki (upd H1 D (.lst [])) (zE σ env1 ++ ((some (.ref D), .l (([] : List PyData).map .p)) :: (x0 ++ T))) := toTop g2
  have g4 := saveAll hl1 own g3
  have g5 : G ki (upd H1 D (.lst [])) (zE (wipe σ own) (wipeE env1 own) ++ ((some (.ref D), .l (([] : List PyData).map .p)) :: (x0 ++ (svR σ env1 own ++ T)))) := by
    refine g4.perm (List.Perm.append_left _ ?_)
    refine List.perm_middle.trans (List.Perm.cons _ ?_)
    rw [← List.append_assoc, ← List.append_assoc]
    exact List.Perm.append_right _ List.perm_append_comm
  refine ⟨fun i m H => m = ds.length - i ∧ i ≤ ds.length ∧ ∃ (acc : List PyData) (en : Env), en.length = env1.length ∧ acc.length ≤ i ∧ G ki H (zE (wipe σ own) en ++ ((some (.ref D), .l (acc.map .p)) :: (x0 ++ (svR σ env1 own ++ T)))) ∧ compM own tg mt me (ds.drop i) acc en = some (accF, envF),
    ⟨ds.length, by simp, Nat.zero_le _, [], wipeE env1 own, wipeE_length _ _, Nat.le_refl _, g5, q1⟩, ?_⟩
  rintro i m Hi ⟨rfl, hile, acc, en, hen, hacc, gi, qi⟩
  have gx : G ki Hi (x0 ++ (zE (wipe σ own) en ++ ((some (.ref D), .l (acc.map .p)) :: (svR σ env1 own ++ T)))) := by
    refine gi.perm ?_
    refine (List.Perm.append_left _ List.perm_middle.symm).trans ?_
    rw [← List.append_assoc, ← List.append_assoc]
    exact List.Perm.append_right _ List.perm_append_comm
  by_cases hlt : i < ds.length
  case neg =>
    have ei : i = ds.length := by omega
    subst ei
    refine .inl ⟨wk.stops _ _ gx, ?_⟩
    rw [List.drop_length] at qi
    cases qi
    have g6 : G ki Hi (zE (wipe σ own) envF ++ (svR σ env1 own ++ ((some (.ref D), .l (accF.map .p)) :: T))) := by
      have g7 : G ki Hi ((zE (wipe σ own) envF ++ [(some (V.ref D), Slot.l (accF.map .p))]) ++ (x0 ++ (svR σ env1 own ++ T))) := by
        rw [List.append_assoc]; exact gi
      have g8 := dropMid g7
      rw [List.append_assoc] at g8
      refine g8.perm (List.Perm.append_left _ ?_)
      show ((some (V.ref D), Slot.l (accF.map .p)) :: (svR σ env1 own ++ T)).Perm _
      exact List.perm_middle.symm
    exact post _ _ (by rw [resE_length]; exact hen.trans n1) (putBack hl1 own _ hen g6) trivial
  obtain ⟨d, hd⟩ : ∃ d, ds[i]? = some d := ⟨ds[i], List.getElem?_eq_getElem hlt⟩
  have hdrop : ds.drop i = d :: ds.drop (i + 1) := by
    rw [List.drop_eq_getElem_cons hlt]
    rw [List.getElem?_eq_getElem hlt] at hd
    rw [Option.some.inj hd]
  rw [hdrop] at qi
  obtain ⟨e1, p1, p2⟩ := Option.bind_eq_some_iff.mp (show (tg d en).bind _ = some (accF, envF) from qi)
  refine .inr ⟨wk.goes i _ _ hlt gx, fun H' => ∃ (acc' : List PyData) (en' : Env), en'.length = env1.length ∧ acc'.length ≤ i + 1 ∧ G ki H' (zE (wipe σ own) en' ++ ((some (.ref D), .l (acc'.map .p)) :: (x0 ++ (svR σ env1 own ++ T)))) ∧ compM own tg mt me (ds.drop (i + 1)) acc' en' = some (accF, envF),
    fun H' ⟨acc', en', a1, a2, a3, a4⟩ => ⟨ds.length - (i + 1), by omega, rfl, hlt, acc', en', a1, a2, a3, a4⟩, fun x H' y => ?_⟩
  have gy := wk.yields i _ x H' _ d hd gx y
  obtain ⟨E, hy, gy⟩ := gy
  have gy2 : G ki H' (zE (wipe σ own) en ++ (E ++ ((some (.ref D), .l (acc.map .p)) :: (x0 ++ (svR σ env1 own ++ T))))) := by
    rw [← List.append_assoc] at gy
    refine gy.perm ?_
    refine List.Perm.trans (l₂ := zE (wipe σ own) en ++ ((E ++ x0) ++ ((some (V.ref D), Slot.l (acc.map .p)) :: (svR σ env1 own ++ T)))) ?_ (List.Perm.append_left _ ?_)
    · rw [← List.append_assoc, ← List.append_assoc (zE (wipe σ own) en)]
      exact List.Perm.append_right _ List.perm_append_comm
    · rw [List.append_assoc]
      exact List.Perm.append_left _ List.perm_middle
  have hlw : (wipe σ own).length = en.length := by rw [wipe_length]; omega
  refine hg _ H' en e1 x d E _ hlw hy gy2 p1 _ fun σ2 H2 l2 le k2 g6 => ⟨?_, ?_⟩
  · exact wipe_back l2 fun j hj => k2 j fun z => hj (hws j z)
  have hw2 : wipe σ2 own = wipe σ own := wipe_back l2 fun j hj => k2 j fun z => hj (hws j z)
  have hl2 : σ2.length = e1.length := by rw [l2, le, hlw]
  -- the turn's end
  have fin : ∀ {H' : Hp} {e2 : Env} {B : Row}, e2.length = e1.length → G ki H' (zE σ2 e2 ++ B) → G ki H' (zE (wipe σ own) (wipeE e2 own) ++ B) := fun {H' e2 B} hn g => by
    have g9 := saveAll (hl2.trans hn.symm) own g
    rw [hw2] at g9
    exact dropMid g9
  cases hmt : mt e1 with
  | none => simp only [hmt] at p2; cases p2
  | some pr =>
    obtain ⟨rb, e2⟩ := pr
    simp only [hmt] at p2
    cases rb with
    | ex x => cases p2
    | ok b =>
      refine ht σ2 H2 e1 _ _ _ hl2 g6 hmt _ fun H3 n3 g7 => ?_
      cases b with
      | false =>
        rw [if_neg Bool.false_ne_true]
        exact ⟨acc, wipeE e2 own, by rw [wipeE_length]; omega, by omega, fin n3 g7, p2⟩
      | true =>
        rw [if_pos rfl]
        simp only at p2
        cases hme : me e2 with
        | none => simp only [hme] at p2; cases p2
        | some pr =>
          obtain ⟨ro, e3⟩ := pr
          simp only [hme] at p2
          cases ro with
          | ex x => cases p2
          | ok o =>
            obtain ⟨dd, o1, o2⟩ := Option.bind_eq_some_iff.mp p2
            refine he σ2 H3 e2 _ _ _ (hl2.trans n3.symm) g7 hme _ fun yv H4 n4 g8 ho => ?_
            cases o with
            | ref j => cases o1
            | val s =>
              have g9 : G ki H4 ((some yv, s) :: (zE σ2 e3 ++ ((some (.ref D), .l (acc.map .p)) :: (x0 ++ (svR σ env1 own ++ T))))) := g8.perm List.perm_middle
              have g10 := g9.frz o1
              have g11 : G ki H4 ((some (.ref D), .l (acc.map .p)) :: (some yv, .p dd) :: (zE σ2 e3 ++ (x0 ++ (svR σ env1 own ++ T)))) := by
                refine g10.perm ?_
                refine (List.Perm.cons _ List.perm_middle).trans (List.Perm.swap _ _ _)
              obtain ⟨vs, hvs, len, g12⟩ := g11.appendTop
              refine ⟨vs, hvs, Nat.lt_of_lt_of_le (show vs.length < 1000001 by omega) (by decide), acc ++ [dd], wipeE e3 own, by rw [wipeE_length]; omega, by rw [List.length_append]; show acc.length + 1 ≤ i + 1; omega, ?_, o2⟩
              exact fin (n4.trans n3) (toTop g12)
end MM
/-! M6: statements, loops, defs and their calls -/
namespace MM
open PySem PySem.Spec L2

inductive Fl where
  | nx
  | rt (s : Slot)
  | bk
  | ct
  | ex (x : Exn)
abbrev StM := Env → Option (Fl × Env)
/-- names that stay: the parameters that callers share -/
abbrev FxL := List (Nat × V)
def Fx (fx : FxL) (σ : L2.St) : Prop := ∀ p ∈ fx, σ[p.1]? = some (some p.2)
def PstS (ki : Ki) (W : WX) (fx : FxL) (T : Row) (D : Ends) (n : Nat) : Fl → Env → Prop
  | .nx, env' => ∀ σ' H', σ'.length = n → env'.length = n → Fx fx σ' → G ki H' (zE σ' env' ++ T) → D.nx σ' H'
  | .bk, env' => ∀ σ' H', σ'.length = n → env'.length = n → Fx fx σ' → G ki H' (zE σ' env' ++ T) → D.bk σ' H'
  | .ct, env' => ∀ σ' H', σ'.length = n → env'.length = n → Fx fx σ' → G ki H' (zE σ' env' ++ T) → D.ct σ' H'
  | .rt s, env' => ∀ v σ' H', σ'.length = n → env'.length = n → Fx fx σ' → G ki H' (zE σ' env' ++ (some v, s) :: T) → D.rt v H'
  | .ex x, env' => ∀ cls d σ' H', σ'.length = n → env'.length = n → Fx fx σ' → G ki H' (zE σ' env' ++ T) → XP ki x cls d H' → W cls d σ' H'
def RdS (ki : Ki) (W : WX) (fx : FxL) (ts : TS) (m : StM) : Prop :=
  ∀ (σ : L2.St) (H : Hp) (env : Env) (T : Row) (fl : Fl) (env' : Env), σ.length = env.length → Fx fx σ → G ki H (zE σ env ++ T) → m env = some (fl, env') → ∀ D : Ends, PstS ki W fx T D env.length fl env' → ts D σ H
/-- an expression, then a statement's rest -/
def bndS {α : Type} (m : Mir α) (k : α → StM) : StM := fun env => match m env with
  | none => none
  | some (.ok a, e) => k a e
  | some (.ex x, e) => some (.ex x, e)
theorem bndS_ok {α : Type} {m : Mir α} {k : α → StM} {env e : Env} {a : α} (h : m env = some (.ok a, e)) : bndS m k env = k a e := by
  unfold bndS; rw [h]
theorem bndS_ex {α : Type} {m : Mir α} {k : α → StM} {env e : Env} {x : Exn} (h : m env = some (.ex x, e)) : bndS m k env = some (.ex x, e) := by
  unfold bndS; rw [h]

section
variable {ki : Ki} {W : WX} {fx : FxL} {te : TE} {tt : TT} {tas : TA} {me : ExM} {mt : Mir Bool} {ms : Mir (List Opd)} {σ : L2.St} {H : Hp} {env env' : Env} {T : Row}
theorem Rd.useS {k : Opd → StM} {fl : Fl} {D : Ends} (h : Rd ki W te me) (hl : σ.length = env.length) (hf : Fx fx σ) (g : G ki H (zE σ env ++ T)) (e : bndS me k env = some (fl, env')) (post : PstS ki W fx T D env.length fl env') {Q1 : VK}
    (go : ∀ o v H1 env1, env1.length = env.length → G ki H1 (zE σ env1 ++ ((some v, o.slot) :: T)) → o.is σ v → k o env1 = some (fl, env') → Q1 v H1) : te σ H Q1 := by
  unfold bndS at e
  cases hm : me env with
  | none => rw [hm] at e; cases e
  | some p =>
    obtain ⟨r1, e1⟩ := p
    rw [hm] at e
    cases r1 with
    | ok o => exact h σ H env T _ _ hl g hm Q1 fun v H1 hn g1 ho => go o v H1 e1 hn g1 ho e
    | ex x =>
      cases e
      exact h σ H env T _ _ hl g hm Q1 fun cls d H1 hn g1 hx => post cls d σ H1 hl hn hf g1 hx
theorem RdT.useS {k : Bool → StM} {fl : Fl} {D : Ends} (h : RdT ki W tt mt) (hl : σ.length = env.length) (hf : Fx fx σ) (g : G ki H (zE σ env ++ T)) (e : bndS mt k env = some (fl, env')) (post : PstS ki W fx T D env.length fl env') {Q1 : Bool → Hp → Prop}
    (go : ∀ b H1 env1, env1.length = env.length → G ki H1 (zE σ env1 ++ T) → k b env1 = some (fl, env') → Q1 b H1) : tt σ H Q1 := by
  unfold bndS at e
  cases hm : mt env with
  | none => rw [hm] at e; cases e
  | some p =>
    obtain ⟨r1, e1⟩ := p
    rw [hm] at e
    cases r1 with
    | ok o => exact h σ H env T _ _ hl g hm Q1 fun H1 hn g1 => go o H1 e1 hn g1 e
    | ex x =>
      cases e
      exact h σ H env T _ _ hl g hm Q1 fun cls d H1 hn g1 hx => post cls d σ H1 hl hn hf g1 hx
theorem RdA.useS {k : List Opd → StM} {fl : Fl} {D : Ends} (h : RdA ki W tas ms) (hl : σ.length = env.length) (hf : Fx fx σ) (g : G ki H (zE σ env ++ T)) (e : bndS ms k env = some (fl, env')) (post : PstS ki W fx T D env.length fl env') {Q1 : List V → Hp → Prop}
    (go : ∀ os vs H1 env1, env1.length = env.length → G ki H1 (zE σ env1 ++ (zO vs os ++ T)) → isAll σ vs os → k os env1 = some (fl, env') → Q1 vs H1) : tas σ H Q1 := by
  unfold bndS at e
  cases hm : ms env with
  | none => rw [hm] at e; cases e
  | some p =>
    obtain ⟨r1, e1⟩ := p
    rw [hm] at e
    cases r1 with
    | ok o => exact h σ H env T _ _ hl g hm Q1 fun v H1 hn g1 ho => go o v H1 e1 hn g1 ho e
    | ex x =>
      cases e
      exact h σ H env T _ _ hl g hm Q1 fun cls d H1 hn g1 hx => post cls d σ H1 hl hn hf g1 hx

/-! ### small statements -/
def sNx : StM := fun env => some (.nx, env)
def sBk : StM := fun env => some (.bk, env)
def sCt : StM := fun env => some (.ct, env)
theorem rds_pass : RdS ki W fx tNext sNx := fun σ H env T fl env' hl hf g e D post => by cases e; exact post σ H hl rfl hf g
theorem rds_break : RdS ki W fx tBreak sBk := fun σ H env T fl env' hl hf g e D post => by cases e; exact post σ H hl rfl hf g
theorem rds_cont : RdS ki W fx tCont sCt := fun σ H env T fl env' hl hf g e D post => by cases e; exact post σ H hl rfl hf g
def sSeq (m1 m2 : StM) : StM := fun env => match m1 env with
  | some (.nx, e) => m2 e
  | r => r
theorem rds_seq {t u : TS} {m1 m2 : StM} (h1 : RdS ki W fx t m1) (h2 : RdS ki W fx u m2) : RdS ki W fx (tSeq t u) (sSeq m1 m2) := fun σ H env T fl env' hl hf g e D post => by
  unfold sSeq at e
  cases hm : m1 env with
  | none => rw [hm] at e; cases e
  | some p =>
    obtain ⟨f1, e1⟩ := p
    rw [hm] at e
    refine h1 σ H env T f1 e1 hl hf g hm { D with nx := u D } ?_
    cases f1 with
    | nx => exact fun σ' H' l1 l2 hf' g' => h2 σ' H' e1 T fl env' (l1.trans l2.symm) hf' g' e D (by rw [l2]; exact post)
    | rt s => cases e; exact post
    | bk => cases e; exact post
    | ct => cases e; exact post
    | ex x => cases e; exact post
def sDrop (me : ExM) : StM := bndS me fun _ => sNx
theorem rds_drop (h : Rd ki W te me) : RdS ki W fx (tDrop te) (sDrop me) := fun σ H env T fl env' hl hf g e D post => by
  refine h.useS hl hf g e post fun o v H1 env1 n1 g1 i1 e => ?_
  cases e
  exact post σ H1 hl n1 hf (dropTop g1)
def sRetO (o : Opd) : StM := fun env => match o with
  | .val s => some (.rt s, env)
  | .ref i => some (.rt ((env[i]?).getD .un), env.set i .un)
def sRet (me : ExM) : StM := bndS me sRetO
theorem unSet {i : Nat} {L : Row} (hl : σ.length = env.length) (g : G ki H (zE (σ.set i none) (env.set i .un) ++ L)) : G ki H (zE σ (env.set i .un) ++ L) := by
  by_cases hi : i < env.length
  · have g1 : G ki H (zE (σ.set i none) (env.set i .un) ++ ((σ[i]?).getD none, .un) :: L) := toTop g.pushUn
    have g2 := zE_set (i := i) (by rw [List.length_set, List.length_set]; exact hl) (by rw [List.length_set]; exact hi) g1
    rw [List.set_set, List.set_set] at g2
    have : σ.set i ((σ[i]?).getD none) = σ := by
      apply List.ext_getElem?
      intro j
      by_cases hj : i = j
      · subst hj
        rw [List.getElem?_set_self (by omega), List.getElem?_eq_getElem (by omega)]; rfl
      · rw [List.getElem?_set_ne hj]
    rw [this] at g2
    exact g2
  · rw [List.set_eq_of_length_le (by omega)] at g
    exact g
theorem rds_ret (h : Rd ki W te me) : RdS ki W fx (tRet te) (sRet me) := fun σ H env T fl env' hl hf g e D post => by
  refine h.useS hl hf g e post fun o v H1 env1 n1 g1 i1 e => ?_
  cases o with
  | val s => cases e; exact post v σ H1 hl n1 hf g1
  | ref i =>
    cases e
    have hl1 : σ.length = env1.length := hl.trans n1.symm
    have g2 := unSet hl1 (takeOut hl1 i (dropTop g1))
    have e1 : σ[i]? = some (some v) := i1
    rw [e1] at g2
    exact post v σ H1 hl (by rw [List.length_set]; exact n1) hf g2
def sRetN : StM := fun env => some (.rt (.p .none), env)
theorem rds_retN : RdS ki W fx tRetN sRetN := fun σ H env T fl env' hl hf g e D post => by
  cases e
  exact post .non σ H hl rfl hf (toTop (g.push fun F => .non))
def sIf (mt : Mir Bool) (m1 m2 : StM) : StM := bndS mt fun b => if b = true then m1 else m2
theorem rds_if {t u : TS} {m1 m2 : StM} (h : RdT ki W tt mt) (h1 : RdS ki W fx t m1) (h2 : RdS ki W fx u m2) : RdS ki W fx (tIfS tt t u) (sIf mt m1 m2) := fun σ H env T fl env' hl hf g e D post => by
  refine h.useS hl hf g e post fun b H1 env1 n1 g1 e => ?_
  cases b with
  | true => exact h1 σ H1 env1 T fl env' (hl.trans n1.symm) hf g1 e D (by rw [n1]; exact post)
  | false => exact h2 σ H1 env1 T fl env' (hl.trans n1.symm) hf g1 e D (by rw [n1]; exact post)
theorem Fx.keep {σ σ' : L2.St} {ws : List Nat} (hf : Fx fx σ) (k : ∀ j, j ∉ ws → σ'[j]? = σ[j]?) (hw : ∀ p ∈ fx, p.1 ∉ ws) : Fx fx σ' := fun p hp => (k p.1 (hw p hp)).trans (hf p hp)
/-- target = value -/
def sAsg (me : ExM) (tg : TgM) : StM := bndS me fun o => match o with
  | .val s => fun env => (tg s env).map fun e => (.nx, e)
  | .ref _ => fun _ => none
theorem rds_asg {g : TG} {ws : List Nat} {tg : TgM} (h : Rd ki W te me) (hg : RdG ki g ws tg) (hw : ∀ p ∈ fx, p.1 ∉ ws) : RdS ki W fx (tAsg te g) (sAsg me tg) := fun σ H env T fl env' hl hf gd e D post => by
  refine h.useS hl hf gd e post fun o v H1 env1 n1 g1 i1 e => ?_
  cases o with
  | ref i => cases e
  | val s =>
    obtain ⟨e2, q1, q2⟩ := Option.map_eq_some_iff.mp e
    cases q2
    exact hg σ H1 env1 _ v s T (hl.trans n1.symm) g1 q1 _ fun σ' H' l1 l2 k g2 => post σ' H' (l1.trans hl) (l2.trans n1) (hf.keep k hw) g2
/-- a, b = x, y without a tuple -/
def parK : List Opd → Option (Slot × Slot)
  | [.val a, .val b] => some (a, b)
  | _ => none
theorem parK_inv {os : List Opd} {p : Slot × Slot} (h : parK os = some p) : os = [.val p.1, .val p.2] := by
  unfold parK at h
  split at h
  · cases h; rfl
  · cases h
def sPar (i j : Nat) (ms : Mir (List Opd)) : StM := bndS ms fun os env => (parK os).bind fun p => if i < env.length ∧ j < env.length then some (.nx, (env.set i p.1).set j p.2) else none
theorem rds_par {i j : Nat} (h : RdA ki W tas ms) (hw : ∀ p ∈ fx, p.1 ∉ [i, j]) : RdS ki W fx (tPar i j tas) (sPar i j ms) := fun σ H env T fl env' hl hf gd e D post => by
  refine h.useS hl hf gd e post fun os vs H1 env1 n1 g1 i1 e => ?_
  obtain ⟨⟨a, b⟩, hp, e2⟩ := Option.bind_eq_some_iff.mp e
  clear e
  have e : (if i < env1.length ∧ j < env1.length then some (Fl.nx, (env1.set i a).set j b) else none) = some (fl, env') := e2
  clear e2
  have ho := parK_inv hp
  subst ho
  match vs, i1, g1 with
  | [v, w], _, g1 =>
    by_cases hi : i < env1.length ∧ j < env1.length
    · rw [if_pos hi] at e
      cases e
      refine ⟨v, w, rfl, ?_⟩
      have hl1 : σ.length = env1.length := hl.trans n1.symm
      have g2 : G ki H1 (zE σ env1 ++ (some v, a) :: ((some w, b) :: T)) := g1
      have g3 := zE_set hl1 hi.1 g2
      have g4 := zE_set (i := j) (by rw [List.length_set, List.length_set]; exact hl1) (by rw [List.length_set]; exact hi.2) g3
      refine post _ H1 (by rw [List.length_set, List.length_set]; exact hl) (by rw [List.length_set, List.length_set]; exact n1) (hf.keep (ws := [i, j]) (fun k hk => ?_) hw) g4
      have h1 : i ≠ k := fun z => hk (by rw [z]; exact List.mem_cons_self)
      have h2 : j ≠ k := fun z => hk (by rw [z]; exact List.mem_cons_of_mem _ List.mem_cons_self)
      rw [List.getElem?_set_ne h2, List.getElem?_set_ne h1]
    · rw [if_neg hi] at e; cases e
  | [], i1, _ => exact i1.elim
  | [_], i1, _ => exact i1.2.elim
  | _ :: _ :: _ :: _, i1, _ => exact i1.2.2.elim

/-! ### loops -/
def forM {α : Type} (tg : α → Env → Option Env) (mb : StM) : List α → Env → Option (Fl × Env)
  | [], env => some (.nx, env)
  | x :: xs, env => (tg x env).bind fun e1 => match mb e1 with
    | some (.nx, e2) => forM tg mb xs e2
    | some (.ct, e2) => forM tg mb xs e2
    | some (.bk, e2) => some (.nx, e2)
    | some (.rt s, e2) => some (.rt s, e2)
    | some (.ex x, e2) => some (.ex x, e2)
    | none => none
def sFor {α : Type} (mi : Mir (List α)) (tg : α → Env → Option Env) (mb : StM) : StM := bndS mi fun ds => forM tg mb ds
theorem RdI.useS {α : Type} {Y : Yl α} {wi : TI} {mi : Mir (List α)} {k : List α → StM} {fl : Fl} {D : Ends} (h : RdI ki W wi mi Y) (hl : σ.length = env.length) (hf : Fx fx σ) (g : G ki H (zE σ env ++ T)) (e : bndS mi k env = some (fl, env')) (post : PstS ki W fx T D env.length fl env') {R : It → Hp → Prop}
    (go : ∀ ds J H1 env1 x0, env1.length = env.length → Wk ki J ds x0 Y → G ki H1 (zE σ env1 ++ (x0 ++ T)) → k ds env1 = some (fl, env') → R J H1) : wi σ H R := by
  unfold bndS at e
  cases hm : mi env with
  | none => rw [hm] at e; cases e
  | some p =>
    obtain ⟨r1, e1⟩ := p
    rw [hm] at e
    cases r1 with
    | ok o => exact h σ H env T _ _ hl g hm R fun J H1 x0 hn w g1 => go o J H1 e1 x0 hn w g1 e
    | ex x =>
      cases e
      exact h σ H env T _ _ hl g hm R fun cls d H1 hn g1 hx => post cls d σ H1 hl hn hf g1 hx
theorem PstS.widen {x0 : Row} {D D' : Ends} {n : Nat} {fl : Fl} {e : Env} (h : PstS ki W fx T D n fl e) (h1 : fl ≠ .nx) (h2 : fl ≠ .bk) (h3 : fl ≠ .ct) (hr : D'.rt = D.rt) : PstS ki W fx (x0 ++ T) D' n fl e := by
  cases fl with
  | nx => exact absurd rfl h1
  | bk => exact absurd rfl h2
  | ct => exact absurd rfl h3
  | rt s =>
    intro v σ' H' l1 l2 hf g
    rw [hr]
    have g1 : G ki H' ((zE σ' e ++ [(some v, s)]) ++ (x0 ++ T)) := by rw [List.append_assoc]; exact g
    have g2 := dropMid g1
    rw [List.append_assoc] at g2
    exact h v σ' H' l1 l2 hf g2
  | ex x => exact fun cls d σ' H' l1 l2 hf g hx => h cls d σ' H' l1 l2 hf (dropMid g) hx
theorem rds_for {α : Type} {Y : Yl α} {wi : TI} {g : TG} {tb : TS} {ws : List Nat} {mi : Mir (List α)} {tg : α → Env → Option Env} {mb : StM} (hi : RdI ki W wi mi Y) (hg : RdGA ki g ws Y tg) (hw : ∀ p ∈ fx, p.1 ∉ ws) (hb : RdS ki W fx tb mb) : RdS ki W fx (tFor wi g tb) (sFor mi tg mb) := fun σ H env T fl env' hl hf gd e D post => by
  refine hi.useS hl hf gd e post fun ds J H1 env1 x0 n1 wk g1 e => ?_
  refine ⟨fun i m σ H => m = ds.length - i ∧ i ≤ ds.length ∧ σ.length = env.length ∧ Fx fx σ ∧ ∃ en : Env, en.length = env.length ∧ G ki H (zE σ en ++ (x0 ++ T)) ∧ forM tg mb (ds.drop i) en = some (fl, env'),
    ⟨ds.length, by simp, Nat.zero_le _, hl, hf, env1, n1, g1, e⟩, ?_⟩
  rintro i m σ3 H3 ⟨rfl, hile, hl3, hf3, en, hen, g3, e3⟩
  have gx : G ki H3 (x0 ++ (zE σ3 en ++ T)) := front g3
  by_cases hlt : i < ds.length
  case neg =>
    have ei : i = ds.length := by omega
    subst ei
    rw [List.drop_length] at e3
    cases e3
    exact .inl ⟨wk.stops _ _ gx, post σ3 H3 hl3 hen hf3 (dropMid g3)⟩
  obtain ⟨d, hd⟩ : ∃ d, ds[i]? = some d := ⟨ds[i], List.getElem?_eq_getElem hlt⟩
  have hdrop : ds.drop i = d :: ds.drop (i + 1) := by
    rw [List.drop_eq_getElem_cons hlt]
    rw [List.getElem?_eq_getElem hlt] at hd
    rw [Option.some.inj hd]
  rw [hdrop] at e3
  obtain ⟨e4, p1, p2⟩ := Option.bind_eq_some_iff.mp (show (tg d en).bind _ = some (fl, env') from e3)
  refine .inr ⟨wk.goes i _ _ hlt gx, fun σ' H' => σ'.length = env.length ∧ Fx fx σ' ∧ ∃ en : Env, en.length = env.length ∧ G ki H' (zE σ' en ++ (x0 ++ T)) ∧ forM tg mb (ds.drop (i + 1)) en = some (fl, env'),
    fun σ' H' ⟨a1, a2, a3⟩ => ⟨ds.length - (i + 1), by omega, rfl, hlt, a1, a2, a3⟩, fun x H' y => ?_⟩
  have gy := wk.yields i _ x H' _ d hd gx y
  obtain ⟨E, hy, gy⟩ := gy
  have gy2 : G ki H' (zE σ3 en ++ (E ++ (x0 ++ T))) := by
    rw [← List.append_assoc] at gy
    have := front gy
    rw [List.append_assoc] at this
    exact this
  refine hg σ3 H' en e4 x d E _ (hl3.trans hen.symm) hy gy2 p1 _ fun σ5 H5 l5 l6 k5 g5 => ?_
  have hf5 : Fx fx σ5 := hf3.keep k5 hw
  have hn4 : e4.length = env.length := l6.trans hen
  cases hmb : mb e4 with
  | none => simp only [hmb] at p2; cases p2
  | some pr =>
    obtain ⟨f6, e6⟩ := pr
    simp only [hmb] at p2
    refine hb σ5 H5 e4 (x0 ++ T) f6 e6 (l5.trans (hl3.trans hn4.symm)) hf5 g5 hmb _ ?_
    rw [hn4]
    cases f6 with
    | nx => exact fun σ' H' l1 l2 hf' g' => ⟨l1, hf', e6, l2, g', p2⟩
    | ct => exact fun σ' H' l1 l2 hf' g' => ⟨l1, hf', e6, l2, g', p2⟩
    | bk => cases p2; exact fun σ' H' l1 l2 hf' g' => post σ' H' l1 l2 hf' (dropMid g')
    | rt s => cases p2; exact post.widen (fun z => nomatch z) (fun z => nomatch z) (fun z => nomatch z) rfl
    | ex x => cases p2; exact post.widen (fun z => nomatch z) (fun z => nomatch z) (fun z => nomatch z) rfl
def whM (mc : Mir Bool) (mb : StM) : Nat → Env → Option (Fl × Env)
  | 0, _ => none
  | n + 1, env => match mc env with
    | some (.ok true, e1) => (match mb e1 with
      | some (.nx, e2) => whM mc mb n e2
      | some (.ct, e2) => whM mc mb n e2
      | some (.bk, e2) => some (.nx, e2)
      | some (.rt s, e2) => some (.rt s, e2)
      | some (.ex x, e2) => some (.ex x, e2)
      | none => none)
    | some (.ok false, e1) => some (.nx, e1)
    | some (.ex x, e1) => some (.ex x, e1)
    | none => none
/-- by some number of turns -/
noncomputable def sWhile (mc : Mir Bool) (mb : StM) : StM := fun env => by
  classical exact if h : ∃ n, (whM mc mb n env).isSome then whM mc mb h.choose env else none
theorem whM_mono {mc : Mir Bool} {mb : StM} : ∀ (n k : Nat) (env : Env) (r : Fl × Env), whM mc mb n env = some r → n ≤ k → whM mc mb k env = some r
  | 0, _, _, _, h, _ => nomatch h
  | n + 1, 0, _, _, _, h => absurd h (Nat.not_succ_le_zero _)
  | n + 1, k + 1, env, r, h, hk => by
    have ih := whM_mono (mc := mc) (mb := mb) n k
    unfold whM at h ⊢
    cases hc : mc env with
    | none => simp only [hc] at h; cases h
    | some p =>
      obtain ⟨rb, e1⟩ := p
      simp only [hc] at h ⊢
      cases rb with
      | ex x => exact h
      | ok b =>
        cases b with
        | false => exact h
        | true =>
          simp only at h ⊢
          cases hb : mb e1 with
          | none => simp only [hb] at h; cases h
          | some p =>
            obtain ⟨f, e2⟩ := p
            simp only [hb] at h ⊢
            cases f with
            | nx => exact ih _ _ h (by omega)
            | ct => exact ih _ _ h (by omega)
            | _ => exact h
theorem sWhile_of {mc : Mir Bool} {mb : StM} {n : Nat} {env : Env} {r : Fl × Env} (h : whM mc mb n env = some r) : sWhile mc mb env = some r := by
  unfold sWhile
  have hx : ∃ n, (whM mc mb n env).isSome := ⟨n, by rw [h]; rfl⟩
  rw [dif_pos hx]
  obtain ⟨q, hq⟩ := Option.isSome_iff_exists.mp hx.choose_spec
  have e1 := whM_mono _ (n + hx.choose) env r h (by omega)
  have e2 := whM_mono _ (n + hx.choose) env q hq (by omega)
  rw [hq]
  rw [e1] at e2
  exact e2.symm
theorem sWhile_inv {mc : Mir Bool} {mb : StM} {env : Env} {r : Fl × Env} (h : sWhile mc mb env = some r) : ∃ n, whM mc mb n env = some r := by
  unfold sWhile at h
  by_cases hx : ∃ n, (whM mc mb n env).isSome
  · rw [dif_pos hx] at h; exact ⟨_, h⟩
  · rw [dif_neg hx] at h; cases h
theorem rds_while {tc : TT} {tb : TS} {mc : Mir Bool} {mb : StM} (hc : RdT ki W tc mc) (hb : RdS ki W fx tb mb) : RdS ki W fx (tWhile tc tb) (sWhile mc mb) := fun σ H env T fl env' hl hf gd e D post => by
  obtain ⟨n0, e0⟩ := sWhile_inv e
  refine ⟨fun m σ H => σ.length = env.length ∧ Fx fx σ ∧ ∃ en : Env, en.length = env.length ∧ G ki H (zE σ en ++ T) ∧ whM mc mb m en = some (fl, env'), ⟨n0, hl, hf, env, rfl, gd, e0⟩, ?_⟩
  rintro m σ3 H3 ⟨hl3, hf3, en, hen, g3, e3⟩
  cases m with
  | zero => cases e3
  | succ m =>
    unfold whM at e3
    cases hcm : mc en with
    | none => simp only [hcm] at e3; cases e3
    | some p =>
      obtain ⟨rb, e4⟩ := p
      simp only [hcm] at e3
      cases rb with
      | ex x =>
        cases e3
        exact hc σ3 H3 en T _ _ (hl3.trans hen.symm) g3 hcm _ fun cls d H1 hn g1 hx => post cls d σ3 H1 hl3 (hn.trans hen) hf3 g1 hx
      | ok b =>
        refine hc σ3 H3 en T _ _ (hl3.trans hen.symm) g3 hcm _ fun H1 hn g1 => ?_
        cases b with
        | false =>
          rw [if_neg Bool.false_ne_true]
          cases e3
          exact post σ3 H1 hl3 (hn.trans hen) hf3 g1
        | true =>
          rw [if_pos rfl]
          simp only at e3
          refine ⟨fun σ' H' => σ'.length = env.length ∧ Fx fx σ' ∧ ∃ en : Env, en.length = env.length ∧ G ki H' (zE σ' en ++ T) ∧ whM mc mb m en = some (fl, env'), fun σ' H' q => ⟨m, Nat.lt_succ_self _, q⟩, ?_⟩
          cases hbm : mb e4 with
          | none => simp only [hbm] at e3; cases e3
          | some p =>
            obtain ⟨f6, e6⟩ := p
            simp only [hbm] at e3
            have hn4 : e4.length = env.length := hn.trans hen
            refine hb σ3 H1 e4 T f6 e6 (hl3.trans hn4.symm) hf3 g1 hbm _ ?_
            rw [hn4]
            cases f6 with
            | nx => exact fun σ' H' l1 l2 hf' g' => ⟨l1, hf', e6, l2, g', e3⟩
            | ct => exact fun σ' H' l1 l2 hf' g' => ⟨l1, hf', e6, l2, g', e3⟩
            | bk => cases e3; exact fun σ' H' l1 l2 hf' g' => post σ' H' l1 l2 hf' g'
            | rt s => cases e3; exact post
            | ex x => cases e3; exact post
end
end MM
/-! M7a: promises of defs that are called where nothing is being shown (repr) -/
namespace MM
open PySem PySem.Spec L2
/-- nothing is being shown, and room -/
structure RoomG (k : Nat) (A : Around) : Prop where
  room : Room k A
  quiet : A.guards = some []
theorem RoomG.sub {j k : Nat} {A : Around} (r : RoomG k A) (h : j ≤ k) : RoomG j A := ⟨r.room.mono h, r.quiet⟩
theorem RoomG.units {k : Nat} {A : Around} (r : RoomG k A) : A.units + 64 < cLine := r.room.units
structure FnG (P : Program) (w : World) (K : PySem.W.Frag) (mg : Str → Option Value) (base : Heap) (CX : CXT) (k : Nat) (f : Addr) (fd : FuncData) (ps : List Str) (sp : Sp) : Prop where
  arity : ∀ vs H Q E, sp vs H Q E → vs.length = ps.length
  go : ∀ (A : Around) (outer : List PySem.Env) (s : Shared) (H : Hp) (args : PySem.Args) (us : List Value) (vs : List V) (Q : VK) (E : XK), RoomG k A → Env0 P w K mg base A outer s H → BindsTo s fd args (ps.zip us) → Vals vs us → sp vs H Q E →
    codeAny (model P w) A (.call (.ref f) args) (CR CX outer P w H s Q E) s
section
variable {P : Program} {w : World} {K : PySem.W.Frag} {mg : Str → Option Value} {base : Heap} {CX : CXT} {k : Nat} {f : Addr} {fd : FuncData} {ps N : List Str} {sp sp' : Sp} {x qual : Str} {st : Stmt}
theorem FnG.up {j : Nat} (F : FnG P w K mg base CX j f fd ps sp) (h : j ≤ k) : FnG P w K mg base CX k f fd ps sp :=
  ⟨F.arity, fun A o s H a us vs Q E r => F.go A o s H a us vs Q E (r.sub h)⟩
theorem FnG.less (F : FnG P w K mg base CX k f fd ps sp) (h : ∀ vs H Q E, sp' vs H Q E → sp vs H Q E) : FnG P w K mg base CX k f fd ps sp' :=
  ⟨fun vs H Q E q => F.arity vs H Q E (h _ _ _ _ q), fun A o s H a us vs Q E r e b v q => F.go A o s H a us vs Q E r e b v (h _ _ _ _ q)⟩
/-- a def of the text, by its body -/
theorem fnG_of (F : Fun K x qual st f fd) (S : FnScope N ps (defScope st)) (len : ∀ vs H Q E, sp vs H Q E → vs.length = ps.length)
    (walk : ∀ (cdv : Value) (A : Around) (outer : List PySem.Env) (s : Shared) (H : Hp) (vs : List V) (Q : VK) (E : XK), RoomG k (A.deeper (PyProof.Rows.envOfC qual (defScope st) s.heap.objs.size f cdv)) → sp vs H Q E →
      ∃ t, PSs (cxOf CX P w K mg base N qual (defScope st) f cdv A outer s H E) (defBody st) t ∧ t { nx := fun _ H' => Q .non H', rt := Q } (L2.start N vs) H) : FnG P w K mg base CX (k + 1) f fd ps sp := by
  obtain ⟨oc, od, kV, doc, pm, an, cdv, ct, osl, rfl, lk, hcd⟩ := F.ex
  constructor
  · exact len
  intro A outer s H args us vs Q E hr env0 hb rel hsp
  have many := len _ _ _ _ hsp
  have keep0 : ∀ b o, base.get? b = some o → s.heap.get? b = some o := fun b o e => (env0.bs b o e).1
  have KX : K.In s.heap := env0.mod.kin.keeps keep0
  have kinds : ∀ y ∈ ps.zip us, (defScope st).names.lookup y.1 = some .local ∨ ((defScope st).names.lookup y.1 = some .cell ∧ ((cellsFrom (s.heap.objs.size + 1) (defScope st).names []).lookup y.1).isSome = true) := by
    rintro ⟨n, v⟩ hy
    exact (S.par n (List.of_mem_zip hy).1).imp id fun q => ⟨q, PySem.W.cellsFrom_some _ _ _ (.inl q)⟩
  refine codeAny_call_function hr.room.depth (KX _ _ lk) rfl S.co S.gen rfl (PySem.W.codeRec_of KX hcd) (hb _ _ _ _ ?_)
  refine wpAny_newFunctionEnv_cells S.kind kinds fun env he s1 new => ?_
  subst he
  refine ⟨(env0.mod.nolimit.keeps keep0).keeps new.toInCall.keep, codeAny_func ?_⟩
  obtain ⟨t, ht, hq⟩ := walk cdv A outer s H vs Q E ⟨hr.room.deeper _, hr.quiet⟩ hsp
  have I := inv_start (CX := CX) (E := E) S hr.room.hd env0 many rel new
  refine wpAny_mono (ht.run [] s1 (L2.start N vs) H _ I hq) (fun fl s' hs => ?_) fun _ _ hs => hs
  cases fl with
  | brk => obtain ⟨_, _, _, q⟩ := hs; exact q.elim
  | cont => obtain ⟨_, _, _, q⟩ := hs; exact q.elim
  | next =>
    obtain ⟨_, H', J, q⟩ := hs
    exact ⟨.non, H', J.os, J.bare, J.base, J.hok, rfl, q⟩
  | ret u =>
    obtain ⟨v, _, H', J, rv, q⟩ := hs
    exact ⟨v, H', J.os, J.bare, J.base, J.hok, rv, q⟩
end
section
variable {X : Cx} {CX : CXT} {k : Nat} {f : Addr} {fd : FuncData} {ps : List Str} {sp : Sp} {E : St → XK} {x : Str} {p pos : Pos} {e : Expr} {es : List Expr} {t : TA}
/-- f(e, ..) -/
theorem pe_callG (F : FnG X.prog X.w X.K X.mg X.base CX k f fd ps sp) (hr : RoomG k X.A) (hg : Gl X x) (hm : X.mg x = some (.ref f)) (hk : PySem.W.keepIn X.K (.ref f) = true) (hb : Binds X.K fd ps []) (hx : ∀ σ, PassesAt CX X σ (E σ))
    (ha : PA X (e :: es) t) (hdb : (x == ("__debug__" : Str)) = false := by decide) (he : starEach (e :: es) X.env = (false, eval e X.env) :: starEach es X.env := by rfl) (hpl : (backTo pos (starEach es X.env)).any (·.1) = false := by rfl) :
    PE X (.Call (.Name x p) (e :: es) [] pos) (tCallS sp E t) := by
  constructor
  intro pins s σ H Q I h
  refine wpAny_Call_Name_kw (ld_glob I hg hm ?_ hdb)
  refine PySem.W.callWith_K (h₀ := X.base) I.ok.mod.kin hk (thn (ha.run pos pins s σ H _ I h) fun us s1 got => ?_) he hpl
  obtain ⟨vs, H1, I1, r, q⟩ := got
  refine ⟨I1.kIn, ?_⟩
  have cnt : us.length = ps.length := (Vals.length r).symm.trans (F.arity _ _ _ _ q)
  have b := hb s1 us I1.kIn (by rw [List.append_nil]; exact cnt)
  rw [List.append_nil] at b
  refine wpAny_call (codeAny_mono (F.go X.A X.stack s1 H1 ⟨us, []⟩ us vs Q (E σ) hr I1.env0 b r q) fun res s' hq => ?_)
  match res, hq with
  | .error err, hq => exact hx σ pins H1 s1 err s' I1 hq
  | .ok (.ret u), hq => exact I1.after hq
end
end MM
/-! M7b: the law's own call, for such promises -/
namespace MM
open PySem PySem.Spec L2 PyProof.Rows
/-- the script is all that may be tracked -/
theorem law_run {P : Program} {w : World} {K : PySem.W.Frag} {mg mb : Str → Option Value} {CX : CXT} {k : Nat} {fa a : Addr} {fd : FuncData} {x : Str} {sp : Sp} {z : Shared} {vs : List Value} {H : Hp}
    (KX : K.In z.heap) (hns : z.heap.Ns mainGlobals mg) (hb : z.heap.Ns builtinsNs mb) (hbb : ∀ x : Str, x ≠ "__name__" → mb x = bootBuiltins x) (hlim : z.heap.NoLimit) (hg : z.gens = #[])
    (ha : z.heap.get? a = some { cls := .type "list", data := .seq vs.toArray }) (hr : Room k callerA) (F : ∀ base : Heap, K.In base → base.Ns mainGlobals mg → FnG P w K mg base CX k fa fd [x] sp)
    (hbind : ∀ (s : Shared) (u : Value), BindsTo s fd ⟨[u], []⟩ [(x, u)]) (hsp : sp [.ref a] H (fun v _ => v = .bl true) fun _ _ _ => False) (hCX : ∀ e s', CX [] H z (fun _ _ _ => False) e s' → False)
    (hOnly : Only H) (hok : HOk P w H z.heap) (own : ∀ b, H b ≠ none → b = a ∧ K.lookup a = none) :
    codeAny (model P w) callerA (.call (.ref fa) ⟨[.ref a], []⟩) (fun r s' => r = .ok (.ret (.bool true)) ∧ OldK z.heap s'.heap ∧ s'.os = z.os ∧ AllBare s'.gens) z := by
  -- what is no list of its own stands in the base
  have free : ∀ {b : Addr} {o : Obj}, z.heap.get? b = some o → (b = a → False) → (hidT z.heap H).get? b = some o := fun {b o} e n => by
    refine hidT_get e ?_
    cases q : H b with
    | none => rfl
    | some u => exact (n (own b (by rw [q]; exact fun w => nomatch w)).1).elim
  have tables : ∀ {b : Addr} {m : Str → Option Value}, z.heap.Ns b m → (hidT z.heap H).Ns b m := by
    rintro b m ⟨o, es, ep, e, d, r⟩
    refine ⟨o, es, ep, free e fun q => ?_, d, r⟩
    subst q
    rw [ha] at e
    cases e
    cases d
  have kin : K.In (hidT z.heap H) := fun b o e => by
    refine hidT_get (KX b o e) ?_
    cases q : H b with
    | none => rfl
    | some u =>
      obtain ⟨q1, q2⟩ := own b (by rw [q]; exact fun w => nomatch w)
      rw [q1, q2] at e
      cases e
  obtain ⟨ml, l1, l2⟩ := hlim
  have start : Env0 P w K mg (hidT z.heap H) callerA [] z H :=
    ⟨rfl, ⟨kin, tables hns, ⟨mb, tables hb, hbb⟩, ⟨ml, tables l1, l2⟩⟩, fun b o e => of_hidT e, Nat.le_of_eq (hidT_size _ _), trivial, fun b q => absurd (show b ∈ ([] : List Addr) from q) (by simp), hok, .of_eq hg⟩
  refine codeAny_mono ((F _ kin (tables hns)).go callerA [] z H ⟨[.ref a], []⟩ [.ref a] [.ref a] _ _ ⟨hr, rfl⟩ start (hbind z (.ref a)) (.cons rfl .nil) hsp) fun r s' fin => ?_
  match r, fin with
  | .error e, fin => exact (hCX e s' fin).elim
  | .ok (.ret u), ⟨v, H', os, bare, un, hok', rel, q⟩ =>
    have q : v = .bl true := q
    subst q
    cases (show u = Value.bool true from rel)
    refine ⟨rfl, OldK.of_keep fun b o e => ?_, os, bare⟩
    rcases hOnly b with n | ⟨ob, xs, n⟩
    · exact un.keep b o e n (fun w => absurd (show b ∈ ([] : List Addr) from w) (by simp)) (by simp)
    · have e1 : z.heap.get? b = some ob := (hok b _ n).1
      have e2 : s'.heap.get? b = some ob := (hok' b _ (un.frzs b ob _ n)).1
      rw [e1] at e
      rw [e2, e]
theorem law_callG {P : Program} {w : World} {K : PySem.W.Frag} {mg mb : Str → Option Value} {CX : CXT} {k : Nat} {fa a : Addr} {fd : FuncData} {x : Str} {sp : Sp} {z : Shared} {vs : List Value} {ns : List Int}
    (KX : K.In z.heap) (hns : z.heap.Ns mainGlobals mg) (hb : z.heap.Ns builtinsNs mb) (hbb : ∀ x : Str, x ≠ "__name__" → mb x = bootBuiltins x) (hlim : z.heap.NoLimit) (hg : z.gens = #[])
    (ha : z.heap.get? a = some { cls := .type "list", data := .seq vs.toArray }) (hi : IntsAre vs ns) (hl : ns.length ≤ sizeLine) (hr : Room k callerA) (F : ∀ base : Heap, K.In base → base.Ns mainGlobals mg → FnG P w K mg base CX k fa fd [x] sp)
    (hbind : ∀ (s : Shared) (u : Value), BindsTo s fd ⟨[u], []⟩ [(x, u)]) (hsp : ∀ H : Hp, SqL K H a (ns.map V.int) → sp [.ref a] H (fun v _ => v = .bl true) fun _ _ _ => False) (hCX : ∀ H e s', CX [] H z (fun _ _ _ => False) e s' → False) :
    codeAny (model P w) callerA (.call (.ref fa) ⟨[.ref a], []⟩) (fun r s' => r = .ok (.ret (.bool true)) ∧ OldK z.heap s'.heap ∧ s'.os = z.os ∧ AllBare s'.gens) z := by
  have rv := vals_ints hi
  have many := hi.length
  cases hk : K.lookup a with
  | some o =>
    have e := (KX a o hk).symm.trans ha
    cases e
    refine law_run (H := fun _ => none) KX hns hb hbb hlim hg ha hr F hbind (hsp _ (.inr ⟨_, vs.toArray, _, hk, rfl, rfl, rfl, ?_, rv⟩)) (hCX _) (fun _ => .inl rfl) (fun b u q => nomatch q) fun b q => absurd rfl q
    rw [List.size_toArray, many]; exact hl
  | none =>
    let ob : Obj := { cls := .type "list", data := .seq vs.toArray }
    have at_ : ∀ b, (if b = a then some (HO.frz ob (.lst (ns.map V.int))) else none) = none ∨ b = a := fun b => by
      by_cases q : b = a
      · exact .inr q
      · exact .inl (if_neg q)
    refine law_run (H := fun b => if b = a then some (.frz ob (.lst (ns.map V.int))) else none) KX hns hb hbb hlim hg ha hr F hbind (hsp _ (.inl (.inr ⟨ob, if_pos rfl⟩))) (hCX _) (fun b => (at_ b).imp id fun q => ⟨ob, _, if_pos q⟩) (fun b u q => ?_) fun b q => ?_
    · rcases at_ b with n | n
      · exact nomatch n.symm.trans q
      · subst n
        cases (if_pos rfl).symm.trans q
        exact ⟨ha, by rw [List.length_map]; exact hl, vs, _, rv, ha⟩
    · exact ⟨(at_ b).resolve_left q, hk⟩
/-- the goal that k_head leaves, from the law's promise -/
theorem walk_ofG {l : PySem.W.OpenLaw} {n k : Nat} {q : Program} {loose : List Str} {XP : (Str → Option Value) → Heap → Prop} {YP : World → Heap → Prop} {d : DefRec} {K : Params → PySem.W.Frag} {CX : World → CXT} {sp : World → Sp} {x : Str}
    (hn : l.most = some n) (hn2 : n ≤ sizeLine) (hdf : d.params.defaults = []) (hr : Room k callerA) (hY : ∀ (w : World) (h : Heap), YP w h → (K w.params).In h)
    (F : ∀ (w : World) (mg : Str → Option Value) (fa : Addr) (h : Heap), (K w.params).In h → h.Ns mainGlobals mg → mg d.name = some (.ref fa) →
      ∃ fd : FuncData, (∀ (s : Shared) (u : Value), BindsTo s fd ⟨[u], []⟩ [(x, u)]) ∧ ∀ base : Heap, (K w.params).In base → base.Ns mainGlobals mg → FnG l.prog w (K w.params) mg base (CX w) k fa fd [x] (sp w))
    (hsp : ∀ (w : World) (H : Hp) (a : Addr) (ns : List Int), ns.length ≤ n → SqL (K w.params) H a (ns.map V.int) → sp w [.ref a] H (fun v _ => v = .bl true) fun _ _ _ => False)
    (hCX : ∀ (w : World) (H : Hp) (s : Shared) (e : Value) (s' : Shared), CX w [] H s (fun _ _ _ => False) e s' → False) : PySem.W.WalkO q loose XP YP l.row.toRowW d [] (fun f vs => PySem.call f vs) := by
  refine Att.attach_call hn hdf fun w s₀ z mg mb fa o pm cd doc a vs ns G Y _ _ _ hmg hobj hints hlen hg => ?_
  obtain ⟨fd, hb, hF⟩ := F w mg fa _ (hY w _ Y) G.T.g hmg
  exact law_callG (hY w _ Y) G.T.g G.T.b G.T.builtins G.T.nolimit hg hobj hints (Nat.le_trans hlen hn2) hr hF hb (fun H hS => hsp w H a ns hlen hS) fun H e s' => hCX w H z e s'
end MM
/-! M7: defs, their promises and calls; the rules laid together -/
namespace MM
open PySem PySem.Spec L2

/-! ### defs -/
abbrev FnM := List Slot → Option (Res Slot × List Slot)
/-- a def's mirror by its body's: n parameters, N names -/
def runE (n : Nat) : Option (Fl × Env) → Option (Res Slot × List Slot)
  | some (.rt s, e) => some (.ok s, e.take n)
  | some (.nx, e) => some (.ok (.p .none), e.take n)
  | some (.ex x, e) => some (.ex x, e.take n)
  | _ => none
def runB (n N : Nat) (mb : StM) : FnM := fun ss => if ss.length = n then runE n (mb (ss ++ List.replicate (N - n) .un)) else none
theorem runB_n {n N : Nat} {mb : StM} {ss : List Slot} (h : (runB n N mb ss).isSome) : ss.length = n := by
  unfold runB at h
  by_cases q : ss.length = n
  · exact q
  · rw [if_neg q] at h; cases h
def lentRow (vs : List V) (ss : List Slot) (lent : List Nat) : Row := lent.map fun i => (vs[i]?, (ss[i]?).getD .un)
def PstF (ki : Ki) (lent : List Nat) (vs : List V) (T : Row) (Q : VK) (E : XK) : Res Slot → List Slot → Prop
  | .ok s, ss' => ∀ v H', G ki H' (lentRow vs ss' lent ++ ((some v, s) :: T)) → Q v H'
  | .ex x, ss' => ∀ cls d H', G ki H' (lentRow vs ss' lent ++ T) → XP ki x cls d H' → E cls d H'
/-- the promise: who hands such things gets what the mirror says -/
def spM (ki : Ki) (n : Nat) (lent : List Nat) (fm : FnM) : Sp := fun vs H Q E => ∃ (ss : List Slot) (T : Row) (r : Res Slot) (ss' : List Slot), vs.length = n ∧ ss.length = n ∧ G ki H (zE (vs.map some) ss ++ T) ∧ fm ss = some (r, ss') ∧ PstF ki lent vs T Q E r ss'
theorem zE_app {σ τ : L2.St} {e f : Env} (h : σ.length = e.length) : zE (σ ++ τ) (e ++ f) = zE σ e ++ zE τ f := List.zip_append h
theorem Good.pushUns {K : PySem.W.Frag} {H : Hp} {R : List Addr} {L : Row} (g : Good K H R L) : ∀ (k : Nat) (σ : L2.St), σ.length = k → Good K H R (zE σ (List.replicate k .un) ++ L)
  | 0, [], _ => g
  | k + 1, o :: σ, h => (g.pushUns k σ (by simpa using h)).pushUn
  | 0, _ :: _, h => by simp at h
  | _ + 1, [], h => by simp at h
/-- picking places out of a row -/
theorem pickRow {ki : Ki} {H : Hp} {σ : L2.St} {env : Env} {T : Row} (hl : σ.length = env.length) : ∀ (is : List Nat), is.Nodup → G ki H (zE σ env ++ T) → G ki H ((is.map fun i => ((σ[i]?).getD none, (env[i]?).getD .un)) ++ T) := by
  have main : ∀ (is : List Nat), is.Nodup → ∀ (σ : L2.St) (env : Env) (T : Row), σ.length = env.length → G ki H (zE σ env ++ T) → G ki H ((is.map fun i => ((σ[i]?).getD none, (env[i]?).getD .un)) ++ T) := by
    intro is
    induction is with
    | nil => exact fun _ σ env T _ g => Good.dropApp g
    | cons i is ih =>
      intro nd σ env T hl g
      have nd2 := List.nodup_cons.mp nd
      have g1 := takeOut hl i g
      have g2 := ih nd2.2 (σ.set i none) (env.set i .un) _ (by rw [List.length_set, List.length_set]; exact hl) g1
      have e : (is.map fun j => (((σ.set i none)[j]?).getD none, ((env.set i Slot.un)[j]?).getD .un)) = is.map fun j => ((σ[j]?).getD none, (env[j]?).getD .un) := by
        apply List.map_congr_left
        intro j hj
        have : i ≠ j := fun z => nd2.1 (z ▸ hj)
        rw [List.getElem?_set_ne this, List.getElem?_set_ne this]
      rw [e] at g2
      exact g2.perm List.perm_middle
  exact fun is nd g => main is nd σ env T hl g
theorem fn_mir {P : Program} {w : World} {K : PySem.W.Frag} {cl : Str → Value} {mg : Str → Option Value} {base : Heap} {x qual : Str} {st : Stmt} {f : Addr} {fd : FuncData} {N ps : List Str} {k n : Nat} {lent : List Nat} {mb : StM}
    (F : Fun K x qual st f fd) (S : FnScope N ps (defScope st)) (hn : ps.length = n) (hN : n ≤ N.length) (hnd : lent.Nodup) (hlt : ∀ i ∈ lent, i < n)
    (hbody : ∀ (cdv : Value) (A : Around) (outer : List PySem.Env) (s : Shared) (H : Hp) (E : XK) (W : WX) (fx : FxL), RoomG k (A.deeper (PyProof.Rows.envOfC qual (defScope st) s.heap.objs.size f cdv)) →
      Takes (cxOf (L2.CX P w) P w K mg base N qual (defScope st) f cdv A outer s H E) W →
      PassesOwn (model P w) (A.deeper (PyProof.Rows.envOfC qual (defScope st) s.heap.objs.size f cdv)) (cxOf (L2.CX P w) P w K mg base N qual (defScope st) f cdv A outer s H E).env (cxOf (L2.CX P w) P w K mg base N qual (defScope st) f cdv A outer s H E).xe → (∀ p ∈ fx, p.1 ∈ lent) →
      ∃ ts, PSs (cxOf (L2.CX P w) P w K mg base N qual (defScope st) f cdv A outer s H E) (defBody st) ts ∧ RdS ⟨K, cl⟩ W fx ts mb) : FnG P w K mg base (L2.CX P w) (k + 1) f fd ps (spM ⟨K, cl⟩ n lent (runB n N.length mb)) := by
  refine fnG_of F S (fun vs H Q E h => ?_) (fun cdv A outer s H vs Q E hr h => ?_)
  · obtain ⟨ss, T, r, ss', h1, _⟩ := h
    exact h1.trans hn.symm
  · obtain ⟨ss, T, r, ss', h1, h2, g, hm, post⟩ := h
    have hfx : ∀ p ∈ (lent.filterMap fun i => (vs[i]?).map fun v => (i, v)), p.1 ∈ lent := fun p hp => by
      obtain ⟨i, hi, e⟩ := List.mem_filterMap.mp hp
      obtain ⟨v, _, e⟩ := Option.map_eq_some_iff.mp e
      rw [← e]; exact hi
    obtain ⟨ts, hp, hr2⟩ := hbody cdv A outer s H E (fun cls d _ H => E cls d H) (lent.filterMap fun i => (vs[i]?).map fun v => (i, v)) hr
      (takes_of rfl rfl rfl rfl) (passes_of rfl) hfx
    refine ⟨ts, hp, ?_⟩
    -- the entry
    have hs : (L2.start N vs).length = (ss ++ List.replicate (N.length - n) Slot.un).length := by
      unfold L2.start; rw [List.length_append, List.length_map, List.length_replicate, List.length_append, List.length_replicate, h1, h2]
    have g0 : G ⟨K, cl⟩ H (zE (L2.start N vs) (ss ++ List.replicate (N.length - n) .un) ++ T) := by
      unfold L2.start
      rw [zE_app (by rw [List.length_map, h1, h2]), h1]
      have g1 := Good.pushUns g (N.length - n) (List.replicate (N.length - n) none) List.length_replicate
      exact g1.perm (by rw [List.append_assoc, ← List.append_assoc, ← List.append_assoc]; exact List.Perm.append_right _ List.perm_append_comm)
    have hf0 : Fx (lent.filterMap fun i => (vs[i]?).map fun v => (i, v)) (L2.start N vs) := fun p hp => by
      obtain ⟨i, hi, e⟩ := List.mem_filterMap.mp hp
      obtain ⟨v, e1, e⟩ := Option.map_eq_some_iff.mp e
      subst e
      have hlt' : i < vs.length := (List.getElem?_eq_some_iff.mp e1).1
      show (L2.start N vs)[i]? = some (some v)
      unfold L2.start
      rw [List.getElem?_append_left (by rw [List.length_map]; exact hlt'), List.getElem?_map, e1]; rfl
    -- what is lent, at the end
    have back : ∀ {σ' : L2.St} {e : Env} {H' : Hp} {B : Row}, σ'.length = (ss ++ List.replicate (N.length - n) Slot.un).length → e.length = (ss ++ List.replicate (N.length - n) Slot.un).length → Fx (lent.filterMap fun i => (vs[i]?).map fun v => (i, v)) σ' → G ⟨K, cl⟩ H' (zE σ' e ++ B) → G ⟨K, cl⟩ H' (lentRow vs (e.take n) lent ++ B) := fun {σ' e H' B} l1 l2 hf' g' => by
      have g2 := pickRow (l1.trans l2.symm) lent hnd g'
      have : (lent.map fun i => ((σ'[i]?).getD none, (e[i]?).getD Slot.un)) = lentRow vs (e.take n) lent := by
        unfold lentRow
        apply List.map_congr_left
        intro i hi
        have hin := hlt i hi
        have hv : i < vs.length := by omega
        have q1 := hf' (i, vs[i]) (List.mem_filterMap.mpr ⟨i, hi, by rw [List.getElem?_eq_getElem hv]; rfl⟩)
        have q1 : σ'[i]? = some (some vs[i]) := q1
        rw [q1, List.getElem?_eq_getElem hv, List.getElem?_take_of_lt hin]; rfl
      rw [this] at g2
      exact g2
    unfold runB at hm
    rw [if_pos h2] at hm
    cases hmb : mb (ss ++ List.replicate (N.length - n) .un) with
    | none => rw [hmb] at hm; cases hm
    | some p =>
      obtain ⟨fl, e⟩ := p
      rw [hmb] at hm
      refine hr2 _ H _ T fl e hs hf0 g0 hmb _ ?_
      cases fl with
      | nx => cases hm; exact fun σ' H' l1 l2 hf' g' => post .non H' ((back l1 l2 hf' g').push (fun F => .non) |> toTop)
      | rt s => cases hm; exact fun v σ' H' l1 l2 hf' g' => post v H' (back l1 l2 hf' g')
      | ex x => cases hm; exact fun cls d σ' H' l1 l2 hf' g' hx => post cls d H' (back l1 l2 hf' g') hx
      | bk => cases hm
      | ct => cases hm

/-! ### calls of defs -/
def argS : List Opd → Option (List Slot)
  | [] => some []
  | .val s :: os => (argS os).map fun ss => (match s.dat with | some d => .p d | none => s) :: ss
  | .ref _ :: _ => none
def fnRes {α : Type} (f : Slot → α) : Res Slot → Res α
  | .ok s => .ok (f s)
  | .ex x => .ex x
def mFn (fm : FnM) (ms : Mir (List Opd)) : ExM := bnd ms fun os env => (argS os).bind fun ss => (fm ss).map fun p => (fnRes .val p.1, env)
/-- the first argument is a name's own thing, handed on and taken back -/
def mFnL (fm : FnM) (ms : Mir (List Opd)) : ExM := bnd ms fun os env => match os with
  | .ref i :: os' => (argS os').bind fun ss => (fm (((env[i]?).getD .un) :: ss)).map fun p => (fnRes .val p.1, env.set i ((p.2[0]?).getD .un))
  | _ => none
section
variable {ki : Ki} {W : WX} {tas : TA} {ms : Mir (List Opd)} {fm : FnM} {n : Nat} {σ : L2.St}
theorem argS_row {K : PySem.W.Frag} {H : Hp} {R : List Addr} : ∀ {os : List Opd} {vs : List V} {ss : List Slot} {L : Row}, isAll σ vs os → argS os = some ss → Good K H R (zO vs os ++ L) → Good K H R (zE (vs.map some) ss ++ L) ∧ vs.length = ss.length
  | [], [], ss, L, _, h, g => by cases h; exact ⟨g, rfl⟩
  | o :: os, v :: vs, ss, L, ⟨h1, h2⟩, h, g => by
    cases o with
    | ref i => cases h
    | val s =>
      obtain ⟨ss', q1, rfl⟩ := Option.map_eq_some_iff.mp (show (argS os).map _ = some ss from h)
      have g1 : Good K H R ((some v, s) :: (zO vs os ++ L)) := g
      have g2 : Good K H R ((some v, (match s.dat with | some d => .p d | none => s)) :: (zO vs os ++ L)) := by
        cases q : s.dat with
        | none => exact g1
        | some d => exact g1.frz q
      generalize (match s.dat with | some d => Slot.p d | none => s) = s2 at g2
      have g3 : Good K H R (zO vs os ++ ((some v, s2) :: L)) := g2.perm List.perm_middle.symm
      obtain ⟨g4, len⟩ := argS_row h2 q1 g3
      exact ⟨g4.perm List.perm_middle, by rw [List.length_cons, List.length_cons, len]⟩
  | [], _ :: _, _, _, h, _, _ => h.elim
  | _ :: _, [], _, _, h, _, _ => h.elim
theorem isAll_len : ∀ {vs : List V} {os : List Opd}, isAll σ vs os → vs.length = os.length
  | [], [], _ => rfl
  | _ :: _, _ :: _, ⟨_, h⟩ => by rw [List.length_cons, List.length_cons, isAll_len h]
  | [], _ :: _, h => h.elim
  | _ :: _, [], h => h.elim
theorem argS_len : ∀ {os : List Opd} {ss : List Slot}, argS os = some ss → ss.length = os.length
  | [], ss, h => by cases h; rfl
  | .val s :: os, ss, h => by
    obtain ⟨ss', q1, rfl⟩ := Option.map_eq_some_iff.mp (show (argS os).map _ = some ss from h)
    rw [List.length_cons, List.length_cons, argS_len q1]
  | .ref _ :: _, _, h => by cases h
theorem rd_fn (hn : ∀ os ss, argS os = some ss → (fm ss).isSome → ss.length = n) (ha : RdA ki W tas ms) : Rd ki W (tCallS (spM ki n [] fm) (WE W) tas) (mFn fm ms) := fun σ H env T r env' hl gd e Q post => by
  refine ha.use (E := []) hl gd e post fun os vs H1 env1 n1 g1 i1 e => ?_
  obtain ⟨ss, q1, e⟩ := Option.bind_eq_some_iff.mp e
  obtain ⟨⟨r1, ss'⟩, q2, e⟩ := Option.map_eq_some_iff.mp e
  cases e
  obtain ⟨g2, len⟩ := argS_row i1 q1 (front g1)
  have hss := hn os ss q1 (by rw [q2]; rfl)
  refine ⟨ss, _, r1, ss', len.trans hss, hss, g2, q2, ?_⟩
  cases r1 with
  | ok s => exact fun v H' g3 => post v H' n1 (toTop g3) trivial
  | ex x => exact fun cls d H' g3 hx => post cls d H' n1 g3 hx
theorem rd_fnL (hn : ∀ s ss, (fm (s :: ss)).isSome → ss.length + 1 = n) (ha : RdA ki W tas ms) : Rd ki W (tCallS (spM ki n [0] fm) (WE W) tas) (mFnL fm ms) := fun σ H env T r env' hl gd e Q post => by
  refine ha.use (E := []) hl gd e post fun os vs H1 env1 n1 g1 i1 e => ?_
  match os, vs, i1, g1, e with
  | [], _, _, _, e => cases e
  | .val _ :: _, _, _, _, e => cases e
  | .ref i :: os', [], i1, _, _ => exact i1.elim
  | .ref i :: os', v0 :: vs, ⟨h0, i1⟩, g1, e =>
    obtain ⟨ss, q1, e⟩ := Option.bind_eq_some_iff.mp e
    obtain ⟨⟨r1, ss'⟩, q2, e⟩ := Option.map_eq_some_iff.mp e
    cases e
    have hl1 : σ.length = env1.length := hl.trans n1.symm
    have h0 : σ[i]? = some (some v0) := h0
    have hi : i < env1.length := by
      have := (List.getElem?_eq_some_iff.mp h0).1
      omega
    have g2 : G ki H1 (zE σ env1 ++ (zO vs os' ++ T)) := dropTop (x := (some v0, .un)) g1
    have g3 := takeOut hl1 i g2
    rw [h0] at g3
    have g4 : G ki H1 (zO vs os' ++ ((some v0, (env1[i]?).getD .un) :: (zE (σ.set i none) (env1.set i .un) ++ T))) := by
      refine g3.perm ?_
      refine (List.perm_middle).trans ?_
      refine (List.Perm.cons _ ?_).trans List.perm_middle.symm
      rw [← List.append_assoc, ← List.append_assoc]
      exact List.Perm.append_right _ List.perm_append_comm
    obtain ⟨g5, len⟩ := argS_row i1 q1 g4
    have hss := hn _ ss (by rw [q2]; rfl)
    have g6 : G ki H1 (zE ((v0 :: vs).map some) (((env1[i]?).getD .un) :: ss) ++ (zE (σ.set i none) (env1.set i .un) ++ T)) := g5.perm List.perm_middle
    refine ⟨((env1[i]?).getD .un) :: ss, _, r1, ss', by rw [List.length_cons]; omega, by rw [List.length_cons]; omega, g6, q2, ?_⟩
    have put : ∀ {H' : Hp} {B : Row} {s : Slot}, G ki H' ((some v0, s) :: (zE (σ.set i none) (env1.set i .un) ++ B)) → G ki H' (zE σ (env1.set i s) ++ B) := fun {H' B s} g => by
      have g7 := zE_set (i := i) (by rw [List.length_set, List.length_set]; exact hl1) (by rw [List.length_set]; exact hi) (toTop g)
      rw [List.set_set, List.set_set] at g7
      have ez : σ.set i (some v0) = σ := by
        apply List.ext_getElem?
        intro j
        by_cases hj : i = j
        · subst hj; rw [List.getElem?_set_self (by omega)]; exact h0.symm
        · rw [List.getElem?_set_ne hj]
      rw [ez] at g7
      exact g7
    cases r1 with
    | ok s =>
      intro v H' g7
      have g8 : G ki H' ((some v0, (ss'[0]?).getD .un) :: ((some v, s) :: (zE (σ.set i none) (env1.set i .un) ++ T))) := g7
      have g9 : G ki H' ((some v0, (ss'[0]?).getD .un) :: (zE (σ.set i none) (env1.set i .un) ++ ((some v, s) :: T))) := g8.perm (List.Perm.cons _ List.perm_middle.symm)
      exact post v H' (by rw [List.length_set]; exact n1) (put g9) trivial
    | ex x =>
      intro cls d H' g7 hx
      exact post cls d H' (by rw [List.length_set]; exact n1) (put g7) hx
end
end MM
/-! M8: operations by data -/
namespace L2
open PySem PySem.Spec PyProof.Rows
section
variable {X : Cx}
/-- lists added, whoever they are -/
def rCatG (K : PySem.W.Frag) : R2 := fun x y H Q => ∃ l b xs zs, x = .ref l ∧ y = .ref b ∧ SqL K H l xs ∧ SqL K H b zs ∧ xs.length + zs.length ≤ sizeLine ∧ ∀ p, H p = none → Q (.ref p) (upd H p (.lst (xs ++ zs)))
theorem op_catG : OpR X (binaryOp .Add) (rCatG X.K) := by
  intro pins s σ H x y v u Q I rx ry h
  obtain ⟨l, b, xs, zs, rfl, rfl, hH, hB, hz, q⟩ := h
  cases rx
  cases ry
  obtain ⟨its, r, p1, z1⟩ := I.list hH
  obtain ⟨its2, r2, p2, z2⟩ := I.list hB
  obtain ⟨⟨cls, dd, data, sl⟩, n, ho, hc, hdn, hd⟩ := p1
  obtain ⟨⟨cls2, dd2, data2, sl2⟩, n2, ho2, hc2, hdn2, hd2⟩ := p2
  simp only at hc hd hc2 hd2
  subst hc hd hc2 hd2
  have e : its.toArray ++ its2.toArray = (its ++ its2).toArray := by simp
  have hl := r.length
  have hl2 := r2.length
  refine concat_meets ⟨_, ho, rfl⟩ ⟨_, ho2, rfl⟩ noFill_list_add seq_list_add PySem.F.slot_list_add PySem.F.entry_list_add (PySem.F.args_list_add_2 _ _) (list_addW l b its.toArray its2.toArray n n2 dd dd2 sl sl2 (by simp; omega)) ⟨ho, ho2, ?_⟩
  rw [e]
  exact ⟨.ref _, _, I.lnew (t' := s.toks) (r.append r2) (by rw [List.length_append]; omega), rfl, q _ I.fresh⟩
/-- t + u, the new one laid as the reading wants -/
def rCatC (K : PySem.W.Frag) : R2 := fun x y H Q => ∃ a b xs ys, x = .ref a ∧ y = .ref b ∧ SqT K H a xs ∧ SqT K H b ys ∧ xs.length + ys.length ≤ sizeLine ∧
  (xs = [] → Q (.ref b) H) ∧ (xs ≠ [] → ys = [] → Q (.ref a) H) ∧ (xs ≠ [] → ys ≠ [] → ∀ p, H p = none → ∃ k : Bool, ∀ ob : Obj, ob.dict = none → Q (.ref p) (upd H p (hoT k ob (xs ++ ys))))
theorem op_catC : OpR X (binaryOp .Add) (rCatC X.K) := by
  intro pins s σ H x y v u Q I rx ry h
  obtain ⟨a, b, xs, ys, rfl, rfl, ha, hb, hz, q0, q1, q2⟩ := h
  cases rx
  cases ry
  obtain ⟨its, r1, p1, _⟩ := I.tuple ha
  obtain ⟨its2, r2, p2, _⟩ := I.tuple hb
  by_cases hx : xs = []
  · subst hx
    cases r1
    exact cat_tup0 p1 p2 ⟨.ref b, H, I, rfl, q0 rfl⟩
  · refine HT.cat_tup p1 p2 (fun z => hx (r1.nil_iff.mp z)) (fun z => ⟨.ref a, H, I, rfl, q1 hx (r2.nil_iff.mp z)⟩) (fun z => ?_) (by rw [← r1.length, ← r2.length]; exact hz)
    obtain ⟨k, q2⟩ := q2 hx (fun w => z (r2.nil_iff.mpr w)) _ (I.hok.fresh (Nat.le_refl _))
    refine ⟨.ref s.heap.objs.size, _, I.laid (t' := s.toks) (o := hoT k _ (xs ++ ys)) (fun b ob q => Heap.get?_push_of_some _ q) (Nat.le_refl _) (okT k (Heap.get?_push_size _ rfl) ?_), rfl, q2 _ rfl⟩
    exact ⟨by rw [List.length_append]; exact hz, _, r1.append r2, IsTup.new _ _⟩
def rAddG (K : PySem.W.Frag) : R2 := fun x y H Q => rI0 (fun i j => .int (i + j)) x y H Q ∨ (∃ i j, x = .str i ∧ y = .str j ∧ i.length + j.length ≤ sizeLine ∧ Q (.str (i ++ j)) H) ∨ rCatG K x y H Q ∨ rCatC K x y H Q
theorem op_addG : OpR X (binaryOp .Add) (rAddG X.K) := op_add.or (op_add_str.or (op_catG.or op_catC))
theorem call_tuple_ofC : CallR X (.type "tuple") (fun xs H Q => ∃ p ys, xs = [.ref p] ∧ ((SqL X.K H p ys ∧ ∀ l, H l = none → ∃ k : Bool, ∀ ob : Obj, ob.dict = none → Q (.ref l) (upd H l (hoT k ob ys))) ∨ (SqT X.K H p ys ∧ Q (.ref p) H))) := by
  intro pins s σ H xs us Q I r h
  obtain ⟨p, ys, rfl, h⟩ := h
  obtain ⟨u, rfl, rx⟩ := vals1 r
  cases rx
  rcases h with ⟨hq, q⟩ | ⟨hq, q⟩
  · obtain ⟨its, r', pl, hz⟩ := I.list hq
    have hlen := r'.length
    refine call_tuple_list pl.isList (fun h' kp => ?_) (by simp only [List.size_toArray] <;> omega)
    have I1 : Inv X pins σ H { s with heap := h' } := I.kept (t' := s.toks) kp
    obtain ⟨k, q⟩ := q _ (I1.hok.fresh (Nat.le_refl _))
    have I2 : Inv X pins σ (upd H h'.objs.size (hoT k { cls := .type "tuple", data := .seq its.toArray } ys)) { s with heap := h'.push { cls := .type "tuple", data := .seq its.toArray } } :=
      I1.laid (t' := s.toks) (fun b o e => Heap.get?_push_of_some _ e) (Nat.le_refl _) (okT k (Heap.get?_push_size _ rfl) (show ObjOk X.prog X.w _ _ _ (.tup ys) from ⟨hz, its, r', IsTup.new _ _⟩))
    exact ⟨.ref h'.objs.size, _, I2, rfl, q _ rfl⟩
  · obtain ⟨its, r', pl, hz⟩ := I.tuple hq
    exact call_tuple_same pl ⟨.ref p, H, I, rfl, q⟩
/-- in, not in: a list, a tuple of data, a text -/
def rInG (K : PySem.W.Frag) : R2 := fun x y H Q => (∃ d ds, Dp K H x d ∧ Dp K H y (.list ds) ∧ SeqAt.shaped d = true ∧ SeqAt.shaped (.list ds) = true ∧ Q (.bl (ds.any fun z => PyData.eqv z d)) H) ∨
  (∃ d ds, Dp K H x d ∧ Dp K H y (.tuple ds) ∧ SeqAt.shaped d = true ∧ SeqAt.shaped (.tuple ds) = true ∧ Q (.bl (ds.any fun z => PyData.eqv z d)) H) ∨
  (∃ i j, x = .str i ∧ y = .str j ∧ Q (.bl (!(Builtin.Str.occurrences j i 0 j.length 1).isEmpty)) H)
def rNotInG (K : PySem.W.Frag) : R2 := fun x y H Q => (∃ d ds, Dp K H x d ∧ Dp K H y (.list ds) ∧ SeqAt.shaped d = true ∧ SeqAt.shaped (.list ds) = true ∧ Q (.bl (!ds.any fun z => PyData.eqv z d)) H) ∨
  (∃ d ds, Dp K H x d ∧ Dp K H y (.tuple ds) ∧ SeqAt.shaped d = true ∧ SeqAt.shaped (.tuple ds) = true ∧ Q (.bl (!ds.any fun z => PyData.eqv z d)) H) ∨
  (∃ i j, x = .str i ∧ y = .str j ∧ Q (.bl (!(!(Builtin.Str.occurrences j i 0 j.length 1).isEmpty))) H)
theorem op_inT (hu : X.A.units + 65 < cLine) : OpR X (compareOp .In) (fun x y H Q => ∃ d ds, Dp X.K H x d ∧ Dp X.K H y (.tuple ds) ∧ SeqAt.shaped d = true ∧ SeqAt.shaped (.tuple ds) = true ∧ Q (.bl (ds.any fun z => PyData.eqv z d)) H) := by
  intro pins s σ H x y v u Q I rx ry h
  obtain ⟨d, ds, hd, he, sd, se, q⟩ := h
  obtain ⟨as, r1⟩ := Dp.reads I d x v hd rx
  obtain ⟨bs, r2⟩ := Dp.reads I (.tuple ds) y u he ry
  exact SeqAt.in_tuple_reads r2 r1 (SeqAt.canLay_of_shaped se) (SeqAt.canLay_of_shaped sd) (room_in_shaped sd hu) ⟨.bl _, H, I, rfl, q⟩
theorem op_notInT (hu : X.A.units + 65 < cLine) : OpR X (compareOp .NotIn) (fun x y H Q => ∃ d ds, Dp X.K H x d ∧ Dp X.K H y (.tuple ds) ∧ SeqAt.shaped d = true ∧ SeqAt.shaped (.tuple ds) = true ∧ Q (.bl (!ds.any fun z => PyData.eqv z d)) H) := by
  intro pins s σ H x y v u Q I rx ry h
  obtain ⟨d, ds, hd, he, sd, se, q⟩ := h
  obtain ⟨as, r1⟩ := Dp.reads I d x v hd rx
  obtain ⟨bs, r2⟩ := Dp.reads I (.tuple ds) y u he ry
  exact SeqAt.notIn_tuple_reads r2 r1 (SeqAt.canLay_of_shaped se) (SeqAt.canLay_of_shaped sd) (room_in_shaped sd hu) ⟨.bl _, H, I, rfl, q⟩
theorem op_inG (hu : X.A.units + 65 < cLine) : OpR X (compareOp .In) (rInG X.K) := (op_inD hu).or ((op_inT hu).or op_in_str)
theorem op_notInG (hu : X.A.units + 65 < cLine) : OpR X (compareOp .NotIn) (rNotInG X.K) := (op_notInD hu).or ((op_notInT hu).or op_notin_str)
end
end L2

namespace MM
open PySem PySem.Spec L2
section
variable {ki : Ki}
theorem dpStr {K : PySem.W.Frag} {H : Hp} {v : V} {i : Str} (h : Dp K H v (.str i)) : v = .str i := by cases h; rfl
def smallL (n : Nat) : Bool := decide (n ≤ 1000000)
def gAdd : PyData → PyData → Option Slot
  | .int i, .int j => some (.p (.int (i + j)))
  | .str i, .str j => if smallL (i.length + j.length) then some (.p (.str (i ++ j))) else none
  | .list xs, .list ys => if smallL (xs.length + ys.length) then some (.l ((xs ++ ys).map .p)) else none
  | .tuple xs, .tuple ys => if smallL (xs.length + ys.length) then some (.p (.tuple (xs ++ ys))) else none
  | _, _ => none
theorem zP_append {xs zs : List V} {ds es : List PyData} (h : xs.length = ds.length) : zP (xs ++ zs) (ds ++ es) = zP xs ds ++ zP zs es := by
  unfold zP
  rw [List.map_append, List.map_append, List.zip_append (by rw [List.length_map, List.length_map]; exact h)]
theorem opg_add : OpG ki (rAddG ki.K) gAdd := fun H L x y sx sy d e s g hx dx hy dy hs Q post => by
  have d1 := g.datDp hx dx
  have d2 := g.datDp hy dy
  cases d1 with
  | int i =>
    cases d2 with
    | int j => cases hs; exact .inl ⟨i, j, rfl, rfl, post _ _ (g.push fun F => .int _)⟩
    | _ => cases hs
  | str i =>
    cases d2 with
    | str j =>
      have hs : (if smallL (i.length + j.length) then some (Slot.p (.str (i ++ j))) else none) = some s := hs
      cases hz : smallL (i.length + j.length) with
      | false => rw [hz] at hs; cases hs
      | true =>
        rw [hz] at hs; cases hs
        exact .inr (.inl ⟨i, j, rfl, rfl, big_le (of_decide_eq_true hz), post _ _ (g.push fun F => .str _)⟩)
    | _ => cases hs
  | @lst a xs ds hq ha =>
    cases d2 with
    | @lst b zs es hq2 ha2 =>
      have hs : (if smallL (ds.length + es.length) then some (Slot.l ((ds ++ es).map .p)) else none) = some s := hs
      cases hz : smallL (ds.length + es.length) with
      | false => rw [hz] at hs; cases hs
      | true =>
        rw [hz] at hs; cases hs
        have hz := of_decide_eq_true hz
        obtain ⟨a1, vs1, e1, _, h1, l1, g1⟩ := g.view hx dx (.inr rfl)
        obtain ⟨a2, vs2, e2, _, h2, l2, g2⟩ := g1.view (List.mem_append_right _ hy) dy (.inr rfl)
        cases e1; cases e2
        refine .inr (.inr (.inl ⟨a, b, vs1, vs2, rfl, rfl, h1 rfl, h2 rfl, big_le (by omega), fun p np => post _ _ ?_⟩))
        refine Good.newList (vs := vs1 ++ vs2) ?_ np (by rw [List.length_append, List.length_append]; omega)
        rw [zP_append l1, List.append_assoc]
        refine g2.perm ?_
        rw [← List.append_assoc, ← List.append_assoc]
        exact List.Perm.append_right _ List.perm_append_comm
    | _ => cases hs
  | @tup a xs ds hq ha =>
    cases d2 with
    | @tup b zs es hq2 ha2 =>
      have hs : (if smallL (ds.length + es.length) then some (Slot.p (.tuple (ds ++ es))) else none) = some s := hs
      cases hz : smallL (ds.length + es.length) with
      | false => rw [hz] at hs; cases hs
      | true =>
        rw [hz] at hs; cases hs
        have hz := of_decide_eq_true hz
        obtain ⟨a1, vs1, e1, h1, _, l1, g1⟩ := g.view hx dx (.inl rfl)
        obtain ⟨a2, vs2, e2, h2, _, l2, g2⟩ := g1.view (List.mem_append_right _ hy) dy (.inl rfl)
        cases e1; cases e2
        have pureOf : ∀ {v : V} {s : Slot} {t : List PyData}, (some v, s) ∈ L → s.dat = some (.tuple t) → s = .p (.tuple t) := fun {v s t} hm hd => by
          cases s with
          | p d => cases hd; rfl
          | l xs =>
            obtain ⟨es, _, h⟩ := Option.map_eq_some_iff.mp (show (allP xs).map PyData.list = some _ from hd)
            cases h
          | _ => cases hd
        have sx1 := pureOf hx dx
        have sy1 := pureOf hy dy
        subst sx1 sy1
        refine .inr (.inr (.inr ⟨a, b, vs1, vs2, rfl, rfl, h1 rfl, h2 rfl, big_le (by omega), fun z => ?_, fun _ z => ?_, fun _ _ p np => ⟨rowB (ds ++ es), fun ob hob => post _ _ ?_⟩⟩))
        · subst z
          have : ds = [] := List.length_eq_zero_iff.mp l1.symm
          subst this
          exact post _ _ (g.copy hy)
        · subst z
          have : es = [] := List.length_eq_zero_iff.mp l2.symm
          subst this
          rw [List.append_nil] at post
          exact post _ _ (g.copy hx)
        · refine Good.newTup (vs := vs1 ++ vs2) ?_ np (by rw [List.length_append, List.length_append]; omega) (hoT_ok hob)
          rw [zP_append l1, List.append_assoc]
          refine g2.perm ?_
          rw [← List.append_assoc, ← List.append_assoc]
          exact List.Perm.append_right _ List.perm_append_comm
    | _ => cases hs
  | _ => cases hs
/-- whole numbers -/
def gI (f : Int → Int → Option PyData) : PyData → PyData → Option Slot
  | .int i, .int j => (f i j).map .p
  | _, _ => none
theorem opg_int {C : Int → Int → Prop} {h : Int → Int → V} {f : Int → Int → Option PyData} (hf : ∀ i j d, f i j = some d → C i j ∧ ∀ F, Dq ki.K F (h i j) d) : OpG ki (rI C h) (gI f) := fun H L x y sx sy d e s g hx dx hy dy hs Q post => by
  have d1 := g.datDp hx dx
  have d2 := g.datDp hy dy
  cases d1 with
  | int i =>
    cases d2 with
    | int j =>
      obtain ⟨z, h1, h2⟩ := Option.map_eq_some_iff.mp (show (f i j).map Slot.p = some s from hs)
      subst h2
      obtain ⟨c, k⟩ := hf i j z h1
      exact ⟨i, j, rfl, rfl, c, post _ _ (g.push k)⟩
    | _ => cases hs
  | _ => cases hs
theorem opg_int0 {h : Int → Int → V} {f : Int → Int → PyData} (hf : ∀ i j F, Dq ki.K F (h i j) (f i j)) : OpG ki (rI0 h) (gI fun i j => some (f i j)) := fun H L x y sx sy d e s g hx dx hy dy hs Q post => by
  have d1 := g.datDp hx dx
  have d2 := g.datDp hy dy
  cases d1 with
  | int i =>
    cases d2 with
    | int j => cases hs; exact ⟨i, j, rfl, rfl, post _ _ (g.push (hf i j))⟩
    | _ => cases hs
  | _ => cases hs
abbrev fSub : Int → Int → PyData := fun i j => .int (i - j)
def fMul (i j : Int) : Option PyData := if (decide (-(2 ^ 64) < i) && decide (i < 2 ^ 64)) || (decide (-(2 ^ 64) < j) && decide (j < 2 ^ 64)) then some (.int (i * j)) else none
def fMod (i j : Int) : Option PyData := if decide (0 < j) then some (.int (i % j)) else none
def fDiv (i j : Int) : Option PyData := if decide (0 < j) && decide (j < 1073741824) then some (.int (i / j)) else none
theorem opg_sub : OpG ki (rI0 fun i j => .int (i - j)) (gI fun i j => some (.int (i - j))) := opg_int0 (f := fSub) fun _ _ _ => .int _
theorem opg_mul : OpG ki (rI CMul fun i j => .int (i * j)) (gI fMul) := opg_int fun i j d h => by
  unfold fMul at h
  split at h
  · rename_i hc
    cases h
    simp only [Bool.or_eq_true, Bool.and_eq_true, decide_eq_true_eq] at hc
    exact ⟨hc, fun F => .int _⟩
  · cases h
theorem opg_mod : OpG ki (rI (fun _ j => 0 < j) fun i j => .int (i % j)) (gI fMod) := opg_int fun i j d h => by
  unfold fMod at h
  split at h
  · rename_i hc
    cases h
    exact ⟨of_decide_eq_true hc, fun F => .int _⟩
  · cases h
theorem opg_fdiv : OpG ki (rI CDiv fun i j => .int (i / j)) (gI fDiv) := opg_int fun i j d h => by
  unfold fDiv at h
  split at h
  · rename_i hc
    cases h
    simp only [Bool.and_eq_true, decide_eq_true_eq] at hc
    exact ⟨hc, fun F => .int _⟩
  · cases h
abbrev gLtI := gI fun i j => some (.bool (decide (i < j)))
abbrev gLeI := gI fun i j => some (.bool (decide (i ≤ j)))
abbrev gGtI := gI fun i j => some (.bool (decide (j < i)))
abbrev gGeI := gI fun i j => some (.bool (decide (j ≤ i)))
theorem opg_lt : OpG ki (rI0 fun i j => .bl (decide (i < j))) gLtI := opg_int0 (f := fun i j => .bool (decide (i < j))) fun _ _ _ => .bl _
theorem opg_le : OpG ki (rI0 fun i j => .bl (decide (i ≤ j))) gLeI := opg_int0 (f := fun i j => .bool (decide (i ≤ j))) fun _ _ _ => .bl _
theorem opg_gt : OpG ki (rI0 fun i j => .bl (decide (j < i))) gGtI := opg_int0 (f := fun i j => .bool (decide (j < i))) fun _ _ _ => .bl _
theorem opg_ge : OpG ki (rI0 fun i j => .bl (decide (j ≤ i))) gGeI := opg_int0 (f := fun i j => .bool (decide (j ≤ i))) fun _ _ _ => .bl _
/-- == of data -/
def gEq (d e : PyData) : Option Slot := if SeqAt.shaped d && SeqAt.shaped e then some (.p (.bool (PyData.eqv d e))) else none
def gNe (d e : PyData) : Option Slot := if SeqAt.shaped d && SeqAt.shaped e then some (.p (.bool (!PyData.eqv d e))) else none
theorem opg_eq : OpG ki (rEqD ki.K) gEq := fun H L x y sx sy d e s g hx dx hy dy hs Q post => by
  unfold gEq at hs
  split at hs
  · rename_i hc
    cases hs
    simp only [Bool.and_eq_true] at hc
    exact ⟨d, e, g.datDp hx dx, g.datDp hy dy, hc.1, hc.2, post _ _ (g.push fun F => .bl _)⟩
  · cases hs
theorem opg_ne : OpG ki (rNeD ki.K) gNe := fun H L x y sx sy d e s g hx dx hy dy hs Q post => by
  unfold gNe at hs
  split at hs
  · rename_i hc
    cases hs
    simp only [Bool.and_eq_true] at hc
    exact ⟨d, e, g.datDp hx dx, g.datDp hy dy, hc.1, hc.2, post _ _ (g.push fun F => .bl _)⟩
  · cases hs
/-- x in a list, a tuple of data; a text in a text -/
def gIn (neg : Bool) (d : PyData) : PyData → Option Slot
  | .list ds => if SeqAt.shaped d && SeqAt.shaped (.list ds) then some (.p (.bool (if neg then !ds.any fun z => PyData.eqv z d else ds.any fun z => PyData.eqv z d))) else none
  | .tuple ds => if SeqAt.shaped d && SeqAt.shaped (.tuple ds) then some (.p (.bool (if neg then !ds.any fun z => PyData.eqv z d else ds.any fun z => PyData.eqv z d))) else none
  | .str j => (match d with
    | .str i => some (.p (.bool (if neg then !(!(Builtin.Str.occurrences j i 0 j.length 1).isEmpty) else !(Builtin.Str.occurrences j i 0 j.length 1).isEmpty)))
    | _ => none)
  | _ => none
theorem opg_in : OpG ki (rInG ki.K) (gIn false) := fun H L x y sx sy d e s g hx dx hy dy hs Q post => by
  have d1 := g.datDp hx dx
  have d2 := g.datDp hy dy
  cases e with
  | list ds =>
    have hs : (if SeqAt.shaped d && SeqAt.shaped (.list ds) then some (Slot.p (.bool (ds.any fun z => PyData.eqv z d))) else none) = some s := hs
    split at hs
    · rename_i hc
      cases hs
      simp only [Bool.and_eq_true] at hc
      exact .inl ⟨d, ds, d1, d2, hc.1, hc.2, post _ _ (g.push fun F => .bl _)⟩
    · cases hs
  | tuple ds =>
    have hs : (if SeqAt.shaped d && SeqAt.shaped (.tuple ds) then some (Slot.p (.bool (ds.any fun z => PyData.eqv z d))) else none) = some s := hs
    split at hs
    · rename_i hc
      cases hs
      simp only [Bool.and_eq_true] at hc
      exact .inr (.inl ⟨d, ds, d1, d2, hc.1, hc.2, post _ _ (g.push fun F => .bl _)⟩)
    · cases hs
  | str j =>
    cases d with
    | str i => cases hs; exact .inr (.inr ⟨i, j, dpStr d1, dpStr d2, post _ _ (g.push fun F => .bl _)⟩)
    | _ => cases hs
  | _ => cases hs
theorem opg_notIn : OpG ki (rNotInG ki.K) (gIn true) := fun H L x y sx sy d e s g hx dx hy dy hs Q post => by
  have d1 := g.datDp hx dx
  have d2 := g.datDp hy dy
  cases e with
  | list ds =>
    have hs : (if SeqAt.shaped d && SeqAt.shaped (.list ds) then some (Slot.p (.bool (!ds.any fun z => PyData.eqv z d))) else none) = some s := hs
    split at hs
    · rename_i hc
      cases hs
      simp only [Bool.and_eq_true] at hc
      exact .inl ⟨d, ds, d1, d2, hc.1, hc.2, post _ _ (g.push fun F => .bl _)⟩
    · cases hs
  | tuple ds =>
    have hs : (if SeqAt.shaped d && SeqAt.shaped (.tuple ds) then some (Slot.p (.bool (!ds.any fun z => PyData.eqv z d))) else none) = some s := hs
    split at hs
    · rename_i hc
      cases hs
      simp only [Bool.and_eq_true] at hc
      exact .inr (.inl ⟨d, ds, d1, d2, hc.1, hc.2, post _ _ (g.push fun F => .bl _)⟩)
    · cases hs
  | str j =>
    cases d with
    | str i => cases hs; exact .inr (.inr ⟨i, j, dpStr d1, dpStr d2, post _ _ (g.push fun F => .bl _)⟩)
    | _ => cases hs
  | _ => cases hs
/-- an item -/
def gIdx : PyData → PyData → Option Slot
  | .list ds, .int i => (atI ds i).map .p
  | .tuple ds, .int i => (atI ds i).map .p
  | .str z, .int i => if smallL z.length then (atI z.cps.toList i).map fun c => .p (.str ⟨#[c]⟩) else none
  | _, _ => none
theorem atI_zip {vs : List V} {ds : List PyData} {i : Int} {d : PyData} (len : vs.length = ds.length) (h : atI ds i = some d) : ∃ v, atI vs i = some v ∧ (some v, Slot.p d) ∈ zP vs ds := by
  unfold atI at h ⊢
  rw [len]
  cases q : ixN ds.length i with
  | none => rw [q] at h; cases h
  | some j =>
    rw [q] at h
    have h : ds[j]? = some d := h
    have hj : j < vs.length := by rw [len]; exact (List.getElem?_eq_some_iff.mp h).1
    exact ⟨vs[j], List.getElem?_eq_getElem hj, zP_at (List.getElem?_eq_getElem hj) h⟩
theorem opg_idx : OpG ki (rIx ki.K) gIdx := fun H L x y sx sy d e s g hx dx hy dy hs Q post => by
  have d2 := g.datDp hy dy
  cases e with
  | int i =>
    cases dpInt d2
    cases d with
    | list ds =>
      obtain ⟨c, h1, h2⟩ := Option.map_eq_some_iff.mp (show (atI ds i).map Slot.p = some s from hs)
      subst h2
      obtain ⟨a, vs, rfl, _, hl, len, g1⟩ := g.view hx dx (.inr rfl)
      obtain ⟨v, h3, h4⟩ := atI_zip len h1
      exact .inl ⟨a, vs, i, v, rfl, rfl, hl rfl, h3, post v H (dropMid (A := [(some v, .p c)]) (g1.copy (List.mem_append_left _ h4)))⟩
    | tuple ds =>
      obtain ⟨c, h1, h2⟩ := Option.map_eq_some_iff.mp (show (atI ds i).map Slot.p = some s from hs)
      subst h2
      obtain ⟨a, vs, rfl, hl, _, len, g1⟩ := g.view hx dx (.inl rfl)
      obtain ⟨v, h3, h4⟩ := atI_zip len h1
      exact .inr (.inl ⟨a, vs, i, v, rfl, rfl, hl rfl, h3, post v H (dropMid (A := [(some v, .p c)]) (g1.copy (List.mem_append_left _ h4)))⟩)
    | str z =>
      have hs : (if smallL z.length then (atI z.cps.toList i).map fun c => Slot.p (.str ⟨#[c]⟩) else none) = some s := hs
      cases hz : smallL z.length with
      | false => rw [hz] at hs; cases hs
      | true =>
        rw [hz] at hs
        obtain ⟨c, h1, h2⟩ := Option.map_eq_some_iff.mp (show (atI z.cps.toList i).map (fun c => Slot.p (.str ⟨#[c]⟩)) = some s from hs)
        subst h2
        exact .inr (.inr ⟨z, i, c, dpStr (g.datDp hx dx), rfl, big_le (of_decide_eq_true hz), h1, post _ H (g.push fun F => .str _)⟩)
    | _ => cases hs
  | _ => cases d <;> cases hs
/-- is None -/
def isN : PyData → Bool
  | .none => true
  | _ => false
def gIsN (neg : Bool) (d e : PyData) : Option Slot := match e with
  | .none => some (.p (.bool (if neg then !isN d else isN d)))
  | _ => none
theorem dpNon {K : PySem.W.Frag} {H : Hp} {v : V} {d : PyData} (h : Dp K H v d) : decide (v = .non) = isN d := by
  cases h <;> rfl
theorem opg_isN : OpG ki (fun x y H Q => y = .non ∧ Q (.bl (decide (x = .non))) H) (gIsN false) := fun H L x y sx sy d e s g hx dx hy dy hs Q post => by
  have d1 := g.datDp hx dx
  have d2 := g.datDp hy dy
  cases d2 with
  | non =>
    cases hs
    exact ⟨rfl, by rw [dpNon d1]; exact post _ _ (g.push fun F => .bl _)⟩
  | _ => cases hs
theorem opg_notN : OpG ki (fun x y H Q => y = .non ∧ Q (.bl (!decide (x = .non))) H) (gIsN true) := fun H L x y sx sy d e s g hx dx hy dy hs Q post => by
  have d1 := g.datDp hx dx
  have d2 := g.datDp hy dy
  cases d2 with
  | non =>
    cases hs
    exact ⟨rfl, by rw [dpNon d1]; exact post _ _ (g.push fun F => .bl _)⟩
  | _ => cases hs
/-- -n -/
def gNeg : PyData → Option Slot
  | .int i => some (.p (.int (-i)))
  | _ => none
theorem ung_neg : UnG ki (rU fun i => .int (-i)) gNeg := fun H L x sx d s g hx dx hs Q post => by
  have d1 := g.datDp hx dx
  cases d1 with
  | int i => cases hs; exact ⟨i, rfl, post _ _ (g.push fun F => .int _)⟩
  | _ => cases hs

/-! ### built-ins -/
def g1I (f : Int → Option PyData) : List PyData → Option Slot
  | [.int i] => (f i).map .p
  | _ => none
theorem args1 {L : Row} {vs : List V} {d : PyData} {H : Hp} (g : G ki H L) (a : Args L vs [d]) : ∃ v s, vs = [v] ∧ (some v, s) ∈ L ∧ s.dat = some d ∧ Dp ki.K H v d := by
  cases a with
  | cons h1 h2 t => cases t; exact ⟨_, _, rfl, h1, h2, g.datDp h1 h2⟩
theorem args2 {L : Row} {vs : List V} {d e : PyData} {H : Hp} (g : G ki H L) (a : Args L vs [d, e]) : ∃ v w, vs = [v, w] ∧ Dp ki.K H v d ∧ Dp ki.K H w e := by
  cases a with
  | cons h1 h2 t =>
    cases t with
    | cons h3 h4 t => cases t; exact ⟨_, _, rfl, g.datDp h1 h2, g.datDp h3 h4⟩
def gAbs : List PyData → Option Slot
  | [.int i] => some (.p (.int (if i < 0 then -i else i)))
  | _ => none
theorem cg_abs : CallG ki (fun xs H Q => ∃ i, xs = [.int i] ∧ Q (.int (if i < 0 then -i else i)) H) gAbs := fun H L vs ds s g a hs Q post => by
  unfold gAbs at hs
  split at hs
  · cases hs
    obtain ⟨v, _, rfl, _, _, h⟩ := args1 g a
    cases dpInt h
    exact ⟨_, rfl, post _ _ (g.push fun F => .int _)⟩
  · cases hs
def gInt : List PyData → Option Slot
  | [.int i] => some (.p (.int i))
  | [.bool b] => some (.p (.int (if b then 1 else 0)))
  | _ => none
theorem cg_int : CallG ki (fun xs H Q => (∃ i, xs = [.int i] ∧ Q (.int i) H) ∨ ∃ k, xs = [.bl k] ∧ Q (.int (if k then 1 else 0)) H) gInt := fun H L vs ds s g a hs Q post => by
  unfold gInt at hs
  split at hs
  · cases hs
    obtain ⟨v, _, rfl, _, _, h⟩ := args1 g a
    cases dpInt h
    exact .inl ⟨_, rfl, post _ _ (g.push fun F => .int _)⟩
  · cases hs
    obtain ⟨v, _, rfl, _, _, h⟩ := args1 g a
    cases h
    exact .inr ⟨_, rfl, post _ _ (g.push fun F => .int _)⟩
  · cases hs
def gMax2 : List PyData → Option Slot
  | [.int i, .int j] => some (.p (.int (if j > i then j else i)))
  | _ => none
theorem cg_max2 : CallG ki (fun xs H Q => ∃ i j, xs = [.int i, .int j] ∧ Q (.int (if j > i then j else i)) H) gMax2 := fun H L vs ds s g a hs Q post => by
  unfold gMax2 at hs
  split at hs
  · cases hs
    obtain ⟨v, w, rfl, h, k⟩ := args2 g a
    cases dpInt h; cases dpInt k
    exact ⟨_, _, rfl, post _ _ (g.push fun F => .int _)⟩
  · cases hs
def gMin2 : List PyData → Option Slot
  | [.int i, .int j] => some (.p (.int (if j < i then j else i)))
  | _ => none
theorem cg_min2 : CallG ki (fun xs H Q => ∃ i j, xs = [.int i, .int j] ∧ Q (.int (if j < i then j else i)) H) gMin2 := fun H L vs ds s g a hs Q post => by
  unfold gMin2 at hs
  split at hs
  · cases hs
    obtain ⟨v, w, rfl, h, k⟩ := args2 g a
    cases dpInt h; cases dpInt k
    exact ⟨_, _, rfl, post _ _ (g.push fun F => .int _)⟩
  · cases hs
/-- len -/
def gLen : List PyData → Option Slot
  | [.list ds] => some (.p (.int ds.length))
  | [.tuple ds] => some (.p (.int ds.length))
  | [.str z] => if smallL z.length then some (.p (.int z.length)) else none
  | _ => none
theorem dp_lenAll {K : PySem.W.Frag} {H : Hp} : ∀ {vs : List V} {ds : List PyData}, DpAll K H vs ds → vs.length = ds.length
  | _, _, .nil => rfl
  | _, _, .cons _ t => by rw [List.length_cons, List.length_cons, dp_lenAll t]
theorem cg_len : CallG ki (fun xs H Q => (∃ p ys, xs = [.ref p] ∧ (SqL ki.K H p ys ∨ SqT ki.K H p ys) ∧ Q (.int ys.length) H) ∨ ∃ z, xs = [.str z] ∧ z.length ≤ sizeLine ∧ Q (.int z.length) H) gLen := fun H L vs ds s g a hs Q post => by
  unfold gLen at hs
  split at hs
  · cases hs
    obtain ⟨v, _, rfl, _, _, h⟩ := args1 g a
    cases h with
    | lst hq ha => exact .inl ⟨_, _, rfl, .inl hq, by rw [dp_lenAll ha]; exact post _ _ (g.push fun F => .int _)⟩
  · cases hs
    obtain ⟨v, _, rfl, _, _, h⟩ := args1 g a
    cases h with
    | tup hq ha => exact .inl ⟨_, _, rfl, .inr hq, by rw [dp_lenAll ha]; exact post _ _ (g.push fun F => .int _)⟩
  · rename_i z
    obtain ⟨v, _, rfl, _, _, h⟩ := args1 g a
    cases hz : smallL z.length with
    | false => rw [hz] at hs; cases hs
    | true =>
      rw [hz] at hs
      cases hs
      cases dpStr h
      exact .inr ⟨z, rfl, big_le (of_decide_eq_true hz), post _ _ (g.push fun F => .int _)⟩
  · cases hs
/-- list(x), tuple(x) of a list, a tuple -/
def gList : List PyData → Option Slot
  | [.list ds] => some (.l (ds.map .p))
  | [.tuple ds] => some (.l (ds.map .p))
  | _ => none
theorem cg_list : CallG ki (fun xs H Q => ∃ p ys, xs = [.ref p] ∧ (SqL ki.K H p ys ∨ SqT ki.K H p ys) ∧ ∀ l, H l = none → Q (.ref l) (upd H l (.lst ys))) gList := fun H L vs ds s g a hs Q post => by
  unfold gList at hs
  split at hs
  · cases hs
    obtain ⟨v, sv, rfl, hm, hd, h⟩ := args1 g a
    obtain ⟨p, vs, rfl, _, hl, len, g1⟩ := g.view hm hd (.inr rfl)
    exact ⟨p, vs, rfl, .inl (hl rfl), fun l nl => post _ _ (Good.newList g1 nl len)⟩
  · cases hs
    obtain ⟨v, sv, rfl, hm, hd, h⟩ := args1 g a
    obtain ⟨p, vs, rfl, hl, _, len, g1⟩ := g.view hm hd (.inl rfl)
    exact ⟨p, vs, rfl, .inr (hl rfl), fun l nl => post _ _ (Good.newList g1 nl len)⟩
  · cases hs
def gTuple : List PyData → Option Slot
  | [.list ds] => some (.p (.tuple ds))
  | [.tuple ds] => some (.p (.tuple ds))
  | _ => none
theorem dat_tup {s : Slot} {t : List PyData} (hd : s.dat = some (.tuple t)) : s = .p (.tuple t) := by
  cases s with
  | p d => cases hd; rfl
  | l xs =>
    obtain ⟨es, _, h⟩ := Option.map_eq_some_iff.mp (show (allP xs).map PyData.list = some _ from hd)
    cases h
  | _ => cases hd
theorem cg_tuple : CallG ki (fun xs H Q => ∃ p ys, xs = [.ref p] ∧ ((SqL ki.K H p ys ∧ ∀ l, H l = none → ∃ k : Bool, ∀ ob : Obj, ob.dict = none → Q (.ref l) (upd H l (hoT k ob ys))) ∨ (SqT ki.K H p ys ∧ Q (.ref p) H))) gTuple := fun H L vs ds s g a hs Q post => by
  unfold gTuple at hs
  split at hs
  · cases hs
    obtain ⟨v, sv, rfl, hm, hd, h⟩ := args1 g a
    obtain ⟨p, vs, rfl, _, hl, len, g1⟩ := g.view hm hd (.inr rfl)
    exact ⟨p, vs, rfl, .inl ⟨hl rfl, fun l nl => ⟨_, fun ob hob => post _ _ (Good.newTup g1 nl len (hoT_ok hob))⟩⟩⟩
  · cases hs
    obtain ⟨v, sv, rfl, hm, hd, h⟩ := args1 g a
    obtain ⟨p, vs, rfl, hl, _, len, g1⟩ := g.view hm hd (.inl rfl)
    have e := dat_tup hd
    subst e
    exact ⟨p, vs, rfl, .inr ⟨hl rfl, post _ _ (g.copy hm)⟩⟩
  · cases hs
/-- sum of a list of numbers; any, all of a list of truths -/
def ints? : List PyData → Option (List Int)
  | [] => some []
  | .int i :: ds => (ints? ds).map (i :: ·)
  | _ :: _ => none
def bools? : List PyData → Option (List Bool)
  | [] => some []
  | .bool i :: ds => (bools? ds).map (i :: ·)
  | _ :: _ => none
theorem dp_ints {K : PySem.W.Frag} {H : Hp} : ∀ {vs : List V} {ds : List PyData} {ns : List Int}, DpAll K H vs ds → ints? ds = some ns → vs = ns.map V.int
  | _, _, _, .nil, h => by cases h; rfl
  | _, d :: ds, ns, .cons h1 h2, h => by
    cases d with
    | int i =>
      obtain ⟨ms, q1, rfl⟩ := Option.map_eq_some_iff.mp (show (ints? ds).map (i :: ·) = some ns from h)
      rw [dpInt h1, dp_ints h2 q1]; rfl
    | _ => cases h
theorem dp_bools {K : PySem.W.Frag} {H : Hp} : ∀ {vs : List V} {ds : List PyData} {ns : List Bool}, DpAll K H vs ds → bools? ds = some ns → vs = ns.map V.bl
  | _, _, _, .nil, h => by cases h; rfl
  | _, d :: ds, ns, .cons h1 h2, h => by
    cases d with
    | bool i =>
      obtain ⟨ms, q1, rfl⟩ := Option.map_eq_some_iff.mp (show (bools? ds).map (i :: ·) = some ns from h)
      cases h1
      rw [dp_bools h2 q1]; rfl
    | _ => cases h
def gSum : List PyData → Option Slot
  | [.list ds] => (ints? ds).map fun ns => .p (.int ns.sum)
  | _ => none
theorem cg_sum : CallG ki (rSum ki.K) gSum := fun H L vs ds s g a hs Q post => by
  unfold gSum at hs
  split at hs
  · rename_i es
    obtain ⟨ns, q1, rfl⟩ := Option.map_eq_some_iff.mp hs
    obtain ⟨v, sv, rfl, hm, hd, h⟩ := args1 g a
    cases h with
    | lst hq ha => exact ⟨_, ns, rfl, by rw [← dp_ints ha q1]; exact hq, post _ _ (g.push fun F => .int _)⟩
  · cases hs
def gAny : List PyData → Option Slot
  | [.list ds] => (bools? ds).map fun ns => .p (.bool (ns.any id))
  | _ => none
def gAll : List PyData → Option Slot
  | [.list ds] => (bools? ds).map fun ns => .p (.bool (ns.all id))
  | _ => none
theorem cg_any : CallG ki (rAny ki.K) gAny := fun H L vs ds s g a hs Q post => by
  unfold gAny at hs
  split at hs
  · rename_i es
    obtain ⟨ns, q1, rfl⟩ := Option.map_eq_some_iff.mp hs
    obtain ⟨v, sv, rfl, hm, hd, h⟩ := args1 g a
    cases h with
    | lst hq ha => exact ⟨_, ns, rfl, by rw [← dp_bools ha q1]; exact hq, post _ _ (g.push fun F => .bl _)⟩
  · cases hs
theorem cg_all : CallG ki (rAll ki.K) gAll := fun H L vs ds s g a hs Q post => by
  unfold gAll at hs
  split at hs
  · rename_i es
    obtain ⟨ns, q1, rfl⟩ := Option.map_eq_some_iff.mp hs
    obtain ⟨v, sv, rfl, hm, hd, h⟩ := args1 g a
    cases h with
    | lst hq ha => exact ⟨_, ns, rfl, by rw [← dp_bools ha q1]; exact hq, post _ _ (g.push fun F => .bl _)⟩
  · cases hs
end
end MM
/-! M9: lists and dicts of a name's own, changed; isinstance -/
namespace MM
open PySem PySem.Spec L2

section
variable {ki : Ki} {H : Hp} {σ : L2.St} {env : Env} {T : Row}
theorem slotOut {i : Nat} {o : Option V} {s : Slot} (hl : σ.length = env.length) (ho : σ[i]? = some o) (hs : env[i]? = some s) (g : G ki H (zE σ env ++ T)) : G ki H ((o, s) :: (zE (σ.set i none) (env.set i .un) ++ T)) := by
  have g1 := takeOut hl i g
  rw [ho, hs] at g1
  exact g1.perm List.perm_middle
theorem slotIn {i : Nat} {o : Option V} {s : Slot} (hl : σ.length = env.length) (ho : σ[i]? = some o) (g : G ki H ((o, s) :: (zE (σ.set i none) (env.set i .un) ++ T))) : G ki H (zE σ (env.set i s) ++ T) := by
  have hi : i < σ.length := (List.getElem?_eq_some_iff.mp ho).1
  have g7 := zE_set (i := i) (by rw [List.length_set, List.length_set]; exact hl) (by rw [List.length_set]; omega) (toTop g)
  rw [List.set_set, List.set_set] at g7
  have ez : σ.set i o = σ := by
    apply List.ext_getElem?
    intro j
    by_cases hj : i = j
    · subst hj; rw [List.getElem?_set_self hi]; exact ho.symm
    · rw [List.getElem?_set_ne hj]
  rw [ez] at g7
  exact g7
end
section
variable {K : PySem.W.Frag} {H : Hp} {R : List Addr} {L : Row}
theorem zS_app {vs : List V} {xs : List Slot} (y : V) (s : Slot) (len : vs.length = xs.length) : zS (vs ++ [y]) (xs ++ [s]) = zS vs xs ++ [(some y, s)] := by
  unfold zS
  rw [List.map_append, List.zip_append (by rw [List.length_map]; exact len)]
  rfl
theorem Good.addTop {D : Addr} {xs : List Slot} {y : V} {s : Slot} (g : Good K H R ((some (.ref D), .l xs) :: (some y, s) :: L)) :
    ∃ vs, H D = some (.lst vs) ∧ vs.length = xs.length ∧ Good K (upd H D (.lst (vs ++ [y]))) R ((some (.ref D), .l (xs ++ [s])) :: L) := by
  obtain ⟨a, vs, e, ha, len, g1⟩ := g.open_
  cases e
  refine ⟨vs, ha, len, ?_⟩
  have g2 : Good K H (D :: R) (zS (vs ++ [y]) (xs ++ [s]) ++ L) := by
    rw [zS_app y s len, List.append_assoc]
    exact g1
  exact (g2.write List.mem_cons_self).close upd_same (by rw [List.length_append, List.length_append, len]; rfl)
theorem Good.setTop {D : Addr} {xs : List Slot} {y : V} {s : Slot} {j : Nat} (hj : j < xs.length) (g : Good K H R ((some (.ref D), .l xs) :: (some y, s) :: L)) :
    ∃ vs, H D = some (.lst vs) ∧ vs.length = xs.length ∧ Good K (upd H D (.lst (vs.set j y))) R ((some (.ref D), .l (xs.set j s)) :: L) := by
  obtain ⟨a, vs, e, ha, len, g1⟩ := g.open_
  cases e
  refine ⟨vs, ha, len, ?_⟩
  have g2 := zE_set (σ := vs.map some) (env := xs) (by rw [List.length_map]; exact len) hj g1
  have e : (vs.map some).set j (some y) = (vs.set j y).map some := by rw [List.map_set]
  rw [e] at g2
  exact (Good.write (u := .lst (vs.set j y)) g2 List.mem_cons_self).close upd_same (by rw [List.length_set, List.length_set, len])
/-- two lists, the second one's items go to the first one's end -/
theorem Good.extTop {D B : Addr} {xs ys : List Slot} (g : Good K H R ((some (.ref D), .l xs) :: (some (.ref B), .l ys) :: L)) :
    ∃ vs ws, H D = some (.lst vs) ∧ H B = some (.lst ws) ∧ vs.length = xs.length ∧ ws.length = ys.length ∧ Good K (upd H D (.lst (vs ++ ws))) R ((some (.ref D), .l (xs ++ ys)) :: L) := by
  obtain ⟨a, vs, e, ha, len, g1⟩ := g.open_
  cases e
  have g1' : Good K H (D :: R) ((some (.ref B), .l ys) :: (zS vs xs ++ L)) := g1.perm List.perm_middle
  obtain ⟨b, ws, e, hb, len2, g2⟩ := g1'.open_
  cases e
  have g3 : Good K H (D :: R) (zS ws ys ++ (zS vs xs ++ L)) := g2.free
  have g4 : Good K H (D :: R) (zS (vs ++ ws) (xs ++ ys) ++ L) := by
    have : zS (vs ++ ws) (xs ++ ys) = zS vs xs ++ zS ws ys := by
      unfold zS
      rw [List.map_append, List.zip_append (by rw [List.length_map]; exact len)]
    rw [this, List.append_assoc]
    refine g3.perm ?_
    rw [← List.append_assoc, ← List.append_assoc]
    exact List.Perm.append_right _ List.perm_append_comm
  exact ⟨vs, ws, ha, hb, len, len2, (g4.write List.mem_cons_self).close upd_same (by rw [List.length_append, List.length_append, len, len2])⟩
end
/-- what is laid into something: plain where it can be -/
def Slot.fz (s : Slot) : Slot := match s.dat with
  | some d => .p d
  | none => s
theorem Good.fz {K : PySem.W.Frag} {H : Hp} {R : List Addr} {L : Row} {v : V} {s : Slot} (g : Good K H R ((some v, s) :: L)) : Good K H R ((some v, s.fz) :: L) := by
  unfold Slot.fz
  cases q : s.dat with
  | none => exact g
  | some d => exact g.frz q

section
variable {ki : Ki} {W : WX} {fx : FxL} {te ti tv ty tx : TE} {me mi mv mk md : ExM}
theorem envLt {σ : L2.St} {env : Env} {i : Nat} {s : Slot} (hl : σ.length = env.length) (h : env[i]? = some s) : i < σ.length := by
  have := (List.getElem?_eq_some_iff.mp h).1
  omega
/-- x.append(e) -/
def apK (i : Nat) (o : Opd) : StM := fun env => match o with
  | .val s => (match env[i]? with
    | some (.l xs) => if smallL xs.length then some (.nx, env.set i (.l (xs ++ [s.fz]))) else none
    | _ => none)
  | .ref _ => none
def isL (i : Nat) (k : StM) : StM := fun env => match env[i]? with
  | some (.l _) => k env
  | _ => none
theorem isL_inv {i : Nat} {k : StM} {env env' : Env} {fl : Fl} (h : isL i k env = some (fl, env')) : (∃ xs, env[i]? = some (.l xs)) ∧ k env = some (fl, env') := by
  unfold isL at h
  split at h
  · rename_i xs q
    exact ⟨⟨xs, q⟩, h⟩
  · cases h
def sApp (i : Nat) (me : ExM) : StM := isL i (bndS me (apK i))
theorem lst_at {σ : L2.St} {env : Env} {i : Nat} {xs : List Slot} {H : Hp} {T : Row} (hl : σ.length = env.length) (g : G ki H (zE σ env ++ T)) (h : env[i]? = some (.l xs)) : ∃ l vs, σ[i]? = some (some (.ref l)) ∧ H l = some (.lst vs) ∧ vs.length = xs.length := by
  obtain ⟨o, ho⟩ := lenGet hl h
  have g1 := slotOut hl ho h g
  obtain ⟨a, vs, e, ha, len, _⟩ := g1.open_
  subst e
  exact ⟨a, vs, ho, ha, len⟩
theorem ty_list {K : PySem.W.Frag} {H : Hp} {l : Addr} {vs : List V} (h : H l = some (.lst vs)) : tyV K "list" (.ref l) H := .inl ⟨rfl, vs, SqL.of h⟩
theorem rds_app {i : Nat} (h : Rd ki W te me) : RdS ki W fx (tDrop (tBM ki.K "list" rAppend (tVar i) (tCons te tNil))) (sApp i me) := fun σ H env T fl env' hl hf gd e D post => by
  obtain ⟨⟨xs0, hx0⟩, e⟩ := isL_inv e
  obtain ⟨l, vs0, ho, hv0, _⟩ := lst_at hl gd hx0
  refine ⟨.ref l, ho, ty_list hv0, ?_⟩
  refine h.useS hl hf gd e post fun o v H1 env1 n1 g1 i1 e => ?_
  unfold apK at e
  cases o with
  | ref _ => cases e
  | val s =>
    simp only at e
    split at e
    · rename_i xs hx
      split at e
      · rename_i hz
        cases e
        have hl1 : σ.length = env1.length := hl.trans n1.symm
        have g2 := slotOut hl1 ho hx g1
        have g3 : G ki H1 ((some v, s) :: (some (V.ref l), .l xs) :: (zE (σ.set i none) (env1.set i .un) ++ T)) := g2.perm ((List.Perm.cons _ List.perm_middle).trans (List.Perm.swap _ _ _))
        have g4 := g3.fz
        have g5 : G ki H1 ((some (V.ref l), .l xs) :: (some v, s.fz) :: (zE (σ.set i none) (env1.set i .un) ++ T)) := g4.perm (List.Perm.swap _ _ _)
        obtain ⟨vs, hv, len, g6⟩ := g5.addTop
        refine ⟨l, vs, v, rfl, rfl, hv, Nat.lt_of_lt_of_le (show vs.length < 1000001 by have := of_decide_eq_true hz; omega) (by decide), ?_⟩
        exact post σ _ hl (by rw [List.length_set]; exact n1) hf (slotIn hl1 ho g6)
      · cases e
    · cases e
/-- x.extend(e), e a new list -/
def exK (i : Nat) (o : Opd) : StM := fun env => match o with
  | .val (.l ys) => (match env[i]? with
    | some (.l xs) => if smallL (xs.length + ys.length) then some (.nx, env.set i (.l (xs ++ ys))) else none
    | _ => none)
  | _ => none
def sExt (i : Nat) (me : ExM) : StM := isL i (bndS me (exK i))
theorem rds_ext {i : Nat} (h : Rd ki W te me) : RdS ki W fx (tDrop (tBM ki.K "list" rExtend (tVar i) (tCons te tNil))) (sExt i me) := fun σ H env T fl env' hl hf gd e D post => by
  obtain ⟨⟨xs0, hx0⟩, e⟩ := isL_inv e
  obtain ⟨l, vs0, ho, hv0, _⟩ := lst_at hl gd hx0
  refine ⟨.ref l, ho, ty_list hv0, ?_⟩
  refine h.useS hl hf gd e post fun o v H1 env1 n1 g1 i1 e => ?_
  unfold exK at e
  split at e
  · rename_i ys
    split at e
    · rename_i xs hx
      split at e
      · rename_i hz
        cases e
        have hl1 : σ.length = env1.length := hl.trans n1.symm
        have g2 := slotOut hl1 ho hx g1
        have g3 : G ki H1 ((some (V.ref l), .l xs) :: (some v, .l ys) :: (zE (σ.set i none) (env1.set i .un) ++ T)) := g2.perm (List.Perm.cons _ List.perm_middle)
        obtain ⟨b, hb⟩ : ∃ b, v = .ref b := by
          obtain ⟨b, _, e, _⟩ := (show G ki H1 ((some v, .l ys) :: (some (V.ref l), .l xs) :: (zE (σ.set i none) (env1.set i .un) ++ T)) from g3.perm (List.Perm.swap _ _ _)).open_
          cases e; exact ⟨b, rfl⟩
        subst hb
        obtain ⟨vs, ws, hv, hw, len, len2, g6⟩ := g3.extTop
        have hz := of_decide_eq_true hz
        refine ⟨l, b, vs, ws, rfl, rfl, hv, hw, big_le (by omega), ?_⟩
        exact post σ _ hl (by rw [List.length_set]; exact n1) hf (slotIn hl1 ho g6)
      · cases e
    · cases e
  · cases e
/-- x[i] = e, x a list of a name's own -/
def stK (i : Nat) (s : Slot) (d : PyData) : StM := fun env => match d with
  | .int k => (match env[i]? with
    | some (.l xs) => (ixN xs.length k).bind fun j => some (.nx, env.set i (.l (xs.set j s.fz)))
    | _ => none)
  | _ => none
def sSetL (i : Nat) (me mi : ExM) : StM := bndS me fun o => match o with
  | .val s => isL i (bndS mi fun oi => bndS (look oi) fun d => stK i s d)
  | .ref _ => fun _ => none
theorem lookS_inv {o : Opd} {k : PyData → StM} {env env' : Env} {fl : Fl} (h : bndS (look o) k env = some (fl, env')) : ∃ d, (o.get env).dat = some d ∧ k d env = some (fl, env') := by
  unfold bndS look at h
  cases q : (o.get env).dat with
  | none => rw [q] at h; cases h
  | some d => rw [q] at h; exact ⟨d, rfl, h⟩
theorem ixN_lt {n : Nat} {k : Int} {j : Nat} (h : ixN n k = some j) : j < n := (ixN_seq h).2.1
theorem Rd.useS' {E T : Row} {σ : L2.St} {H : Hp} {env env' : Env} {k : Opd → StM} {fl : Fl} {D : Ends} (h : Rd ki W te me) (hl : σ.length = env.length) (hf : Fx fx σ) (g : G ki H (zE σ env ++ (E ++ T))) (e : bndS me k env = some (fl, env')) (post : PstS ki W fx T D env.length fl env') {Q1 : VK}
    (go : ∀ o v H1 env1, env1.length = env.length → G ki H1 (zE σ env1 ++ ((some v, o.slot) :: (E ++ T))) → o.is σ v → k o env1 = some (fl, env') → Q1 v H1) : te σ H Q1 := by
  unfold bndS at e
  cases hm : me env with
  | none => rw [hm] at e; cases e
  | some p =>
    obtain ⟨r1, e1⟩ := p
    rw [hm] at e
    cases r1 with
    | ok o => exact h σ H env (E ++ T) _ _ hl g hm Q1 fun v H1 hn g1 ho => go o v H1 e1 hn g1 ho e
    | ex x =>
      cases e
      exact h σ H env (E ++ T) _ _ hl g hm Q1 fun cls d H1 hn g1 hx => post cls d σ H1 hl hn hf (dropMid g1) hx
theorem rds_setL {i : Nat} (h : Rd ki W te me) (h2 : Rd ki W ti mi) : RdS ki W fx (tAsg te (gSub (tVar i) ti rSetL)) (sSetL i me mi) := fun σ H env T fl env' hl hf gd e D post => by
  refine h.useS hl hf gd e post fun o v H1 env1 n1 g1 i1 e => ?_
  cases o with
  | ref _ => cases e
  | val s =>
    obtain ⟨⟨xs0, hx0⟩, e⟩ := isL_inv e
    have hl1 : σ.length = env1.length := hl.trans n1.symm
    obtain ⟨l, vs0, ho, hv0, _⟩ := lst_at hl1 g1 hx0
    refine ⟨.ref l, ho, ?_⟩
    refine h2.useS' (E := [(some v, s)]) hl1 hf g1 e (by rw [n1]; exact post) fun oi vi H2 env2 n2 g2 i2 e => ?_
    obtain ⟨d, q, e⟩ := lookS_inv e
    unfold stK at e
    split at e
    · rename_i k
      split at e
      · rename_i xs hx
        obtain ⟨j, hj, e⟩ := Option.bind_eq_some_iff.mp e
        cases e
        have hl2 : σ.length = env2.length := hl1.trans n2.symm
        have dk := dpInt (g2.datDp (Opd.memD (A := []) i2 q) q)
        subst dk
        have g3 : G ki H2 (zE σ env2 ++ ((some v, s) :: T)) := dropMid (E := [_]) g2
        have g4 := slotOut hl2 ho hx g3
        have g5 : G ki H2 ((some v, s) :: (some (V.ref l), .l xs) :: (zE (σ.set i none) (env2.set i .un) ++ T)) := g4.perm ((List.Perm.cons _ List.perm_middle).trans (List.Perm.swap _ _ _))
        have g6 : G ki H2 ((some (V.ref l), .l xs) :: (some v, s.fz) :: (zE (σ.set i none) (env2.set i .un) ++ T)) := g5.fz.perm (List.Perm.swap _ _ _)
        obtain ⟨vs, hv, len, g7⟩ := g6.setTop (ixN_lt hj)
        refine ⟨l, vs, k, j, rfl, rfl, hv, by rw [len]; exact hj, ?_⟩
        exact post σ _ hl (by rw [List.length_set]; exact n2.trans n1) hf (slotIn hl2 ho g7)
      · cases e
    · cases e
end

/-! ### dicts -/
def keyD : PyData → Option Key
  | .int i => some (.inl i)
  | .str x => some (.inr x)
  | _ => none
def valS (ks : List (Key × Slot)) (k : Key) : Option Slot := (ks.find? fun kv => decide (kv.1 = k)).map (·.2)
def putS (ks : List (Key × Slot)) (k : Key) (s : Slot) : List (Key × Slot) :=
  if (ks.any fun kv => decide (kv.1 = k)) = true then ks.map (fun kv => if kv.1 = k then (kv.1, s) else kv) else ks ++ [(k, s)]
theorem keyD_V {K : PySem.W.Frag} {H : Hp} {v : V} {d : PyData} {k : Key} (h : Dp K H v d) (e : keyD d = some k) : v = kV k := by
  cases h <;> first | (cases e; rfl) | cases e
theorem valS_at : ∀ {vs : List (Key × V)} {ks : List (Key × Slot)} {k : Key}, vs.map (·.1) = ks.map (·.1) → (∀ s, valS ks k = some s → ∃ v, valV vs k = some v ∧ (some v, s) ∈ zM vs ks) ∧ (valS ks k = none → valV vs k = none)
  | [], [], _, _ => ⟨fun _ h => (nomatch h), fun _ => rfl⟩
  | (a, v) :: vs, (b, s) :: ks, k, e => by
    simp only [List.map_cons, List.cons.injEq] at e
    obtain ⟨rfl, e⟩ := e
    obtain ⟨h1, h2⟩ := valS_at (k := k) e
    by_cases q : a = k
    · refine ⟨fun s' h => ?_, fun h => ?_⟩
      · have : s = s' := by simpa [valS, List.find?_cons, q] using h
        subst this
        exact ⟨v, valV_pos q, List.mem_cons_self⟩
      · simp [valS, List.find?_cons, q] at h
    · have e1 : valS ((a, s) :: ks) k = valS ks k := by simp [valS, List.find?_cons, q]
      rw [e1, valV_neg (p := (a, v)) q]
      exact ⟨fun s' h => let ⟨w, p1, p2⟩ := h1 s' h; ⟨w, p1, List.mem_cons_of_mem _ p2⟩, h2⟩
  | [], _ :: _, _, e => by simp at e
  | _ :: _, [], _, e => by simp at e
theorem keys_any : ∀ {vs : List (Key × V)} {ks : List (Key × Slot)} (k : Key), vs.map (·.1) = ks.map (·.1) → (vs.any fun kv => decide (kv.1 = k)) = (ks.any fun kv => decide (kv.1 = k))
  | [], [], _, _ => rfl
  | (a, v) :: vs, (b, s) :: ks, k, e => by
    simp only [List.map_cons, List.cons.injEq] at e
    obtain ⟨rfl, e⟩ := e
    rw [List.any_cons, List.any_cons, keys_any k e]
  | [], _ :: _, _, e => by simp at e
  | _ :: _, [], _, e => by simp at e
theorem put_rep {K : PySem.W.Frag} {H : Hp} {R : List Addr} {L : Row} {k : Key} {v : V} {d : PyData} : ∀ {vs : List (Key × V)} {ks : List (Key × Slot)}, vs.map (·.1) = ks.map (·.1) → Good K H R (zM vs ks ++ ((some v, .p d) :: L)) →
    Good K H R (zM (vs.map fun kv => if kv.1 = k then (kv.1, v) else kv) (ks.map fun kv => if kv.1 = k then (kv.1, Slot.p d) else kv) ++ ((some v, .p d) :: L)) ∧ (vs.map fun kv => if kv.1 = k then (kv.1, v) else kv).map (·.1) = (ks.map fun kv => if kv.1 = k then (kv.1, Slot.p d) else kv).map (·.1)
  | [], [], _, g => ⟨g, rfl⟩
  | (a, x) :: vs, (b, s) :: ks, e, g => by
    simp only [List.map_cons, List.cons.injEq] at e
    obtain ⟨rfl, e⟩ := e
    have main : ∀ {L' : Row}, Good K H R (zM vs ks ++ ((some v, .p d) :: L')) → Good K H R (zM (vs.map fun kv => if kv.1 = k then (kv.1, v) else kv) (ks.map fun kv => if kv.1 = k then (kv.1, Slot.p d) else kv) ++ ((some v, .p d) :: L')) := fun g => (put_rep e g).1
    have g0 : Good K H R ((some x, s) :: (zM vs ks ++ ((some v, .p d) :: L))) := g
    have h2 := (put_rep (k := k) e g0.drop).2
    by_cases q : a = k
    · simp only [List.map_cons, if_pos q]
      have g1 := (put_rep (k := k) e g0.drop).1
      exact ⟨g1.copy (List.mem_append_right _ List.mem_cons_self), by rw [h2]⟩
    · simp only [List.map_cons, if_neg q]
      have g1 : Good K H R (zM vs ks ++ ((some v, .p d) :: ((some x, s) :: L))) := g0.perm ((List.perm_middle (l₁ := zM vs ks) (l₂ := (some v, Slot.p d) :: L)).symm.trans (List.Perm.append_left _ (List.Perm.swap _ _ _)))
      have g2 := main g1
      refine ⟨?_, by rw [h2]⟩
      exact g2.perm ((List.Perm.append_left _ (List.Perm.swap _ _ _)).trans List.perm_middle)
  | [], _ :: _, e, _ => by simp at e
  | _ :: _, [], e, _ => by simp at e
theorem Good.putTop {K : PySem.W.Frag} {H : Hp} {R : List Addr} {L : Row} {D : Addr} {ks : List (Key × Slot)} {k : Key} {v : V} {d : PyData} (g : Good K H R ((some (.ref D), .m ks) :: (some v, .p d) :: L)) :
    ∃ vs, H D = some (.dK vs) ∧ vs.length = ks.length ∧ Good K (upd H D (.dK (putK vs k v))) R ((some (.ref D), .m (putS ks k (.p d))) :: L) := by
  obtain ⟨a, vs, e, ha, keys, g1⟩ := g.openM
  cases e
  have len : vs.length = ks.length := by have := congrArg List.length keys; simpa using this
  refine ⟨vs, ha, len, ?_⟩
  unfold putK putS
  rw [keys_any k keys]
  by_cases q : (ks.any fun kv => decide (kv.1 = k)) = true
  · rw [if_pos q, if_pos q]
    obtain ⟨g2, k2⟩ := put_rep (k := k) keys g1
    have g4 : Good K H (D :: R) (zM (vs.map fun kv => if kv.1 = k then (kv.1, v) else kv) (ks.map fun kv => if kv.1 = k then (kv.1, Slot.p d) else kv) ++ L) := by
      have g5 : Good K H (D :: R) ((some v, Slot.p d) :: (zM (vs.map fun kv => if kv.1 = k then (kv.1, v) else kv) (ks.map fun kv => if kv.1 = k then (kv.1, Slot.p d) else kv) ++ L)) := g2.perm List.perm_middle
      exact g5.drop
    exact (g4.write List.mem_cons_self).closeM upd_same k2
  · rw [if_neg q, if_neg q]
    have g2 : Good K H (D :: R) (zM (vs ++ [(k, v)]) (ks ++ [(k, Slot.p d)]) ++ L) := by
      have : zM (vs ++ [(k, v)]) (ks ++ [(k, Slot.p d)]) = zM vs ks ++ [(some v, .p d)] := by
        unfold zM
        rw [List.map_append, List.map_append, List.zip_append (by rw [List.length_map, List.length_map]; exact len)]
        rfl
      rw [this, List.append_assoc]
      exact g1
    exact (g2.write List.mem_cons_self).closeM upd_same (by rw [List.map_append, List.map_append, keys]; rfl)
section
variable {ki : Ki} {W : WX} {fx : FxL} {te ti tv ty tx : TE} {me mi mv mk md : ExM}
theorem dct_at {σ : L2.St} {env : Env} {i : Nat} {xs : List (Key × Slot)} {H : Hp} {T : Row} (hl : σ.length = env.length) (g : G ki H (zE σ env ++ T)) (h : env[i]? = some (.m xs)) : ∃ l vs, σ[i]? = some (some (.ref l)) ∧ H l = some (.dK vs) ∧ vs.map (·.1) = xs.map (·.1) := by
  obtain ⟨o, ho⟩ := lenGet hl h
  have g1 := slotOut hl ho h g
  obtain ⟨a, vs, e, ha, len, _⟩ := g1.openM
  subst e
  exact ⟨a, vs, ho, ha, len⟩
def isM {α : Type} (i : Nat) (k : Env → Option α) : Env → Option α := fun env => match env[i]? with
  | some (.m _) => k env
  | _ => none
theorem isM_inv {α : Type} {i : Nat} {k : Env → Option α} {env : Env} {r : α} (h : isM i k env = some r) : (∃ xs, env[i]? = some (.m xs)) ∧ k env = some r := by
  unfold isM at h
  split at h
  · rename_i xs q
    exact ⟨⟨xs, q⟩, h⟩
  · cases h
/-- d.get(k, x), d a dict of a name's own -/
def dgK (i : Nat) (d : PyData) (od : Opd) : ExM := fun env => match env[i]?, keyD d with
  | some (.m ks), some k => (match valS ks k with
    | some (.p e) => some (.ok (.val (.p e)), env)
    | none => (match od with
      | .val s => some (.ok (.val s), env)
      | .ref _ => none)
    | _ => none)
  | _, _ => none
def mDGet2 (i : Nat) (mk md : ExM) : ExM := isM i (bnd mk fun ok => bnd md fun od => bnd (look ok) fun d => dgK i d od)
/-- a plain thing of a dict of a name's own, copied -/
theorem dct_get {σ : L2.St} {env : Env} {i : Nat} {xs : List (Key × Slot)} {H : Hp} {T : Row} {k : Key} (hl : σ.length = env.length) (g : G ki H (zE σ env ++ T)) (h : env[i]? = some (.m xs)) :
    ∃ l vs, σ[i]? = some (some (.ref l)) ∧ H l = some (.dK vs) ∧ (∀ e, valS xs k = some (.p e) → ∃ v, valV vs k = some v ∧ G ki H ((some v, .p e) :: (zE σ env ++ T))) ∧ (valS xs k = none → valV vs k = none) := by
  obtain ⟨o, ho⟩ := lenGet hl h
  have g1 := slotOut hl ho h g
  obtain ⟨a, vs, e, ha, keys, g2⟩ := g1.openM
  subst e
  obtain ⟨q1, q2⟩ := valS_at (k := k) keys
  refine ⟨a, vs, ho, ha, fun d hd => ?_, q2⟩
  obtain ⟨v, e1, e2⟩ := q1 _ hd
  refine ⟨v, e1, ?_⟩
  have g3 := g2.copy (o := some v) (d := d) (List.mem_append_left _ e2)
  have g4 : Good ki.K H [a] (zM vs xs ++ ((some v, .p d) :: (zE (σ.set i none) (env.set i .un) ++ T))) := g3.perm List.perm_middle.symm
  have g5 := g4.closeM ha keys
  have g6 : G ki H ((some (V.ref a), .m xs) :: (zE (σ.set i none) (env.set i .un) ++ ((some v, .p d) :: T))) := g5.perm (List.Perm.cons _ List.perm_middle.symm)
  have g7 := slotIn hl ho g6
  have ee : env.set i (.m xs) = env := by
    apply List.ext_getElem?
    intro j
    by_cases hj : i = j
    · subst hj; rw [List.getElem?_set_self (List.getElem?_eq_some_iff.mp h).1]; exact h.symm
    · rw [List.getElem?_set_ne hj]
  rw [ee] at g7
  exact g7.perm List.perm_middle
theorem rd_dget2 {i : Nat} (h1 : Rd ki W ty mk) (h2 : Rd ki W tx md) : Rd ki W (tDGet2 (tVar i) ty tx) (mDGet2 i mk md) := fun σ H env T r env' hl gd e Q post => by
  obtain ⟨⟨xs0, hx0⟩, e⟩ := isM_inv e
  obtain ⟨l, vs0, ho, hv0, _⟩ := dct_at hl gd hx0
  refine ⟨.ref l, ho, l, rfl, .inl ⟨vs0, .inl hv0⟩, ?_⟩
  refine h1.use (E := []) hl gd e post fun o1 v1 H1 env1 n1 g1 i1 e => ?_
  refine h2.use (E := [(some v1, o1.slot)]) (hl.trans n1.symm) g1 e (by rw [n1]; exact post) fun o2 v2 H2 env2 n2 g2 i2 e => ?_
  obtain ⟨d, q, e⟩ := look_inv e
  have hl2 : σ.length = env2.length := hl.trans (n2.trans n1).symm
  unfold dgK at e
  split at e
  · rename_i ks k hx hk
    have hkv := keyD_V (g2.datDp (Opd.memD (A := [(some v2, o2.slot)]) i1 q) q) hk
    subst hkv
    obtain ⟨l', vs, ho', hv, hg1, hg2⟩ := dct_get (k := k) hl2 g2 hx
    rw [ho] at ho'
    cases ho'
    refine ⟨valV vs k, .inl ⟨vs, k, .inl hv, rfl, rfl⟩, ?_⟩
    split at e
    · rename_i d2 hd2
      cases e
      obtain ⟨v, ev, g3⟩ := hg1 _ hd2
      rw [ev]
      exact post v H2 (n2.trans n1) (settle (E := [(some v2, o2.slot), (some (kV k), o1.slot)]) g3) trivial
    · rename_i hd2
      rw [hg2 hd2]
      split at e
      · rename_i s2 _
        cases e
        refine post v2 H2 (n2.trans n1) ?_ trivial
        have g3 : G ki H2 ((zE σ env' ++ [(some v2, s2)]) ++ ([(some (kV k), o1.slot)] ++ T)) := by rw [List.append_assoc]; exact g2
        have g4 := dropMid g3
        rw [List.append_assoc] at g4
        exact g4
      · cases e
    · cases e
  · cases e
/-- d[k] = e, d a dict of a name's own -/
def dpK (i : Nat) (e d : PyData) : StM := fun env => match env[i]?, keyD d with
  | some (.m ks), some k => if smallL ks.length then some (.nx, env.set i (.m (putS ks k (.p e)))) else none
  | _, _ => none
def sDSet (i : Nat) (mv mk : ExM) : StM := bndS mv fun ov => match ov.own with
  | some e => isM i (bndS mk fun ok => bndS (look ok) fun d => dpK i e d)
  | none => fun _ => none
theorem rds_dput {i : Nat} (h1 : Rd ki W tv mv) (h2 : Rd ki W ty mk) : RdS ki W fx (sDPut (tVar i) ty tv) (sDSet i mv mk) := fun σ H env T fl env' hl hf gd e D post => by
  refine h1.useS hl hf gd e post fun o v H1 env1 n1 g1 i1 e => ?_
  cases o with
  | ref _ => cases e
  | val s =>
    have e : (match s.dat with
      | some e => isM i (bndS mk fun ok => bndS (look ok) fun d => dpK i e d)
      | none => fun _ => none) env1 = some (fl, env') := e
    cases q : s.dat with
    | none => rw [q] at e; cases e
    | some dv =>
      rw [q] at e
      obtain ⟨⟨xs0, hx0⟩, e⟩ := isM_inv e
      have hl1 : σ.length = env1.length := hl.trans n1.symm
      obtain ⟨l, vs0, ho, hv0, _⟩ := dct_at hl1 g1 hx0
      refine ⟨.ref l, ho, ?_⟩
      refine h2.useS' (E := [(some v, s)]) hl1 hf g1 e (by rw [n1]; exact post) fun oi vi H2 env2 n2 g2 i2 e => ?_
      obtain ⟨d, q2, e⟩ := lookS_inv e
      have hl2 : σ.length = env2.length := hl1.trans n2.symm
      unfold dpK at e
      split at e
      · rename_i ks k hx hk
        split at e
        · rename_i hz
          cases e
          have hkv := keyD_V (g2.datDp (Opd.memD (A := []) i2 q2) q2) hk
          subst hkv
          have g3 : G ki H2 (zE σ env2 ++ ((some v, s) :: T)) := dropMid (E := [_]) g2
          have g4 := slotOut hl2 ho hx g3
          have g5 : G ki H2 ((some v, s) :: (some (V.ref l), .m ks) :: (zE (σ.set i none) (env2.set i .un) ++ T)) := g4.perm ((List.Perm.cons _ List.perm_middle).trans (List.Perm.swap _ _ _))
          have g6 : G ki H2 ((some (V.ref l), .m ks) :: (some v, .p dv) :: (zE (σ.set i none) (env2.set i .un) ++ T)) := (g5.frz q).perm (List.Perm.swap _ _ _)
          obtain ⟨vs, hv, len, g7⟩ := g6.putTop (k := k)
          have hz := of_decide_eq_true hz
          refine ⟨l, _, rfl, .inl ⟨vs, k, hv, rfl, Nat.lt_of_lt_of_le (show vs.length < 1000001 by omega) (by decide), rfl⟩, ?_⟩
          exact post σ _ hl (by rw [List.length_set]; exact n2.trans n1) hf (slotIn hl2 ho g7)
        · cases e
      · cases e
/-- {} -/
def mDNew : ExM := ret (.val (.m []))
theorem rd_dnew : Rd ki W tDNewK mDNew := fun σ H env T r env' hl g e Q post => by
  cases e
  intro p np
  have g1 := Good.reserve (u := .dK []) g np
  have g2 : Good ki.K (upd H p (.dK [])) [p] (zM [] [] ++ (zE σ env ++ T)) := g1
  exact post _ _ rfl (toTop (g2.closeM upd_same rfl)) trivial
end
end MM
/-! M10a: rules over the heap: dict() of a tuple of pairs, the items of a dict sorted, rows of data sorted -/
namespace L2
open PySem PySem.Spec PyProof.Rows
section
variable {X : Cx} {pins : List (Addr × Obj)} {σ : St} {H : Hp} {s : Shared}
theorem call_or {f : Value} {r1 r2 : List V → Hp → VK → Prop} (h1 : CallR X f r1) (h2 : CallR X f r2) : CallR X f (fun xs H Q => r1 xs H Q ∨ r2 xs H Q) := by
  intro pins s σ H xs us Q I r h
  rcases h with h | h
  · exact h1 pins s σ H xs us Q I r h
  · exact h2 pins s σ H xs us Q I r h
/-- a tuple that is an object known whole -/
def TupN (K : PySem.W.Frag) (H : Hp) (a : Addr) (xs : List V) : Prop :=
  (∃ (o : Obj) (its : Array Value) (n : Nat), K.lookup a = some o ∧ o.cls = .type "tuple" ∧ o.data = .seq its n ∧ its.size ≤ sizeLine ∧ Vals xs its.toList ∧ o.dict = none) ∨
    ∃ o : Obj, H a = some (.frz o (.tup xs)) ∧ o.dict = none
theorem tupN_at {a : Addr} {xs : List V} (I : Inv X pins σ H s) (h : TupN X.K H a xs) : ∃ (o : Obj) (its : List Value) (n : Nat), s.heap.get? a = some o ∧ o.cls = .type "tuple" ∧ o.dict = none ∧ o.data = .seq its.toArray n ∧ Vals xs its ∧ its.length ≤ sizeLine := by
  rcases h with ⟨o, its, n, h1, h2, h3, h4, h5, h6⟩ | ⟨o, h1, h2⟩
  · exact ⟨o, its.toList, n, I.kIn a o h1, h2, h6, by rw [Array.toArray_toList]; exact h3, h5, by rw [Array.length_toList]; exact h4⟩
  · obtain ⟨e1, hz, its, rv, o', e2, hc, n, hd⟩ := (show ObjOk X.prog X.w H s.heap a (.frz o (.tup xs)) from I.hok a _ h1)
    have e1 : s.heap.get? a = some o := e1
    have e2 : s.heap.get? a = some o' := e2
    rw [e1] at e2
    cases e2
    exact ⟨o, its, n, e1, hc, h2, hd, rv, by rw [← Vals.length rv]; exact hz⟩
theorem pairs_in (I : Inv X pins σ H s) : ∀ {ps : List Addr} {kvs : List (Key × V)}, Paired (fun p kv => SqT X.K H p [kV kv.1, kv.2]) ps kvs →
    ∃ (prs : List (Key × Value)) (pv : List (Value × Value)), KV kvs prs ∧ prs.length = ps.length ∧ pv.length = ps.length ∧
      ∀ (j : Nat) (k v : Value), pv[j]? = some (k, v) → ∃ (b : Addr) (q : Key), ps[j]? = some b ∧ prs[j]? = some (q, v) ∧ keyIs q k = true ∧ s.heap.IsTuple b #[k, v]
  | _, _, .nil => ⟨[], [], .nil, rfl, rfl, fun j k v e => by simp at e⟩
  | _, _, .cons (a := p) (b := kv) h t => by
    obtain ⟨prs, pv, r, l1, l2, hp⟩ := pairs_in I t
    obtain ⟨its, rv, ht, _⟩ := I.tuple h
    obtain ⟨u, y, ei, ru, ry⟩ := vals2 rv
    subst ei
    refine ⟨(kv.1, y) :: prs, (u, y) :: pv, .cons ⟨rfl, ry⟩ r, by rw [List.length_cons, List.length_cons, l1], by rw [List.length_cons, List.length_cons, l2], fun j k v e => ?_⟩
    cases j with
    | zero =>
      have e' : (u, y) = (k, v) := Option.some.inj e
      cases e'
      exact ⟨p, kv.1, rfl, rfl, kV_is (P := X.prog) (w := X.w) ru, ht⟩
    | succ j =>
      obtain ⟨b, q, e1, e2, e3⟩ := hp j k v (by simpa using e)
      exact ⟨b, q, by simpa using e1, by simpa using e2, e3⟩
def rDictT (K : PySem.W.Frag) : List V → Hp → VK → Prop := fun xs H Q => ∃ (a : Addr) (ps : List Addr) (kvs : List (Key × V)), xs = [.ref a] ∧ TupN K H a (ps.map V.ref) ∧ Paired (fun p kv => SqT K H p [kV kv.1, kv.2]) ps kvs ∧
    ∀ p, H p = none → Q (.ref p) (upd H p (.dK (mergeK [] kvs)))
/-- dict(t), t a tuple of pairs -/
theorem call_dictT (hcalm : X.calm = true) : CallR X (.type "dict") (rDictT X.K) := by
  intro pins s σ H xs us Q I r q
  obtain ⟨a, ps, kvs, ex, hq, hp, q⟩ := q
  subst ex
  obtain ⟨u, eu, rx⟩ := vals1 r
  subst eu
  cases rx
  obtain ⟨o, its, n, ho, hc, hd, hdat, rv, hz⟩ := tupN_at I hq
  have ei := refs_at rv
  subst ei
  rw [List.length_map] at hz
  obtain ⟨prs, pv, rel, l1, l2, hpr⟩ := pairs_in I hp
  have at_ : ∀ j k v, pv[j]? = some (k, v) → ((ps.map Value.ref).toArray)[j]? = some (Value.ref ((ps[j]?).getD 0)) ∧ PairAt s.heap ((ps[j]?).getD 0) k v := fun j k v e => by
    obtain ⟨b, q, e1, e2, e3, e4⟩ := hpr j k v e
    rw [e1]
    refine ⟨?_, .inl e4⟩
    rw [List.getElem?_toArray, List.getElem?_map, e1]; rfl
  refine PySem.call_dict_pairs (knd := mixKind X.prog X.w) (kvs := prs) (PairArg.tuple a (ps.map Value.ref).toArray (fun j => (ps[j]?).getD 0) pv) (I.ok.hd hcalm)
    ⟨⟨o, n, ho, hc, hd, hdat⟩, by simp [l2], at_⟩ ⟨by omega, fun i key v e => ?_⟩ (by omega) fun h' tk hd' k => ?_
  · obtain ⟨b, q, e1, e2, e3, e4⟩ := hpr i key v e
    exact ⟨q, e2, e3⟩
  · have hm : (s.heap.objs.size == sysModules) = false := beq_eq_false_iff_ne.mpr (Nat.ne_of_gt I.big)
    have hlen : (mergeK [] kvs).length ≤ sizeLine := by
      refine Nat.le_trans (length_mergeK kvs []) ?_
      rw [List.length_nil, Nat.zero_add, rel.length, l1]
      exact hz
    exact ⟨.ref s.heap.objs.size, upd H s.heap.objs.size (.dK (mergeK [] kvs)), I.laid (t' := tk) (fun b o e => k b o (fun z => nomatch z) e) (Nat.le_refl _) (show ObjOk X.prog X.w _ _ _ (.dK (mergeK [] kvs)) from ⟨hlen, hm, merged [] prs, KV.merge rel .nil, hd'⟩), rfl, q _ (I.hok.fresh (Nat.le_refl _))⟩

/-! ### the view of a dict's items -/
def rItemsV : V → List V → Hp → VK → Prop := fun x xs H Q => ∃ (a : Addr) (kvs : List (Key × V)), x = .ref a ∧ xs = [] ∧ H a = some (.dK kvs) ∧ ∀ p, H p = none → Q (.ref p) (upd H p (L2.DX.itemsO p a))
theorem mt_itemsV : MtR X "dict.items" rItemsV := by
  intro pins s σ H x xs v us Q I rx rxs h
  obtain ⟨a, kvs, rfl, rfl, ha, q⟩ := h
  cases rx
  cases rxs
  obtain ⟨z, hd, vs, kv, hdo⟩ := (show ObjOk X.prog X.w H s.heap a (.dK kvs) from I.hok a _ ha)
  obtain ⟨ep, o, es, ho, hx, hdat, _⟩ := hdo.dictAt
  refine DT.callItems (es := es) (ep := ep) hd ⟨o, ho, hx, hdat⟩ ?_
  have hf : H s.heap.objs.size = none := I.hok.fresh (Nat.le_refl _)
  exact ⟨.ref s.heap.objs.size, upd H s.heap.objs.size (L2.DX.itemsO s.heap.objs.size a), I.laid (t' := s.toks) (fun b u e => Heap.get?_push_of_some _ e) (Nat.le_refl _) (L2.DX.itemsO_ok (Heap.get?_push_size _ rfl)), rfl, q _ hf⟩

/-- tuples that were laid are tracked, one by one -/
theorem lay_tups {h' : Heap} {tk : Nat} {H0 : Hp} (I0 : Inv X pins σ H0 s) : ∀ (ts : List (Addr × List V)) (H1 : Hp), Inv X pins σ H1 { s with heap := h', toks := tk } → (ts.map (·.1)).Nodup →
    (∀ t ∈ ts, s.heap.objs.size ≤ t.1 ∧ H1 t.1 = none ∧ ∀ H2, ObjOk X.prog X.w H2 h' t.1 (.tup t.2)) →
    ∃ H2, Inv X pins σ H2 { s with heap := h', toks := tk } ∧ (∀ b o, H1 b = some o → H2 b = some o) ∧ ∀ t ∈ ts, H2 t.1 = some (.tup t.2)
  | [], H1, I1, _, _ => ⟨H1, I1, fun _ _ e => e, fun _ h => nomatch h⟩
  | t :: ts, H1, I1, hn, h => by
    obtain ⟨hb, hnone, ok⟩ := h t List.mem_cons_self
    rw [List.map_cons, List.nodup_cons] at hn
    have I2 : Inv X pins σ (upd H1 t.1 (.tup t.2)) { s with heap := h', toks := tk } := I1.take (h' := h') (t' := tk) (fun b ob _ e => e) (I0.fpOk hb hnone) (ok _)
    obtain ⟨H2, I3, g, q⟩ := lay_tups I0 ts _ I2 hn.2 fun c hc => by
      obtain ⟨c1, c2, c3⟩ := h c (List.mem_cons_of_mem _ hc)
      exact ⟨c1, by rw [upd_ne (fun z => hn.1 (by rw [← z]; exact List.mem_map_of_mem hc))]; exact c2, c3⟩
    refine ⟨H2, I3, fun b o e => g b o (by rw [upd_ne (fun z => by rw [z, hnone] at e; cases e)]; exact e), fun c hc => ?_⟩
    rcases List.mem_cons.mp hc with rfl | hc
    · exact g _ _ upd_same
    · exact q c hc

/-! ### sorting -/
/-- a key's datum -/
def keyP : Key → PyData
  | .inl i => .int i
  | .inr x => .str x
abbrev Kvd := Addr × (Key × V) × PyData
def prP (z : Kvd) : PyData := .tuple [keyP z.2.1.1, z.2.2]
def zip3 (as : List Addr) (kvs : List (Key × V)) (es : List PyData) : List Kvd := as.zip (kvs.zip es)
def rSortIt (K : PySem.W.Frag) : List V → Hp → VK → Prop := fun xs H Q => ∃ (p a : Addr) (kvs : List (Key × V)) (es : List PyData), xs = [.ref p] ∧ H p = some (L2.DX.itemsO p a) ∧ H a = some (.dK kvs) ∧ DpAll K H (kvs.map (·.2)) es ∧
  PySem.W.AllAlike ((kvs.zip es).map fun z => .tuple [keyP z.1.1, z.2]) ∧ (∀ d ∈ es, d.depth ≤ 40) ∧
  ∀ (H' : Hp) (l : Addr) (as : List Addr), (∀ b o, H b = some o → H' b = some o) → H l = none → l ∉ as → as.Nodup → (∀ t ∈ as, H t = none) → as.length = kvs.length →
    (∀ z ∈ as.zip kvs, H' z.1 = some (.tup [kV z.2.1, z.2.2])) → H' l = some (.lst (((zip3 as kvs es).mergeSort (PySem.W.dataLe false prP)).map fun z => V.ref z.1)) → Q (.ref l) H'
theorem reads_key {h : Heap} {k : Key} {u : Value} (e : keyIs k u = true) : Reads h u (keyP k) [] := by
  rcases keyIs_shape e with ⟨i, t, rfl, rfl⟩ | ⟨x, t, rfl, rfl⟩
  · exact Reads.int i t
  · exact Reads.str x t
theorem dpAll_get {K : PySem.W.Frag} : ∀ {vs : List V} {ds : List PyData} {j : Nat} {v : V}, DpAll K H vs ds → vs[j]? = some v → ∃ d, ds[j]? = some d ∧ Dp K H v d
  | _, _, _, _, .nil, e => by simp at e
  | _, _, 0, _, .cons h _, e => by cases e; exact ⟨_, rfl, h⟩
  | _ :: _, _ :: _, j + 1, _, .cons _ t, e => dpAll_get (j := j) t (by simpa using e)
theorem dpAll_len {K : PySem.W.Frag} : ∀ {vs : List V} {ds : List PyData}, DpAll K H vs ds → vs.length = ds.length
  | _, _, .nil => rfl
  | _, _, .cons _ t => by rw [List.length_cons, List.length_cons, dpAll_len t]
theorem eachIs_of {α β : Type} {R : α → β → Prop} : ∀ {xs : List α} {ys : List β}, xs.length = ys.length → (∀ (j : Nat) (x : α) (y : β), xs[j]? = some x → ys[j]? = some y → R x y) → PySem.W.EachIs R xs ys
  | [], [], _, _ => .nil
  | x :: xs, y :: ys, h, k => .cons (k 0 x y rfl rfl) (eachIs_of (by simpa using h) fun j a b e1 e2 => k (j + 1) a b e1 e2)
  | [], _ :: _, h, _ => by simp at h
  | _ :: _, [], h, _ => by simp at h
theorem each_refs : ∀ {vs : List Value} {bs : List Kvd}, PySem.W.EachIs (fun v b => v = .ref b.1) vs bs → vs = bs.map fun b => Value.ref b.1
  | _, _, .nil => rfl
  | _, _, .cons h t => by rw [List.map_cons, ← h, ← each_refs t]
theorem keyP_depth (k : Key) : (keyP k).depth = 0 := by cases k <;> simp [keyP, PyData.depth]
theorem prP_depth {k : Key} {d : PyData} : (PyData.tuple [keyP k, d]).depth = d.depth + 1 := by
  simp [PyData.depth, PyData.depthAll, keyP_depth]
theorem zip3_at {as : List Addr} {kvs : List (Key × V)} {es : List PyData} {j : Nat} {z : Kvd} (h : (zip3 as kvs es)[j]? = some z) : as[j]? = some z.1 ∧ kvs[j]? = some z.2.1 ∧ es[j]? = some z.2.2 := by
  have h1 := List.getElem?_zip_eq_some.mp h
  have h2 := List.getElem?_zip_eq_some.mp h1.2
  exact ⟨h1.1, h2.1, h2.2⟩
theorem zip3_len {as : List Addr} {kvs : List (Key × V)} {es : List PyData} (h1 : as.length = kvs.length) (h2 : kvs.length = es.length) : (zip3 as kvs es).length = as.length := by
  unfold zip3
  rw [List.length_zip, List.length_zip]; omega
theorem zip3_prP {as : List Addr} {kvs : List (Key × V)} {es : List PyData} (h1 : as.length = kvs.length) (h2 : kvs.length = es.length) : (zip3 as kvs es).map prP = (kvs.zip es).map fun z => .tuple [keyP z.1.1, z.2] := by
  have e : ((zip3 as kvs es).map Prod.snd).map (fun z : (Key × V) × PyData => PyData.tuple [keyP z.1.1, z.2]) = (kvs.zip es).map fun z => .tuple [keyP z.1.1, z.2] := by
    unfold zip3
    rw [List.map_snd_zip (by rw [List.length_zip]; omega)]
  rw [← e, List.map_map]; rfl
/-- sorted(d.items()) -/
theorem cr_sortIt (hc : X.calm = true) (hu : X.A.units + 64 < cLine) : CallR X (.builtin "sorted") (rSortIt X.K) := by
  intro pins s σ H xs us Q I r h
  obtain ⟨p, a, kvs, es, rfl, hp, ha, hd, hal, hdep, q⟩ := h
  obtain rfl := Vals.ref1 r
  have view : s.heap.IsItemsView p a := (show ObjOk X.prog X.w H s.heap p (L2.DX.itemsO p a) from I.hok p _ hp).1
  obtain ⟨hz, hs0, vs, kv, hdo⟩ := (show ObjOk X.prog X.w H s.heap a (.dK kvs) from I.hok a _ ha)
  obtain ⟨ep, o, ens, ho, hx, hdat, hks, hpr, hn⟩ := hdo.dictAt
  have lk : kvs.length = vs.length := Paired.length kv
  have le : kvs.length = es.length := by have := dpAll_len hd; rwa [List.length_map] at this
  have lens : ens.size = vs.length := by rw [← hpr.length]; simp
  have hh : X.A.handled = none := I.ok.hd hc
  refine DT.sortedI (es := ens) (ep := ep) hh view ⟨o, ho, hx, hdat⟩ (by omega) fun h' tk as hk hlt hl hG => ?_
  have las : as.length = kvs.length := by omega
  have nd : as.Nodup := List.Pairwise.imp (fun h => Nat.ne_of_lt h) hG.rise
  have hob : (h'.push { cls := .type "list", data := .seq (as.map Value.ref).toArray }).get? h'.objs.size = some (seqObj "list" (as.map Value.ref).toArray 0) := Heap.get?_push_size _ rfl
  have kb : ∀ b o, s.heap.get? b = some o → (h'.push { cls := .type "list", data := .seq (as.map Value.ref).toArray }).get? b = some o := fun b o e => Heap.get?_push_of_some _ (hk b o e)
  have ne0 : ∀ b o, h'.get? b = some o → b ≠ h'.objs.size := fun b o e => Nat.ne_of_lt (Heap.lt_size e)
  generalize hh2 : h'.push { cls := .type "list", data := .seq (as.map Value.ref).toArray } = h2 at hob kb ⊢
  have ka : ∀ b o, h'.get? b = some o → h2.get? b = some o := fun b o e => by rw [← hh2]; exact Heap.get?_push_of_some _ e
  have lz := zip3_len las le
  -- what each pair is
  have pr : ∀ (j : Nat) (z : Kvd), (zip3 as kvs es)[j]? = some z → ∃ key x, h'.get? z.1 = some { cls := .type "tuple", data := .seq #[key, x] } ∧ keyIs z.2.1.1 key = true ∧ RelV z.2.1.2 x ∧ Dp X.K H z.2.1.2 z.2.2 := by
    intro j z hj
    obtain ⟨z1, z2, z3⟩ := zip3_at hj
    obtain ⟨en, he, hg⟩ := hG.pairs j z.1 z1
    obtain ⟨y, hy, f1, f2⟩ := LiI.paired_get kv z2
    obtain ⟨y1, y2⟩ := y
    simp only at f1 f2
    obtain ⟨g1, g2⟩ := hpr.get? (i := j) (e := en) (by simpa using he) hy
    obtain ⟨d, d1, d2⟩ := dpAll_get (j := j) (v := z.2.1.2) hd (by rw [List.getElem?_map, z2]; rfl)
    rw [z3] at d1
    cases d1
    subst g2
    refine ⟨en.key, en.val, hg, ?_, f2, d2⟩
    rw [f1]; exact g1
  have bs1 : PySem.W.EachIs (fun v (b : Kvd) => v = Value.ref b.1) (as.map Value.ref) (zip3 as kvs es) := eachIs_of (by rw [List.length_map, lz]) fun j v b e1 e2 => by
    obtain ⟨z1, _, _⟩ := zip3_at e2
    rw [List.getElem?_map, z1] at e1
    exact (Option.some.inj e1).symm
  have bs2 : PySem.W.EachIs (fun v (b : Kvd) => ∃ ad, Reads h2 v (prP b) ad ∧ h'.objs.size ∉ ad) (as.map Value.ref) (zip3 as kvs es) := eachIs_of (by rw [List.length_map, lz]) fun j v b e1 e2 => by
    obtain ⟨z1, _, _⟩ := zip3_at e2
    rw [List.getElem?_map, z1] at e1
    cases (Option.some.inj e1).symm
    obtain ⟨key, x, hg, hk1, rx, dx⟩ := pr j b e2
    obtain ⟨ad, rd⟩ := Dp.reads I _ _ _ dx rx
    have rd2 := PyProof.Rows.Reads.keeps kb rd
    refine ⟨[] ++ (ad ++ []), Reads.tuple (ka _ _ hg) rfl rfl (ReadsAll.cons (reads_key hk1) (ReadsAll.cons rd2 ReadsAll.nil)), fun hm => ?_⟩
    have hm : h'.objs.size ∈ ad := by simpa using hm
    obtain ⟨oo, hoo⟩ := PyProof.On.reads_mem_get rd _ hm
    exact absurd (Heap.lt_size hoo) (Nat.not_lt.mpr (Nat.le_of_lt hlt))
  refine PySem.W.list_sort_data (s := { s with heap := h2, toks := tk }) (enc := prP) (R := fun v b => v = Value.ref b.1) (vs := as.map Value.ref) hob bs1 bs2 (by rw [zip3_prP las le]; exact hal) (PySem.W.Sortable.tuples fun b => ⟨_, _, rfl⟩) (by omega) (fun b hb => ?_) fun out o1 o2 => ?_
  · obtain ⟨j, hj⟩ := List.mem_iff_getElem?.mp hb
    have := hdep _ (List.mem_of_getElem? (zip3_at hj).2.2)
    show X.A.units + 1 + 1 + (PyData.tuple [keyP b.2.1.1, b.2.2]).depth < cLine
    rw [prP_depth]; omega
  · have eo := each_refs o2
    show EP X pins σ Q (.ref h'.objs.size) { s with heap := sortedHeap h2 h'.objs.size (as.map Value.ref) out.toArray, toks := tk }
    have kF : ∀ b o, b ≠ h'.objs.size → h2.get? b = some o → (sortedHeap h2 h'.objs.size (as.map Value.ref) out.toArray).get? b = some o := fun b o hb e => (PyProof.Rows.sortedHeap_old hb (Heap.lt_size e)).trans e
    have kS : ∀ b o, s.heap.get? b = some o → (sortedHeap h2 h'.objs.size (as.map Value.ref) out.toArray).get? b = some o := fun b o e => kF b o (ne0 _ _ (hk b o e)) (kb b o e)
    obtain ⟨eF, heF⟩ := PyProof.Rows.sortedHeap_at (vs := as.map Value.ref) (out := out.toArray) hob
    have I1 : Inv X pins σ H { s with heap := sortedHeap h2 h'.objs.size (as.map Value.ref) out.toArray, toks := tk } := I.kept (t' := tk) kS
    have hn0 : H h'.objs.size = none := I.hok.fresh (Nat.le_of_lt hlt)
    have hlen : ((zip3 as kvs es).mergeSort (PySem.W.dataLe false prP)).length = kvs.length := by rw [List.length_mergeSort, lz, las]
    have rv : Vals (((zip3 as kvs es).mergeSort (PySem.W.dataLe false prP)).map fun z => V.ref z.1) out := by
      rw [eo]
      exact vals_maps (fun z : Kvd => V.ref z.1) (fun z => Value.ref z.1) _ fun _ _ => rfl
    have I2 : Inv X pins σ (upd H h'.objs.size (.lst (((zip3 as kvs es).mergeSort (PySem.W.dataLe false prP)).map fun z => V.ref z.1))) { s with heap := sortedHeap h2 h'.objs.size (as.map Value.ref) out.toArray, toks := tk } :=
      I1.take (h' := sortedHeap h2 h'.objs.size (as.map Value.ref) out.toArray) (t' := tk) (fun b ob _ e => e) (I.fpOk (Nat.le_of_lt hlt) hn0) ⟨by rw [List.length_map, hlen]; exact hz, out, eF, rv, heF⟩
    have ets : ((as.zip kvs).map fun z => ((z.1, [kV z.2.1, z.2.2]) : Addr × List V)).map (·.1) = as := by
      rw [List.map_map]
      show (as.zip kvs).map (fun z => z.1) = as
      exact List.map_fst_zip (by omega)
    obtain ⟨H2, I3, g, qt⟩ := lay_tups I ((as.zip kvs).map fun z => (z.1, [kV z.2.1, z.2.2])) _ I2 (by rw [ets]; exact nd) fun t ht => by
      obtain ⟨z, hz1, rfl⟩ := List.mem_map.mp ht
      obtain ⟨j, hj⟩ := List.mem_iff_getElem?.mp hz1
      have hj2 := List.getElem?_zip_eq_some.mp hj
      have hjl : j < as.length := (List.getElem?_eq_some_iff.mp hj2.1).1
      obtain ⟨w, hw⟩ : ∃ w, (zip3 as kvs es)[j]? = some w := ⟨_, List.getElem?_eq_getElem (by omega)⟩
      obtain ⟨w1, w2, w3⟩ := zip3_at hw
      rw [hj2.1] at w1
      rw [hj2.2] at w2
      have e1 : z.1 = w.1 := Option.some.inj w1
      have e2 : z.2 = w.2.1 := Option.some.inj w2
      obtain ⟨key, x, hg, hk1, rx, dx⟩ := pr j w hw
      rw [← e1] at hg
      rw [← e2] at hk1 rx
      have hbl : s.heap.objs.size ≤ z.1 := Nat.le_of_lt (hG.above _ (List.mem_of_getElem? hj2.1))
      refine ⟨hbl, ?_, fun H3 => ⟨by rw [sizeLine_eq]; show 2 ≤ 16777216; omega, [key, x], .cons (relV_key hk1) (.cons rx .nil), ⟨_, kF _ _ (ne0 _ _ hg) (ka _ _ hg), rfl, 0, rfl⟩⟩⟩
      show upd H h'.objs.size _ z.1 = none
      rw [upd_ne (ne0 _ _ hg)]
      exact I.hok.fresh hbl
    have gr : ∀ b o, H b = some o → H2 b = some o := fun b o e => g b o (by rw [upd_ne (fun z => by rw [z, hn0] at e; cases e)]; exact e)
    have nas : h'.objs.size ∉ as := fun hm => absurd (hG.there hm) (Nat.lt_irrefl _)
    exact ⟨.ref h'.objs.size, H2, I3, rfl, q H2 h'.objs.size as gr hn0 nas nd (fun t ht => I.hok.fresh (Nat.le_of_lt (hG.above t ht))) las (fun z hz1 => qt (z.1, [kV z.2.1, z.2.2]) (List.mem_map_of_mem (f := fun z : Addr × Key × V => (z.1, [kV z.2.1, z.2.2])) hz1)) (g _ _ upd_same)⟩
end
end L2
/-! M10: dict() of pairs, sorted items, isinstance, by data -/
namespace MM
open PySem PySem.Spec L2

/-! ### dict(pairs) -/
def prD (z : Key × PyData) : PyData := .tuple [keyP z.1, z.2]
def pairD : PyData → Option (Key × PyData)
  | .tuple [a, b] => (keyD a).map fun k => (k, b)
  | _ => none
def pairsD : List PyData → Option (List (Key × PyData))
  | [] => some []
  | d :: ds => (pairD d).bind fun z => (pairsD ds).map (z :: ·)
def mergeS (acc : List (Key × Slot)) (more : List (Key × PyData)) : List (Key × Slot) := more.foldl (fun acc z => putS acc z.1 (.p z.2)) acc
def kS (kds : List (Key × PyData)) : List (Key × Slot) := kds.map fun z => (z.1, .p z.2)
section
variable {K : PySem.W.Frag} {H H' : Hp} {R : List Addr} {L : Row}
theorem zM_kS {kvs : List (Key × V)} {kds : List (Key × PyData)} : zM kvs (kS kds) = zP (kvs.map (·.2)) (kds.map (·.2)) := by
  unfold zM zP kS
  rw [List.map_map, List.map_map, List.map_map]; rfl
theorem pairD_inv {d : PyData} {z : Key × PyData} (h : pairD d = some z) : ∃ a, d = .tuple [a, z.2] ∧ keyD a = some z.1 := by
  unfold pairD at h
  split at h
  · rename_i a b
    obtain ⟨k, h1, rfl⟩ := Option.map_eq_some_iff.mp h
    exact ⟨a, rfl, h1⟩
  · cases h
theorem zP_cons (v : V) (vs : List V) (d : PyData) (ds : List PyData) : zP (v :: vs) (d :: ds) = (some v, .p d) :: zP vs ds := rfl
theorem pairsRow : ∀ {ds : List PyData} {vs : List V} {kds : List (Key × PyData)} {L : Row}, vs.length = ds.length → pairsD ds = some kds → Good K H R (zP vs ds ++ L) →
    ∃ (ps : List Addr) (kvs : List (Key × V)), vs = ps.map V.ref ∧ Paired (fun p kv => SqT K H p [kV kv.1, kv.2]) ps kvs ∧ kvs.map (·.1) = kds.map (·.1) ∧ Good K H R (zM kvs (kS kds) ++ L)
  | [], [], kds, L, _, h, g => by
    cases h
    exact ⟨[], [], rfl, .nil, rfl, g⟩
  | d :: ds, v :: vs, kds, L, hn, h, g => by
    obtain ⟨z, h1, h2⟩ := Option.bind_eq_some_iff.mp (show (pairD d).bind _ = some kds from h)
    obtain ⟨kds', h3, rfl⟩ := Option.map_eq_some_iff.mp h2
    obtain ⟨a, rfl, hk⟩ := pairD_inv h1
    have g0 : Good K H R ((some v, .p (.tuple [a, z.2])) :: (zP vs ds ++ L)) := g
    obtain ⟨p, ws, e, hs, _, len, g1⟩ := g0.items (ds := [a, z.2]) List.mem_cons_self (.inl rfl)
    cases e
    match ws, len with
    | [w1, w2], _ =>
      have g2 : Good K H R ((some w1, .p a) :: (some w2, .p z.2) :: (some (.ref p), .p (.tuple [a, z.2])) :: (zP vs ds ++ L)) := g1
      obtain ⟨x, ex, dx⟩ := g2.dp (o := some w1) (d := a) List.mem_cons_self
      cases ex
      have ek := keyD_V dx hk
      subst ek
      have g3 : Good K H R ((some w2, .p z.2) :: (zP vs ds ++ L)) := by
        have g4 := g2.drop.perm (List.Perm.swap _ _ _)
        exact g4.drop
      have g5 : Good K H R (zP vs ds ++ ((some w2, .p z.2) :: L)) := g3.perm List.perm_middle.symm
      obtain ⟨ps, kvs, rfl, q1, q2, g6⟩ := pairsRow (by simpa using hn) h3 g5
      refine ⟨p :: ps, (z.1, w2) :: kvs, rfl, .cons (hs rfl) q1, by rw [List.map_cons, List.map_cons, q2], ?_⟩
      exact g6.perm List.perm_middle
  | [], _ :: _, _, _, hn, _, _ => by simp at hn
  | _ :: _, [], _, _, hn, _, _ => by simp at hn
theorem Good.itemsT {o : Option V} {ds : List PyData} (g : Good K H R L) (h : (o, Slot.p (.tuple ds)) ∈ L) : ∃ a vs, o = some (.ref a) ∧ TpK K H a vs ds ∧ vs.length = ds.length ∧ Good K H R (zP vs ds ++ L) := by
  obtain ⟨F, fp, e, w, nd, fn, rt⟩ := g
  obtain ⟨v, rfl, q⟩ := w.mem h
  cases q with
  | tup hq ha => exact ⟨_, _, rfl, hq.mono e, (dpall_row (H := H) ha).2, F, [] ++ fp, e, (dpall_row ha).1.app w, nd, fn, rt⟩
theorem mergeRow {p : Addr} : ∀ {kds : List (Key × PyData)} {kvs : List (Key × V)} {acc : List (Key × V)} {ac : List (Key × Slot)}, kvs.map (·.1) = kds.map (·.1) →
    Good K (upd H p (.dK acc)) R ((some (.ref p), .m ac) :: (zM kvs (kS kds) ++ L)) → Good K (upd H p (.dK (mergeK acc kvs))) R ((some (.ref p), .m (mergeS ac kds)) :: L)
  | [], [], acc, ac, _, g => g
  | z :: kds, (k, v) :: kvs, acc, ac, e0, g => by
    have e := e0
    simp only [List.map_cons, List.cons.injEq] at e
    obtain ⟨rfl, e⟩ := e
    clear e0
    have g0 : Good K (upd H p (.dK acc)) R ((some (.ref p), .m ac) :: (some v, .p z.2) :: (zM kvs (kS kds) ++ L)) := g
    obtain ⟨vs, h1, _, g1⟩ := g0.putTop (k := z.1)
    rw [upd_same] at h1
    cases h1
    rw [upd_upd] at g1
    exact mergeRow (kds := kds) (kvs := kvs) (acc := putK acc z.1 v) (ac := putS ac z.1 (.p z.2)) e g1
  | [], _ :: _, _, _, e, _ => by simp at e
  | _ :: _, [], _, _, e, _ => by simp at e
end
def gDict : List PyData → Option Slot
  | [.list ds] => (pairsD ds).map fun kds => .m (mergeS [] kds)
  | [.tuple ds] => (pairsD ds).map fun kds => .m (mergeS [] kds)
  | _ => none
theorem pairsD_row : ∀ {ds : List PyData} {kds : List (Key × PyData)}, pairsD ds = some kds → rowB ds = true
  | [], _, _ => rfl
  | d :: ds, kds, h => by
    obtain ⟨z, h1, h2⟩ := Option.bind_eq_some_iff.mp (show (pairD d).bind _ = some kds from h)
    obtain ⟨kds', h3, rfl⟩ := Option.map_eq_some_iff.mp h2
    obtain ⟨a, rfl, hk⟩ := pairD_inv h1
    have := pairsD_row h3
    unfold rowB at this ⊢
    rw [List.all_cons, this]; rfl
section
variable {ki : Ki} {W : WX} {te : TE} {me : ExM}
theorem newDictRow {H : Hp} {L : Row} {p : Addr} {kvs : List (Key × V)} {kds : List (Key × PyData)} (g : G ki H (zM kvs (kS kds) ++ L)) (np : H p = none) (e : kvs.map (·.1) = kds.map (·.1)) : G ki (upd H p (.dK (mergeK [] kvs))) ((some (.ref p), .m (mergeS [] kds)) :: L) := by
  have g1 := Good.reserve (u := .dK []) g np
  have g2 : Good ki.K (upd H p (.dK [])) [p] (zM [] [] ++ (zM kvs (kS kds) ++ L)) := g1
  exact mergeRow e (g2.closeM upd_same rfl)
def rDictG (K : PySem.W.Frag) : List V → Hp → VK → Prop := fun xs H Q => (∃ (a : Addr) (ps : List Addr) (kvs : List (Key × V)), xs = [.ref a] ∧ SqL K H a (ps.map V.ref) ∧ Paired (fun p kv => SqT K H p [kV kv.1, kv.2]) ps kvs ∧
    ∀ p, H p = none → Q (.ref p) (upd H p (.dK (mergeK [] kvs)))) ∨ rDictT K xs H Q
theorem call_dictG {X : Cx} (hc : X.calm = true) : CallR X (.type "dict") (rDictG X.K) := call_or (call_dictP hc) (call_dictT hc)
theorem cg_dict : CallG ki (rDictG ki.K) gDict := fun H L vs ds s g a hs Q post => by
  unfold gDict at hs
  split at hs
  · rename_i es
    obtain ⟨kds, h1, rfl⟩ := Option.map_eq_some_iff.mp hs
    obtain ⟨v, sv, rfl, hm, hd, h⟩ := args1 g a
    obtain ⟨p, vs, rfl, _, hl, len, g1⟩ := g.view hm hd (.inr rfl)
    obtain ⟨ps, kvs, rfl, q1, q2, g2⟩ := pairsRow len h1 g1
    exact .inl ⟨p, ps, kvs, rfl, hl rfl, q1, fun l nl => post _ _ (newDictRow g2 nl q2)⟩
  · rename_i es
    obtain ⟨kds, h1, rfl⟩ := Option.map_eq_some_iff.mp hs
    obtain ⟨v, sv, rfl, hm, hd, h⟩ := args1 g a
    have es1 := dat_tup hd
    subst es1
    obtain ⟨p, vs, ew, tk, len, g1⟩ := g.itemsT hm
    cases ew
    obtain ⟨ps, kvs, rfl, q1, q2, g2⟩ := pairsRow len h1 g1
    refine .inr ⟨p, ps, kvs, rfl, ?_, q1, fun l nl => post _ _ (newDictRow g2 nl q2)⟩
    rcases tk with ⟨o, its, n, k1, k2, k3, k4, k5, k6⟩ | ⟨_, o, k1, k2⟩ | ⟨k0, _⟩
    · exact .inl ⟨o, its, n, k1, k2, k3, k4, k5, k6⟩
    · exact .inr ⟨o, k1, k2⟩
    · rw [pairsD_row h1] at k0; cases k0
  · cases hs
end

/-! ### sorted(d.items()) -/
theorem Good.ext {K : PySem.W.Frag} {H H' : Hp} {R : List Addr} {L : Row} (g : Good K H R L) (e : Ex H H') : Good K H' R L := by
  obtain ⟨F, fp, e1, w, nd, fn, rt⟩ := g
  have k : ∀ a, H a ≠ none → H' a = H a := fun a h => by
    cases q : H a with
    | none => exact absurd q h
    | some o => exact e a o q
  exact ⟨F, fp, e1.trans e, w.mono (Ex.refl F) fun a h => k a (w.there a h), nd, fn, fun a h => by rw [k a (rt a h)]; exact rt a h⟩
theorem keyP_dq {K : PySem.W.Frag} {F : Hp} (k : Key) : Dq K F (kV k) (keyP k) := by
  cases k with
  | inl i => exact .int i
  | inr x => exact .str x
theorem keyP_row (k : Key) (d : PyData) : rowB [keyP k, d] = false := by cases k <;> rfl
def tupRow (zs : List Kvd) : Row := zs.map fun z => (some (.ref z.1), .p (prP z))
theorem layRow {K : PySem.W.Frag} {H' : Hp} {R : List Addr} : ∀ (zs : List Kvd) (H : Hp) (L : Row), Good K H R L → Ex H H' → (zs.map (·.1)).Nodup → (∀ z ∈ zs, H z.1 = none ∧ H' z.1 = some (.tup [kV z.2.1.1, z.2.1.2]) ∧ (some z.2.1.2, Slot.p z.2.2) ∈ L) →
    ∃ H1, Ex H1 H' ∧ (∀ b, b ∉ zs.map (·.1) → H1 b = H b) ∧ Good K H1 R (tupRow zs ++ L)
  | [], H, L, g, e, _, _ => ⟨H, e, fun _ _ => rfl, g⟩
  | z :: zs, H, L, g, e, hn, h => by
    obtain ⟨h1, h2, h3⟩ := h z List.mem_cons_self
    rw [List.map_cons, List.nodup_cons] at hn
    have g1 := g.copy h3
    have g2 : Good K H R (zP [kV z.2.1.1, z.2.1.2] [keyP z.2.1.1, z.2.2] ++ L) := g1.push fun F => keyP_dq _
    have g3 : Good K (upd H z.1 (.tup [kV z.2.1.1, z.2.1.2])) R ((some (.ref z.1), .p (prP z)) :: L) := g2.newTup h1 rfl (.inr ⟨keyP_row _ _, rfl⟩)
    have e2 : Ex (upd H z.1 (.tup [kV z.2.1.1, z.2.1.2])) H' := fun b o q => by
      by_cases hb : b = z.1
      · subst hb; rw [upd_same] at q; rw [h2]; exact q
      · rw [upd_ne hb] at q; exact e b o q
    obtain ⟨H1, e3, k3, g4⟩ := layRow zs _ _ g3 e2 hn.2 fun y hy => by
      obtain ⟨y1, y2, y3⟩ := h y (List.mem_cons_of_mem _ hy)
      exact ⟨by rw [upd_ne (fun w => hn.1 (by rw [← w]; exact List.mem_map_of_mem hy))]; exact y1, y2, List.mem_cons_of_mem _ y3⟩
    refine ⟨H1, e3, fun b hb => ?_, g4.perm List.perm_middle⟩
    rw [k3 b (fun w => hb (List.mem_cons_of_mem _ w)), upd_ne (fun w => hb (by rw [w]; exact List.mem_cons_self))]
def kdsS : List (Key × Slot) → Option (List (Key × PyData))
  | [] => some []
  | (k, .p d) :: ks => (kdsS ks).map ((k, d) :: ·)
  | _ :: _ => none
theorem kdsS_eq : ∀ {ks : List (Key × Slot)} {kds : List (Key × PyData)}, kdsS ks = some kds → ks = kS kds
  | [], kds, h => by cases h; rfl
  | (k, .p d) :: ks, kds, h => by
    obtain ⟨es, h1, rfl⟩ := Option.map_eq_some_iff.mp (show (kdsS ks).map ((k, d) :: ·) = some kds from h)
    rw [kdsS_eq h1]; rfl
  | (_, .un) :: _, _, h => nomatch h
  | (_, .l _) :: _, _, h => nomatch h
  | (_, .m _) :: _, _, h => nomatch h
def sortB (ds : List PyData) : Bool := ds.all fun d => ds.all fun e => PySem.W.alike d e
theorem sortB_all {ds : List PyData} (h : sortB ds = true) : PySem.W.AllAlike ds := fun d hd e he => by
  unfold sortB at h
  exact List.all_eq_true.mp (List.all_eq_true.mp h d hd) e he
def srt (ds : List PyData) : List PyData := ds.mergeSort (PySem.W.dataLe false id)
/-- sorted(x.items()) -/
def mSortIt (i : Nat) : ExM := fun env => match env[i]? with
  | some (.m ks) => (kdsS ks).bind fun kds => if sortB (kds.map prD) = true ∧ (kds.all fun z => decide (z.2.depth ≤ 40)) = true then some (.ok (.val (.l ((srt (kds.map prD)).map .p))), env) else none
  | _ => none
theorem ty_dict {K : PySem.W.Frag} {H : Hp} {l : Addr} {vs : List (Key × V)} (h : H l = some (.dK vs)) : tyV K "dict" (.ref l) H := .inr (.inr (.inl ⟨rfl, .inl ⟨vs, h⟩⟩))
theorem zip3_map {as : List Addr} {kvs : List (Key × V)} {kds : List (Key × PyData)} (h1 : as.length = kvs.length) (h2 : kvs.map (·.1) = kds.map (·.1)) : (zip3 as kvs (kds.map (·.2))).map prP = kds.map prD := by
  have len : kvs.length = kds.length := by have := congrArg List.length h2; simpa using this
  rw [zip3_prP h1 (by rw [List.length_map]; exact len)]
  have : ∀ {kvs : List (Key × V)} {kds : List (Key × PyData)}, kvs.map (·.1) = kds.map (·.1) → ((kvs.zip (kds.map (·.2))).map fun z => PyData.tuple [keyP z.1.1, z.2]) = kds.map prD := by
    intro kvs
    induction kvs with
    | nil => intro kds h; cases kds with
      | nil => rfl
      | cons _ _ => simp at h
    | cons kv kvs ih => intro kds h; cases kds with
      | nil => simp at h
      | cons kd kds =>
        simp only [List.map_cons, List.cons.injEq] at h
        simp only [List.map_cons, List.zip_cons_cons, ih h.2]
        rw [h.1]; rfl
  exact this h2
theorem rd_sortIt {ki : Ki} {W : WX} {i : Nat} : Rd ki W (tCB (rSortIt ki.K) (tCons (tBM0 ki.K "dict" rItemsV (tVar i)) tNil)) (mSortIt i) := fun σ H env T r env' hl g e Q post => by
  unfold mSortIt at e
  split at e
  · rename_i ks hx
    obtain ⟨kds, h1, e⟩ := Option.bind_eq_some_iff.mp e
    split at e
    · rename_i hc
      cases e
      obtain ⟨hc1, hc2⟩ := hc
      have hks := kdsS_eq h1
      subst hks
      obtain ⟨o, ho⟩ := lenGet hl hx
      have g1 := slotOut hl ho hx g
      obtain ⟨a, kvs, eo, ha, keys, g2⟩ := g1.openM
      subst eo
      have keys' : kvs.map (·.1) = kds.map (·.1) := by
        rw [keys]; unfold kS; rw [List.map_map]; rfl
      have len : kvs.length = kds.length := by have := congrArg List.length keys'; simpa using this
      rw [zM_kS] at g2
      have dp := g2.dpAll (by rw [List.length_map, List.length_map]; exact len)
      refine ⟨.ref a, ho, ty_dict ha, a, kvs, rfl, rfl, ha, fun p np => ?_⟩
      have ne : a ≠ p := fun z => by rw [z, np] at ha; cases ha
      have dp2 : DpAll ki.K (upd H p (L2.DX.itemsO p a)) (kvs.map (·.2)) (kds.map (·.2)) := by
        have g3 := (Good.ext g2 (H' := upd H p (L2.DX.itemsO p a)) (fun b u q => by rw [upd_ne (fun z => by rw [z, np] at q; cases q)]; exact q))
        exact g3.dpAll (by rw [List.length_map, List.length_map]; exact len)
      refine ⟨p, a, kvs, kds.map (·.2), rfl, upd_same, by rw [upd_ne ne]; exact ha, dp2, ?_, ?_, ?_⟩
      · have := zip3_map (as := kvs.map fun _ => 0) (by rw [List.length_map]) keys'
        rw [zip3_prP (by rw [List.length_map]) (by rw [List.length_map]; exact len)] at this
        rw [this]
        exact sortB_all hc1
      · intro d hd
        obtain ⟨z, hz, rfl⟩ := List.mem_map.mp hd
        have := List.all_eq_true.mp hc2 z hz
        exact of_decide_eq_true this
      · intro H' l as hex hl0 hnl nd hnew las htup hlst
        have hex0 : Ex H H' := fun b u q => hex b u (by rw [upd_ne (fun z => by rw [z, np] at q; cases q)]; exact q)
        have hnone : ∀ t, upd H p (L2.DX.itemsO p a) t = none → H t = none := fun t q => by
          by_cases z : t = p
          · rw [z, upd_same] at q; cases q
          · rw [upd_ne z] at q; exact q
        have lz := zip3_len las (show kvs.length = (kds.map (·.2)).length by rw [List.length_map]; exact len)
        have e1 : (zip3 as kvs (kds.map (·.2))).map (·.1) = as := by
          unfold zip3
          exact List.map_fst_zip (by rw [List.length_zip, List.length_map]; omega)
        -- the items, beside
        have gA : G ki H ((zP (kvs.map (·.2)) (kds.map (·.2)) ++ (zE σ env ++ T))) := by
          have g4 := Good.elems (A := []) g2 (zP (kvs.map (·.2)) (kds.map (·.2))) fun _ h => h
          have g5 : Good ki.K H [a] (zM kvs (kS kds) ++ (zP (kvs.map (·.2)) (kds.map (·.2)) ++ (zE (σ.set i none) (env.set i .un) ++ T))) := by rw [zM_kS]; exact g4
          have g6 := g5.closeM ha keys
          have g7 : G ki H ((some (V.ref a), .m (kS kds)) :: (zE (σ.set i none) (env.set i .un) ++ (zP (kvs.map (·.2)) (kds.map (·.2)) ++ T))) := g6.perm (List.Perm.cons _ (by
            rw [← List.append_assoc, ← List.append_assoc]; exact List.Perm.append_right _ List.perm_append_comm))
          have g8 := slotIn hl ho g7
          have ee : env.set i (.m (kS kds)) = env := by
            apply List.ext_getElem?
            intro j
            by_cases hj : i = j
            · subst hj; rw [List.getElem?_set_self (List.getElem?_eq_some_iff.mp hx).1]; exact hx.symm
            · rw [List.getElem?_set_ne hj]
          rw [ee] at g8
          exact front g8
        have inRow : ∀ z ∈ zip3 as kvs (kds.map (·.2)), H z.1 = none ∧ H' z.1 = some (.tup [kV z.2.1.1, z.2.1.2]) ∧ (some z.2.1.2, Slot.p z.2.2) ∈ zP (kvs.map (·.2)) (kds.map (·.2)) ++ (zE σ env ++ T) := by
          intro z hz
          obtain ⟨j, hj⟩ := List.mem_iff_getElem?.mp hz
          obtain ⟨z1, z2, z3⟩ := zip3_at hj
          refine ⟨hnone _ (hnew _ (List.mem_of_getElem? z1)), htup (z.1, z.2.1) (List.mem_of_getElem? (List.getElem?_zip_eq_some.mpr ⟨z1, z2⟩)), List.mem_append_left _ (zP_at (i := j) ?_ z3)⟩
          rw [List.getElem?_map, z2]; rfl
        obtain ⟨H1, x1, x2, gB⟩ := layRow (H' := H') (zip3 as kvs (kds.map (·.2))) H _ gA hex0 (by rw [e1]; exact nd) inRow
        have gC : G ki H1 (tupRow (zip3 as kvs (kds.map (·.2))) ++ (zE σ env ++ T)) := dropMid gB
        have hs : (zip3 as kvs (kds.map (·.2))).mergeSort (PySem.W.dataLe false prP) |>.Perm (zip3 as kvs (kds.map (·.2))) := List.mergeSort_perm _ _
        have gD : G ki H1 (tupRow ((zip3 as kvs (kds.map (·.2))).mergeSort (PySem.W.dataLe false prP)) ++ (zE σ env ++ T)) := gC.perm (List.Perm.append_right _ (hs.symm.map _))
        have hsrt : ((zip3 as kvs (kds.map (·.2))).mergeSort (PySem.W.dataLe false prP)).map prP = srt (kds.map prD) := by
          unfold srt
          rw [← zip3_map las keys']
          exact List.map_mergeSort fun a _ b _ => rfl
        have hz : tupRow ((zip3 as kvs (kds.map (·.2))).mergeSort (PySem.W.dataLe false prP)) = zP (((zip3 as kvs (kds.map (·.2))).mergeSort (PySem.W.dataLe false prP)).map fun z => V.ref z.1) (srt (kds.map prD)) := by
          rw [← hsrt]
          unfold tupRow zP
          rw [List.map_map, List.map_map]
          generalize (zip3 as kvs (kds.map (·.2))).mergeSort (PySem.W.dataLe false prP) = ys
          induction ys with
          | nil => rfl
          | cons y ys ih => rw [List.map_cons, List.map_cons, List.map_cons, List.zip_cons_cons, ih]; rfl
        rw [hz] at gD
        have hl1 : H1 l = none := by
          rw [x2 l (by rw [e1]; exact hnl)]
          exact hnone _ hl0
        have gE := gD.newList hl1 (by rw [← hsrt, List.length_map, List.length_map])
        have x3 : Ex (upd H1 l (.lst (((zip3 as kvs (kds.map (·.2))).mergeSort (PySem.W.dataLe false prP)).map fun z => V.ref z.1))) H' := fun b u q => by
          by_cases hb : b = l
          · subst hb; rw [upd_same] at q; rw [hlst]; exact q
          · rw [upd_ne hb] at q; exact x1 b u q
        exact post _ _ rfl (toTop (gE.ext x3)) trivial
    · cases e
  · cases e

/-! ### isinstance -/
def tyD : PyData → String
  | .none => "NoneType"
  | .bool _ => "bool"
  | .int _ => "int"
  | .str _ => "str"
  | .list _ => "list"
  | .tuple _ => "tuple"
  | .dict _ => "dict"
def tyS : Slot → Option String
  | .p d => some (tyD d)
  | .l _ => some "list"
  | .m _ => some "dict"
  | .t _ => none
  | .un => none
def tyNs : List String := ["NoneType", "bool", "int", "str", "list", "tuple", "dict"]
def isSub (a b : String) : Bool := a == b || (a == "bool" && b == "int")
def tyOK (n : String) : Bool := tyNs.all fun a => kitB a n == some (isSub a n)
theorem dqTyX {K : PySem.W.Frag} {H : Hp} {v : V} {d : PyData} (h : Dq K H v d) : TyX K H v (.type (tyD d)) := by
  cases h with
  | non => exact .base .non
  | bl b => exact .base (.bl b)
  | int i => exact .base (.int i)
  | str x => exact .base (.str x)
  | lst h _ =>
    rcases h with (h | ⟨o, h⟩) | ⟨o, its, n, h1, h2, _⟩
    · exact .base (.lst h)
    · exact .base (.frz h)
    · exact .kList h1 h2
  | tup h _ =>
    rcases h with ⟨o, its, n, h1, h2, _⟩ | ⟨_, o, h, _⟩ | ⟨_, h⟩
    · exact .kTuple h1 h2
    · exact .fTuple h
    · exact .base (.tup h)
theorem slotTyX {K : PySem.W.Frag} {H : Hp} {R : List Addr} {L : Row} {v : V} {s : Slot} {t : String} (g : Good K H R L) (hm : (some v, s) ∈ L) (h : tyS s = some t) : TyX K H v (.type t) := by
  obtain ⟨L', p⟩ := mem_perm hm
  cases s with
  | un => cases h
  | p d =>
    cases h
    obtain ⟨w, e, dq⟩ := g.dq hm
    cases e
    exact dqTyX dq
  | l xs =>
    cases h
    obtain ⟨a, vs, e, ha, _⟩ := (g.perm p).open_
    cases e
    exact .base (.lst ha)
  | m ks =>
    cases h
    obtain ⟨a, vs, e, ha, _⟩ := (g.perm p).openM
    cases e
    exact .base (.dK ha)
  | t ks => cases h
theorem tyS_ns {s : Slot} {t : String} (h : tyS s = some t) : t ∈ tyNs := by
  cases s with
  | un => cases h
  | p d => cases h; cases d <;> simp [tyD, tyNs]
  | l xs => cases h; simp [tyNs]
  | m ks => cases h; simp [tyNs]
  | t ks => cases h
theorem kit_of_ok {K : PySem.W.Frag} {n t : String} (h : tyOK n = true) (ht : t ∈ tyNs) : PySem.W.kitOne K (.type t) (.type n) = some (isSub t n) := by
  have := List.all_eq_true.mp h t ht
  exact kit_ty (eq_of_beq this)
def lookT (o : Opd) : Mir String := fun env => (tyS (o.get env)).map fun t => (.ok t, env)
theorem lookT_inv {α : Type} {o : Opd} {k : String → Mir α} {env env' : Env} {r : Res α} (h : bnd (lookT o) k env = some (r, env')) : ∃ d, tyS (o.get env) = some d ∧ k d env = some (r, env') := by
  unfold bnd lookT at h
  cases q : tyS (o.get env) with
  | none => rw [q] at h; cases h
  | some d => rw [q] at h; exact ⟨d, rfl, h⟩
def mIsi (ns : List String) (me : ExM) : ExM := bnd me fun o => bnd (lookT o) fun t => ret (.val (.p (.bool (ns.any fun n => isSub t n))))
theorem Opd.memT {σ : L2.St} {env : Env} {o : Opd} {v : V} {t : String} {A B : Row} (ho : o.is σ v) (hd : tyS (o.get env) = some t) : (some v, o.get env) ∈ zE σ env ++ (A ++ ((some v, o.slot) :: B)) :=
  Opd.mem ho (fun e => by rw [e] at hd; cases hd) fun s e => by subst e; exact List.mem_append_right _ List.mem_cons_self
section
variable {ki : Ki} {W : WX} {te : TE} {me : ExM}
theorem rd_isi {n : String} (hn : tyOK n = true) (h : Rd ki W te me) : Rd ki W (tCB (rIsi ki.K) (tCons te (tCons (tC (.ty n)) tNil))) (mIsi [n] me) := fun σ H env T r env' hl g e Q post => by
  refine h.use (E := []) hl g e post fun o v H1 env1 n1 g1 i1 e => ?_
  obtain ⟨t, q, e⟩ := lookT_inv e
  cases e
  refine ⟨v, .ty n, .type t, .type n, isSub t n, rfl, .ty n, slotTyX g1 (Opd.memT (A := []) i1 q) q, kit_of_ok hn (tyS_ns q), ?_⟩
  have : ([n].any fun n => isSub t n) = isSub t n := by simp
  rw [this] at post
  exact post _ H1 n1 (toTop ((dropTop g1).push fun F => .bl _)) trivial
def tTys : List String → TA
  | [] => tNil
  | n :: ns => tCons (tC (.ty n)) (tTys ns)
theorem tTys_run {σ : L2.St} {H : Hp} : ∀ (ns : List String) (Q : List V → Hp → Prop), Q (ns.map .ty) H → tTys ns σ H Q
  | [], Q, h => h
  | n :: ns, Q, h => tTys_run ns _ h
theorem kitAny_of {K : PySem.W.Frag} {t : String} (ht : t ∈ tyNs) : ∀ {ns : List String}, (ns.all tyOK) = true → PySem.W.kitAny K (.type t) (ns.map fun n => .type n) = some (ns.any fun n => isSub t n)
  | [], _ => rfl
  | n :: ns, h => by
    rw [List.all_cons, Bool.and_eq_true] at h
    rw [List.map_cons, List.any_cons]
    refine kitAny_cons (kit_of_ok h.1 ht) (fun e => ?_) (fun e => by rw [e]; rfl)
    rw [e, Bool.false_or]
    exact kitAny_of ht h.2
theorem pairs_ty : ∀ ns : List String, Paired ClsV (ns.map .ty) (ns.map fun n => .type n)
  | [] => .nil
  | n :: ns => .cons (.ty n) (pairs_ty ns)
theorem rd_isiT {ns : List String} (hn : (ns.all tyOK && decide (ns.length ≤ 1000)) = true) (h : Rd ki W te me) : Rd ki W (tCB (rIsiT ki.K) (tCons te (tCons (tTupC (tTys ns)) tNil))) (mIsi ns me) := fun σ H env T r env' hl g e Q post => by
  rw [Bool.and_eq_true] at hn
  refine h.use (E := []) hl g e post fun o v H1 env1 n1 g1 i1 e => ?_
  obtain ⟨t, q, e⟩ := lookT_inv e
  cases e
  have hz := of_decide_eq_true hn.2
  refine tTys_run ns (fun xs H1 => xs.length ≤ sizeLine ∧ ∀ p, H1 p = none → ∃ k : Bool, ∀ ob : Obj, ob.dict = none → rIsiT ki.K [v, .ref p] (upd H1 p (hoT k ob xs)) Q) ⟨by rw [List.length_map]; exact big_le (by omega), fun p np => ⟨false, fun ob hob => ?_⟩⟩
  have g2 : G ki (upd H1 p (.tup (ns.map .ty))) (zE σ env' ++ ([] ++ ((some v, o.slot) :: T))) := g1.ext fun b u w => by rw [upd_ne (fun z => by rw [z, np] at w; cases w)]; exact w
  refine ⟨v, p, ns.map .ty, .type t, ns.map fun n => .type n, _, rfl, upd_same, pairs_ty ns, slotTyX g2 (Opd.memT (A := []) i1 q) q, kitAny_of (tyS_ns q) hn.1, ?_⟩
  exact post _ _ n1 (toTop ((dropTop g2).push fun F => .bl _)) trivial
end
end MM
/-! M11: what the printed terms lean on -/
namespace MM
open PySem PySem.Spec L2

/-- a def that stands at the top -/
structure FnH (K : PySem.W.Frag) (mg : Str → Option Value) (x : Str) (st : Stmt) (ps : List Str) where
  f : Addr
  fd : FuncData
  F : Fun K x x st f fd
  b : Binds K fd ps []
  g : mg x = some (.ref f)
def fnH_mk {K : PySem.W.Frag} {h : Heap} {mg : Str → Option Value} {x : Str} {st : Stmt} {ps : List Str} {f : Addr} {oc : Value} {od an : Option Addr} {osl : Array (Option Value)} {kV doc pm cdv ct : Value} (X : K.In h) (G : h.Ns mainGlobals mg)
    (a : PySem.W.nsIn K mainGlobals x = some (some (.ref f))) (l : K.lookup f = some ⟨oc, od, .func (PySem.W.fnOf x x (defArgs st) (defBody st) (defScope st) .none kV doc pm an cdv ct), osl⟩) (c : PySem.W.codeIn K cdv x = true) (k : PySem.W.keepIn K (.ref f) = true)
    (hb : ∀ (kV doc pm : Value) (an : Option Addr) (cdv ct : Value) (us : List Value), us.length = ps.length → bindArgs (PySem.W.fnOf x x (defArgs st) (defBody st) (defScope st) .none kV doc pm an cdv ct) ⟨us, []⟩ = pure (ps.zip us)) : FnH K mg x st ps :=
  ⟨f, PySem.W.fnOf x x (defArgs st) (defBody st) (defScope st) .none kV doc pm an cdv ct, fun_mk l c k, (fun_mk l c k).binds hb, PySem.W.mg_of X G a⟩
/-- classes by name -/
def clOf (mg : Str → Option Value) (x : Str) : Value := (mg x).getD .none
section
variable {ki : Ki} {W : WX} {fx : FxL}
def mYes : Mir Bool := ret true
theorem rdt_yes : RdT ki W tYes mYes := fun σ H env T r env' hl g e Q post => by
  cases e
  exact post H rfl g
theorem fxW {lent ws : List Nat} (h1 : ∀ p ∈ fx, p.1 ∈ lent) (h2 : ∀ i ∈ lent, i ∉ ws) : ∀ p ∈ fx, p.1 ∉ ws := fun p hp => h2 _ (h1 p hp)
theorem rda_eq {ta : TA} {m : Mir (List Opd)} (h : RdA ki W ta m) : RdA ki W ta m := h
end
theorem un1 {k : Nat} {A : Around} (r : RoomG k A) : A.units + 1 < cLine := by have := r.room.un; omega
theorem un65 {k : Nat} {A : Around} (r : RoomG k A) : A.units + 65 < cLine := by have := r.room.un; omega
theorem law_start {K : PySem.W.Frag} {cl : Str → Value} {fm : FnM} {H : Hp} {a : Addr} {ns : List Int} {ss' : List Slot} (h : SqL K H a (ns.map V.int)) (hm : fm [.p (.list (ns.map .int))] = some (.ok (.p (.bool true)), ss')) :
    spM ⟨K, cl⟩ 1 [] fm [.ref a] H (fun v _ => v = .bl true) (fun _ _ _ => False) := by
  have dqs : ∀ ns : List Int, DqAll K H (ns.map V.int) (ns.map .int) := fun ns => by
    induction ns with
    | nil => exact .nil
    | cons n ns ih => exact .cons (.int n) ih
  refine ⟨[.p (.list (ns.map .int))], [], _, _, rfl, rfl, ?_, hm, fun v H' g => ?_⟩
  · exact ⟨H, [], Ex.refl H, .cons (f := []) (g := []) (.p (.lst h (dqs ns))) .nil, List.nodup_nil, fun _ q => (nomatch q), fun _ q => (nomatch q)⟩
  · obtain ⟨w, e, dq⟩ := Good.dq (o := some v) (d := .bool true) g (List.mem_append_right _ List.mem_cons_self)
    cases e
    cases dq
    rfl
/-- the law's own promise -/
def spLaw (K : PySem.W.Frag) : Sp := fun vs H Q _ => ∃ (a : Addr) (ns : List Int), vs = [.ref a] ∧ SqL K H a (ns.map V.int) ∧ ns.length ≤ 63 ∧ ∀ H', Q (.bl true) H'
theorem law_promise {K : PySem.W.Frag} {cl : Str → Value} {fm : FnM} (h : ∀ ns : List Int, ns.length ≤ 63 → ∃ ss', fm [.p (.list (ns.map .int))] = some (.ok (.p (.bool true)), ss')) (vs : List V) (H : Hp) (Q : VK) (E : XK) (q : spLaw K vs H Q E) : spM ⟨K, cl⟩ 1 [] fm vs H Q E := by
  obtain ⟨a, ns, rfl, hS, hl, q⟩ := q
  obtain ⟨ss', hm⟩ := h ns hl
  obtain ⟨ss, T, r, ss2, h1, h2, h3, h4, h5⟩ := law_start (cl := cl) hS hm
  refine ⟨ss, T, r, ss2, h1, h2, h3, h4, ?_⟩
  cases r with
  | ok s => exact fun v H' g => by rw [h5 v H' g]; exact q H'
  | ex x => exact fun cls d H' g hx => (h5 cls d H' g hx).elim
theorem cx_none {P : Program} {w : World} {outer : List PySem.Env} {H : Hp} {s : Shared} {u : Value} {s' : Shared} (h : L2.CX P w outer H s (fun _ _ _ => False) u s') : False := by
  obtain ⟨_, _, _, _, _, _, _, _, _, _, _, _, z⟩ := h
  exact z
theorem law_end {l : PySem.W.OpenLaw} {w : World} {K : PySem.W.Frag} {h : Heap} {mg : Str → Option Value} {fa : Addr} {st : Stmt} {k : Nat} {f : Addr} {oc : Value} {od an : Option Addr} {osl : Array (Option Value)} {kV doc pm cdv ct : Value} (hfa : mg "law" = some (.ref fa)) (X : K.In h) (G : h.Ns mainGlobals mg)
    (a : PySem.W.nsIn K mainGlobals "law" = some (some (.ref f))) (lk : K.lookup f = some ⟨oc, od, .func (PySem.W.fnOf "law" "law" (defArgs st) (defBody st) (defScope st) .none kV doc pm an cdv ct), osl⟩) (c : PySem.W.codeIn K cdv "law" = true) (kp : PySem.W.keepIn K (.ref f) = true)
    (hb : ∀ (kV doc pm : Value) (an : Option Addr) (cdv ct : Value) (us : List Value), us.length = ["script"].length → bindArgs (PySem.W.fnOf "law" "law" (defArgs st) (defBody st) (defScope st) .none kV doc pm an cdv ct) ⟨us, []⟩ = pure ((["script"] : List Str).zip us))
    (F : ∀ (H : FnH K mg "law" st ["script"]) (base : Heap), FnG l.prog w K mg base (L2.CX l.prog w) k H.f H.fd ["script"] (spLaw K)) :
    ∃ fd : FuncData, (∀ (s : Shared) (v : Value), BindsTo s fd ⟨[v], []⟩ [("script", v)]) ∧ ∀ base : Heap, K.In base → base.Ns mainGlobals mg → FnG l.prog w K mg base (L2.CX l.prog w) k fa fd ["script"] (spLaw K) := by
  have e := hfa.symm.trans (PySem.W.mg_of X G a)
  cases e
  exact ⟨_, fun s v => .of_eq (hb kV doc pm an cdv ct [v] rfl), fun base _ _ => F (fnH_mk X G a lk c kp hb) base⟩
theorem bt_sum : bootBuiltins "sum" = some (.builtin "sum") := by decide +kernel
theorem bt_all : bootBuiltins "all" = some (.builtin "all") := by decide +kernel
theorem bt_any : bootBuiltins "any" = some (.builtin "any") := by decide +kernel
theorem bt_abs : bootBuiltins "abs" = some (.builtin "abs") := by decide +kernel
theorem bt_len : bootBuiltins "len" = some (.builtin "len") := by decide +kernel
theorem bt_max : bootBuiltins "max" = some (.builtin "max") := by decide +kernel
theorem bt_min : bootBuiltins "min" = some (.builtin "min") := by decide +kernel
theorem bt_sorted : bootBuiltins "sorted" = some (.builtin "sorted") := by decide +kernel
theorem bt_isinstance : bootBuiltins "isinstance" = some (.builtin "isinstance") := by decide +kernel
theorem bt_int : bootBuiltins "int" = some (.type "int") := by decide +kernel
theorem bt_str : bootBuiltins "str" = some (.type "str") := by decide +kernel
theorem bt_bool : bootBuiltins "bool" = some (.type "bool") := by decide +kernel
theorem bt_list : bootBuiltins "list" = some (.type "list") := by decide +kernel
theorem bt_tuple : bootBuiltins "tuple" = some (.type "tuple") := by decide +kernel
theorem bt_dict : bootBuiltins "dict" = some (.type "dict") := by decide +kernel
end MM
/-! M12: mirrors run -/
namespace MM
open PySem PySem.Spec L2
/-- a comprehension whose parts leave the names as they were -/
theorem compM_run {α γ : Type} {own : List Nat} {tg : γ → Env → Option Env} {mt : Mir Bool} {me : ExM} (D : α → γ) (p : α → Bool) (g : α → PyData) (E : Env) : ∀ (xs : List α) (acc : List PyData),
    (∀ x ∈ xs, ∃ E1 E2, tg (D x) E = some E1 ∧ mt E1 = some (.ok (p x), E2) ∧ (p x = false → wipeE E2 own = E) ∧ (p x = true → ∃ o E3, me E2 = some (.ok o, E3) ∧ o.own = some (g x) ∧ wipeE E3 own = E)) →
    compM own tg mt me (xs.map D) acc E = some (acc ++ (xs.filter p).map g, E)
  | [], acc, _ => by simp [compM]
  | x :: xs, acc, h => by
    obtain ⟨E1, E2, h1, h2, h3, h4⟩ := h x List.mem_cons_self
    have ih := fun acc => compM_run (own := own) (tg := tg) (mt := mt) (me := me) D p g E xs acc fun y hy => h y (List.mem_cons_of_mem _ hy)
    rw [List.map_cons]
    unfold compM
    rw [h1, Option.bind_some, h2]
    cases q : p x with
    | false =>
      simp only [h3 q, ih]
      rw [List.filter_cons_of_neg (by rw [q]; exact Bool.false_ne_true)]
    | true =>
      obtain ⟨o, E3, k1, k2, k3⟩ := h4 q
      simp only [k1, k2, Option.bind_some, k3, ih]
      rw [List.filter_cons_of_pos q, List.map_cons, List.append_assoc]; rfl
/-! the same, without a test -/
theorem compM_map {α γ : Type} {own : List Nat} {tg : γ → Env → Option Env} {me : ExM} (D : α → γ) (g : α → PyData) (E : Env) (xs : List α) (acc : List PyData)
    (h : ∀ x ∈ xs, ∃ E1 o E3, tg (D x) E = some E1 ∧ me E1 = some (.ok o, E3) ∧ o.own = some (g x) ∧ wipeE E3 own = E) :
    compM own tg mYes me (xs.map D) acc E = some (acc ++ xs.map g, E) := by
  have := compM_run (mt := mYes) D (fun _ => true) g E xs acc fun x hx => by
    obtain ⟨E1, o, E3, h1, h2, h3, h4⟩ := h x hx
    exact ⟨E1, E1, h1, rfl, fun q => (nomatch q), fun _ => ⟨o, E3, h2, h3, h4⟩⟩
  rw [List.filter_eq_self.mpr (fun _ _ => rfl)] at this
  exact this

/-! ### one step at a time -/
section
variable {env : Env} {α β : Type} {s : Slot}
@[simp] theorem bnd_run (m : Mir α) (k : α → Mir β) : bnd m k env = match m env with
  | none => none
  | some (.ok a, e) => k a e
  | some (.ex x, e) => some (.ex x, e) := rfl
@[simp] theorem bndS_run (m : Mir α) (k : α → StM) : bndS m k env = match m env with
  | none => none
  | some (.ok a, e) => k a e
  | some (.ex x, e) => some (.ex x, e) := rfl
@[simp] theorem ret_run (a : α) : MM.ret a env = some (.ok a, env) := rfl
@[simp] theorem mVar_run (i : Nat) : mVar i env = match env[i]? with
  | some (.p d) => some (.ok (.val (.p d)), env)
  | some (.l _) => some (.ok (.ref i), env)
  | some (.m _) => some (.ok (.ref i), env)
  | _ => none := rfl
@[simp] theorem mC_run (d : PyData) : mC d env = some (.ok (.val (.p d)), env) := rfl
@[simp] theorem look_val (d : PyData) : look (.val (.p d)) env = some (.ok d, env) := rfl
@[simp] theorem look_ref (i : Nat) : look (.ref i) env = match ((env[i]?).getD .un).dat with
  | some d => some (.ok d, env)
  | none => none := rfl
theorem look_valL (xs : List PyData) : look (.val (.l (xs.map .p))) env = some (.ok (.list xs), env) := by
  show (match (Slot.l (xs.map .p)).dat with | some d => some (Res.ok d, env) | none => none) = _
  have : (Slot.l (xs.map .p)).dat = some (.list xs) := by show (allP _).map _ = _; rw [allP_map]; rfl
  rw [this]
@[simp] theorem ofO_run (o : Option Slot) : ofO o env = match o with
  | some s => some (.ok (.val s), env)
  | none => none := by cases o <;> rfl
@[simp] theorem ofT_run (o : Option Bool) : ofT o env = match o with
  | some s => some (.ok s, env)
  | none => none := by cases o <;> rfl
@[simp] theorem mOp_run (g : PyData → PyData → Option Slot) (ma mb : ExM) : mOp g ma mb env = bnd ma (fun o1 => bnd mb fun o2 => bnd (look o1) fun d => bnd (look o2) fun e => ofO (g d e)) env := rfl
@[simp] theorem mUn_run (g : PyData → Option Slot) (ma : ExM) : mUn g ma env = bnd ma (fun o1 => bnd (look o1) fun d => ofO (g d)) env := rfl
@[simp] theorem mCons_run (m : ExM) (ms : Mir (List Opd)) : mCons m ms env = bnd m (fun o => bnd ms fun os => MM.ret (o :: os)) env := rfl
@[simp] theorem mNil_run : mNil env = some (.ok [], env) := rfl
@[simp] theorem mCall_run (g : List PyData → Option Slot) (ms : Mir (List Opd)) : mCall g ms env = bnd ms (fun os => bnd (lookAll os) fun ds => ofO (g ds)) env := rfl
@[simp] theorem lookAll_nil : lookAll [] env = some (.ok [], env) := rfl
@[simp] theorem lookAll_cons (o : Opd) (os : List Opd) : lookAll (o :: os) env = bnd (look o) (fun d => bnd (lookAll os) fun ds => MM.ret (d :: ds)) env := rfl
@[simp] theorem mTest_run (ma : ExM) : mTest ma env = bnd ma (fun o => bnd (look o) fun d => ofT (boD d)) env := rfl
@[simp] theorem mTruth_run (ma : ExM) : mTruth ma env = bnd ma (fun o => bnd (look o) fun d => ofT (truD d)) env := rfl
@[simp] theorem mAndT_run (mt mu : Mir Bool) : mAndT mt mu env = match mt env with
  | some (.ok true, e) => mu e
  | some (.ok false, e) => some (.ok false, e)
  | some (.ex x, e) => some (.ex x, e)
  | none => none := by
  unfold mAndT bnd
  cases mt env with
  | none => rfl
  | some p => obtain ⟨r, e⟩ := p; cases r with
    | ex x => rfl
    | ok b => cases b <;> rfl
@[simp] theorem mOrT_run (mt mu : Mir Bool) : mOrT mt mu env = match mt env with
  | some (.ok false, e) => mu e
  | some (.ok true, e) => some (.ok true, e)
  | some (.ex x, e) => some (.ex x, e)
  | none => none := by
  unfold mOrT bnd
  cases mt env with
  | none => rfl
  | some p => obtain ⟨r, e⟩ := p; cases r with
    | ex x => rfl
    | ok b => cases b <;> rfl
@[simp] theorem mNotT_run (mt : Mir Bool) : mNotT mt env = match mt env with
  | some (.ok b, e) => some (.ok (!b), e)
  | some (.ex x, e) => some (.ex x, e)
  | none => none := by
  unfold mNotT bnd
  cases mt env with
  | none => rfl
  | some p => obtain ⟨r, e⟩ := p; cases r <;> rfl
@[simp] theorem mIf_run (mt : Mir Bool) (ma mb : ExM) : mIf mt ma mb env = match mt env with
  | some (.ok true, e) => ma e
  | some (.ok false, e) => mb e
  | some (.ex x, e) => some (.ex x, e)
  | none => none := by
  unfold mIf bnd
  cases mt env with
  | none => rfl
  | some p => obtain ⟨r, e⟩ := p; cases r with
    | ex x => rfl
    | ok b => cases b <;> rfl
@[simp] theorem sIf_run (mt : Mir Bool) (ma mb : StM) : sIf mt ma mb env = match mt env with
  | some (.ok true, e) => ma e
  | some (.ok false, e) => mb e
  | some (.ex x, e) => some (.ex x, e)
  | none => none := by
  unfold sIf bndS
  cases mt env with
  | none => rfl
  | some p => obtain ⟨r, e⟩ := p; cases r with
    | ex x => rfl
    | ok b => cases b <;> rfl
@[simp] theorem mAnd_run (ma mb : ExM) : mAnd ma mb env = bnd ma (fun o => bnd (look o) fun d => bnd (ofT (truD d)) fun b => if b = true then mb else MM.ret o) env := rfl
@[simp] theorem mOr_run (ma mb : ExM) : mOr ma mb env = bnd ma (fun o => bnd (look o) fun d => bnd (ofT (truD d)) fun b => if b = true then MM.ret o else mb) env := rfl
@[simp] theorem mNot_run (ma : ExM) : mNot ma env = bnd ma (fun o => bnd (look o) fun d => bnd (ofT (truD d)) fun b => MM.ret (.val (.p (.bool (!b))))) env := rfl
@[simp] theorem mTup_run (ms : Mir (List Opd)) : mTup ms env = bnd ms (fun os => bnd (ownM os) fun ds => MM.ret (.val (.p (.tuple ds)))) env := rfl
@[simp] theorem mLst_run (ms : Mir (List Opd)) : mLst ms env = bnd ms (fun os => bnd (ownM os) fun ds => MM.ret (.val (.l (ds.map .p)))) env := rfl
@[simp] theorem ownM_run (os : List Opd) : ownM os env = if os.length ≤ 1000 then (ownAll os).map fun ds => (.ok ds, env) else none := rfl
@[simp] theorem own_p (d : PyData) : (Opd.val (.p d)).own = some d := rfl
theorem own_l (xs : List PyData) : (Opd.val (.l (xs.map .p))).own = some (.list xs) := by show (allP _).map _ = _; rw [allP_map]; rfl
@[simp] theorem ownAll_nil : ownAll [] = some [] := rfl
@[simp] theorem ownAll_cons (o : Opd) (os : List Opd) : ownAll (o :: os) = o.own.bind fun d => (ownAll os).map (d :: ·) := rfl
@[simp] theorem mSeq_run (ma : ExM) : mSeq ma env = bnd ma (fun o => bnd (ownD o) fun d => fun env => (itD d).map fun ds => (.ok ds, env)) env := rfl
@[simp] theorem ownD_p (d : PyData) : ownD (.val (.p d)) env = some (.ok d, env) := rfl
theorem ownD_l (xs : List PyData) : ownD (.val (.l (xs.map .p))) env = some (.ok (.list xs), env) := by
  show ((Slot.l (xs.map .p)).dat).map _ = _
  have : (Slot.l (xs.map .p)).dat = some (.list xs) := by show (allP _).map _ = _; rw [allP_map]; rfl
  rw [this]; rfl
@[simp] theorem ownD_ref (i : Nat) : ownD (.ref i) env = (((env[i]?).getD .un).dat).map fun d => (.ok d, env.set i (.p d)) := rfl
@[simp] theorem dat_p (d : PyData) : (Slot.p d).dat = some d := rfl
theorem dat_l (xs : List PyData) : (Slot.l (xs.map .p)).dat = some (.list xs) := by show (allP _).map _ = _; rw [allP_map]; rfl
@[simp] theorem mRng_run (f : List PyData → Option (List PyData)) (ms : Mir (List Opd)) : mRng f ms env = bnd ms (fun os => bnd (lookAll os) fun ds => fun env => (f ds).map fun es => (.ok es, env)) env := rfl
@[simp] theorem mComp_run {γ : Type} (own : List Nat) (mi : Mir (List γ)) (tg : γ → Env → Option Env) (mt : Mir Bool) (me : ExM) : mComp own mi tg mt me env = match mi env with
  | some (.ok ds, e) => if ds.length ≤ 1000000 then (match compM own tg mt me ds [] (wipeE e own) with
    | some (acc, e2) => some (.ok (.val (.l (acc.map .p))), resE e e2 own)
    | none => none) else none
  | some (.ex x, e) => some (.ex x, e)
  | none => none := by
  unfold mComp bnd
  cases mi env with
  | none => rfl
  | some p => obtain ⟨r, e⟩ := p; cases r with
    | ex x => rfl
    | ok ds =>
      simp only
      split
      · cases compM own tg mt me ds [] (wipeE e own) with
        | none => rfl
        | some q => rfl
      · rfl
@[simp] theorem mFn_run (fm : FnM) (ms : Mir (List Opd)) : mFn fm ms env = bnd ms (fun os env => match argS os with
  | some ss => (match fm ss with
    | some (.ok s, _) => some (.ok (.val s), env)
    | some (.ex x, _) => some (.ex x, env)
    | none => none)
  | none => none) env := by
  unfold mFn bnd
  cases ms env with
  | none => rfl
  | some p => obtain ⟨r, e⟩ := p; cases r with
    | ex x => rfl
    | ok os =>
      simp only
      cases argS os with
      | none => rfl
      | some ss => simp only [Option.bind_some]; cases fm ss with
        | none => rfl
        | some q => obtain ⟨r, t⟩ := q; cases r <;> rfl
@[simp] theorem argS_nil : argS [] = some [] := rfl
@[simp] theorem argS_p (d : PyData) (os : List Opd) : argS (.val (.p d) :: os) = (argS os).map (.p d :: ·) := rfl
theorem argS_l (xs : List PyData) (os : List Opd) : argS (.val (.l (xs.map .p)) :: os) = (argS os).map (.p (.list xs) :: ·) := by
  show (argS os).map (fun ss => (match (Slot.l (xs.map .p)).dat with | some d => Slot.p d | none => Slot.l (xs.map .p)) :: ss) = _
  rw [dat_l]
/-- statements -/
@[simp] theorem sSeq_run (m1 m2 : StM) : sSeq m1 m2 env = match m1 env with
  | some (.nx, e) => m2 e
  | r => r := rfl
@[simp] theorem sNx_run : sNx env = some (.nx, env) := rfl
@[simp] theorem sRet_run (me : ExM) : sRet me env = bndS me sRetO env := rfl
@[simp] theorem sRetO_val (s : Slot) : sRetO (.val s) env = some (.rt s, env) := rfl
@[simp] theorem sRetO_ref (i : Nat) : sRetO (.ref i) env = some (.rt ((env[i]?).getD .un), env.set i .un) := rfl
@[simp] theorem sAsg_run (me : ExM) (tg : TgM) : sAsg me tg env = bndS me (fun o => match o with
  | .val s => fun env => (match tg s env with
    | some e => some (.nx, e)
    | none => none)
  | .ref _ => fun _ => none) env := by
  unfold sAsg bndS
  cases me env with
  | none => rfl
  | some p => obtain ⟨r, e⟩ := p; cases r with
    | ex x => rfl
    | ok o => cases o with
      | ref i => rfl
      | val s =>
        simp only
        cases tg s e <;> rfl
@[simp] theorem gN_run (i : Nat) : gN i s env = if i < env.length then some (env.set i s) else none := rfl
@[simp] theorem sPar_run (i j : Nat) (ms : Mir (List Opd)) : sPar i j ms env = bndS ms (fun os env => (parK os).bind fun p => if i < env.length ∧ j < env.length then some (.nx, (env.set i p.1).set j p.2) else none) env := rfl
@[simp] theorem parK_run (a b : Slot) : parK [.val a, .val b] = some (a, b) := rfl
@[simp] theorem sFor_run {γ : Type} (mi : Mir (List γ)) (tg : γ → Env → Option Env) (mb : StM) : sFor mi tg mb env = bndS mi (fun ds => forM tg mb ds) env := rfl
@[simp] theorem sDSet_run (i : Nat) (mv mk : ExM) : sDSet i mv mk env = bndS mv (fun ov => match ov.own with
  | some e => isM i (bndS mk fun ok => bndS (look ok) fun d => dpK i e d)
  | none => fun _ => none) env := rfl
@[simp] theorem isM_run {γ : Type} (i : Nat) (k : Env → Option γ) : isM i k env = match env[i]? with
  | some (.m _) => k env
  | _ => none := rfl
@[simp] theorem isL_run (i : Nat) (k : StM) : isL i k env = match env[i]? with
  | some (.l _) => k env
  | _ => none := rfl
@[simp] theorem dpK_run (i : Nat) (e d : PyData) : dpK i e d env = match env[i]?, keyD d with
  | some (.m ks), some k => if smallL ks.length then some (.nx, env.set i (.m (putS ks k (.p e)))) else none
  | _, _ => none := rfl
@[simp] theorem mDGet2_run (i : Nat) (mk md : ExM) : mDGet2 i mk md env = isM i (bnd mk fun ok => bnd md fun od => bnd (look ok) fun d => dgK i d od) env := rfl
@[simp] theorem dgK_run (i : Nat) (d : PyData) (od : Opd) : dgK i d od env = match env[i]?, keyD d with
  | some (.m ks), some k => (match valS ks k with
    | some (.p e) => some (.ok (.val (.p e)), env)
    | none => (match od with
      | .val s => some (.ok (.val s), env)
      | .ref _ => none)
    | _ => none)
  | _, _ => none := rfl
@[simp] theorem mDNew_run : mDNew env = some (.ok (.val (.m [])), env) := rfl
@[simp] theorem sExt_run (i : Nat) (me : ExM) : sExt i me env = isL i (bndS me (exK i)) env := rfl
@[simp] theorem exK_run (i : Nat) (ys : List Slot) : exK i (.val (.l ys)) env = match env[i]? with
  | some (.l xs) => if smallL (xs.length + ys.length) then some (.nx, env.set i (.l (xs ++ ys))) else none
  | _ => none := rfl
@[simp] theorem sApp_run (i : Nat) (me : ExM) : sApp i me env = isL i (bndS me (apK i)) env := rfl
@[simp] theorem apK_p (i : Nat) (d : PyData) : apK i (.val (.p d)) env = match env[i]? with
  | some (.l xs) => if smallL xs.length then some (.nx, env.set i (.l (xs ++ [.p d]))) else none
  | _ => none := rfl
@[simp] theorem sSetL_run (i : Nat) (me mi : ExM) : sSetL i me mi env = bndS me (fun o => match o with
  | .val s => isL i (bndS mi fun oi => bndS (look oi) fun d => stK i s d)
  | .ref _ => fun _ => none) env := rfl
@[simp] theorem stK_p (i : Nat) (e d : PyData) : stK i (.p e) d env = match d with
  | .int k => (match env[i]? with
    | some (.l xs) => (ixN xs.length k).bind fun j => some (.nx, env.set i (.l (xs.set j (.p e))))
    | _ => none)
  | _ => none := rfl
@[simp] theorem mSortIt_run (i : Nat) : mSortIt i env = match env[i]? with
  | some (.m ks) => (kdsS ks).bind fun kds => if sortB (kds.map prD) = true ∧ (kds.all fun z => decide (z.2.depth ≤ 40)) = true then some (.ok (.val (.l ((srt (kds.map prD)).map .p))), env) else none
  | _ => none := rfl
@[simp] theorem mFnL_run (fm : FnM) (ms : Mir (List Opd)) : mFnL fm ms env = bnd ms (fun os env => match os with
  | .ref i :: os' => (match argS os' with
    | some ss => (match fm (((env[i]?).getD .un) :: ss) with
      | some (.ok s, ss') => some (.ok (.val s), env.set i ((ss'[0]?).getD .un))
      | some (.ex x, ss') => some (.ex x, env.set i ((ss'[0]?).getD .un))
      | none => none)
    | none => none)
  | _ => none) env := by
  unfold mFnL bnd
  cases ms env with
  | none => rfl
  | some p => obtain ⟨r, e⟩ := p; cases r with
    | ex x => rfl
    | ok os =>
      cases os with
      | nil => rfl
      | cons o os => cases o with
        | val s => rfl
        | ref i =>
          simp only
          cases argS os with
          | none => rfl
          | some ss =>
            simp only [Option.bind_some]
            cases fm (((e[i]?).getD .un) :: ss) with
            | none => rfl
            | some q => obtain ⟨r, t⟩ := q; cases r <;> rfl
@[simp] theorem mIsi_run (ns : List String) (me : ExM) : mIsi ns me env = bnd me (fun o => bnd (lookT o) fun t => MM.ret (.val (.p (.bool (ns.any fun n => isSub t n))))) env := rfl
@[simp] theorem lookT_p (d : PyData) : lookT (.val (.p d)) env = some (.ok (tyD d), env) := rfl
@[simp] theorem allP_nil : allP [] = some [] := rfl
@[simp] theorem allP_cons (d : PyData) (xs : List Slot) : allP (.p d :: xs) = (allP xs).map (d :: ·) := rfl
@[simp] theorem look_ls (xs : List Slot) : look (.val (.l xs)) env = match allP xs with
  | some ds => some (.ok (.list ds), env)
  | none => none := by
  show (match (Slot.l xs).dat with | some d => some (Res.ok d, env) | none => none) = _
  show (match (allP xs).map PyData.list with | some d => some (Res.ok d, env) | none => none) = _
  cases allP xs <;> rfl
@[simp] theorem own_ls (xs : List Slot) : (Opd.val (.l xs)).own = (allP xs).map .list := rfl
@[simp] theorem dat_ls (xs : List Slot) : (Slot.l xs).dat = (allP xs).map .list := rfl
@[simp] theorem ownD_ls (xs : List Slot) : ownD (.val (.l xs)) env = match allP xs with
  | some ds => some (.ok (.list ds), env)
  | none => none := by
  show ((allP xs).map PyData.list).map (fun d => (Res.ok d, env)) = _
  cases allP xs <;> rfl
@[simp] theorem argS_ls (xs : List Slot) (os : List Opd) : argS (.val (.l xs) :: os) = (argS os).map fun ss => (match allP xs with
  | some ds => .p (.list ds)
  | none => .l xs) :: ss := by
  show (argS os).map (fun ss => (match (allP xs).map PyData.list with | some d => Slot.p d | none => Slot.l xs) :: ss) = _
  cases allP xs <;> rfl
@[simp] theorem wipeE_nil : wipeE env [] = env := rfl
@[simp] theorem wipeE_cons (v : Nat) (vs : List Nat) : wipeE env (v :: vs) = (wipeE env vs).set v .un := rfl
@[simp] theorem resE_nil (e : Env) : resE env e [] = e := rfl
@[simp] theorem resE_cons (e : Env) (v : Nat) (vs : List Nat) : resE env e (v :: vs) = resE env (e.set v (((wipeE env vs)[v]?).getD .un)) vs := rfl
@[simp] theorem get_p (d : PyData) : Opd.get (.val (.p d)) env = .p d := rfl
theorem runB_run (n N : Nat) (mb : StM) (ss : List Slot) (h : ss.length = n) : runB n N mb ss = runE n (mb (ss ++ List.replicate (N - n) .un)) := by unfold runB; rw [if_pos h]
theorem fn_rt {n N : Nat} {mb : StM} {ss : List Slot} {s : Slot} {e : Env} (h : ss.length = n) (hb : mb (ss ++ List.replicate (N - n) .un) = some (.rt s, e)) : runB n N mb ss = some (.ok s, e.take n) := by
  rw [runB_run _ _ _ _ h, hb]; rfl
theorem runE_rt (n : Nat) (s : Slot) (e : Env) : runE n (some (.rt s, e)) = some (.ok s, e.take n) := rfl
theorem runE_nx (n : Nat) (e : Env) : runE n (some (.nx, e)) = some (.ok (.p .none), e.take n) := rfl
end
theorem seq_nx {m1 m2 : StM} {env e : Env} {r : Option (Fl × Env)} (h1 : m1 env = some (.nx, e)) (h2 : m2 e = r) : sSeq m1 m2 env = r := by
  unfold sSeq; rw [h1]; exact h2
theorem if_no {mt : Mir Bool} {m1 : StM} {env e : Env} (h : mt env = some (.ok false, e)) : sIf mt m1 sNx env = some (.nx, e) := by
  rw [sIf_run, h]; rfl
theorem or_no {mt mu : Mir Bool} {env e e2 : Env} (h1 : mt env = some (.ok false, e)) (h2 : mu e = some (.ok false, e2)) : mOrT mt mu env = some (.ok false, e2) := by
  rw [mOrT_run, h1]; exact h2
/-- a loop by an invariant over what was walked -/
theorem forM_go {α γ : Type} {tg : γ → Env → Option Env} {mb : StM} (D : α → γ) (I : List α → Env → Prop) (all : List α) (k : ∀ done x rest E, all = done ++ x :: rest → I done E → ∃ E1 E2 f, tg (D x) E = some E1 ∧ mb E1 = some (f, E2) ∧ (f = .nx ∨ f = .ct) ∧ I (done ++ [x]) E2) :
    ∀ (xs done : List α) (E : Env), all = done ++ xs → I done E → ∃ E', forM tg mb (xs.map D) E = some (.nx, E') ∧ I all E'
  | [], done, E, e, h => ⟨E, rfl, by rw [List.append_nil] at e; rw [e]; exact h⟩
  | x :: xs, done, E, e, h => by
    obtain ⟨E1, E2, f, h1, h2, hf, h3⟩ := k done x xs E e h
    obtain ⟨E', h4, h5⟩ := forM_go (tg := tg) (mb := mb) D I all k xs (done ++ [x]) E2 (by rw [List.append_assoc]; exact e) h3
    refine ⟨E', ?_, h5⟩
    rw [List.map_cons]
    unfold forM
    rw [h1, Option.bind_some, h2]
    rcases hf with rfl | rfl <;> exact h4
theorem forM_inv {α γ : Type} {tg : γ → Env → Option Env} {mb : StM} (D : α → γ) (I : List α → Env → Prop) (xs : List α) (k : ∀ done x rest E, xs = done ++ x :: rest → I done E → ∃ E1 E2 f, tg (D x) E = some E1 ∧ mb E1 = some (f, E2) ∧ (f = .nx ∨ f = .ct) ∧ I (done ++ [x]) E2)
    (E : Env) (h : I [] E) : ∃ E', forM tg mb (xs.map D) E = some (.nx, E') ∧ I xs E' := forM_go D I xs k xs [] E rfl h
/-- a comprehension by an invariant -/
theorem compM_inv {α γ : Type} {own : List Nat} {tg : γ → Env → Option Env} {mt : Mir Bool} {me : ExM} (D : α → γ) (I : List α → List PyData → Env → Prop) : ∀ (xs done : List α) (acc : List PyData) (E : Env),
    (∀ done x acc E, I done acc E → ∃ E1, tg (D x) E = some E1 ∧ ((∃ E2, mt E1 = some (.ok false, E2) ∧ I (done ++ [x]) acc (wipeE E2 own)) ∨ ∃ E2 o E3 d, mt E1 = some (.ok true, E2) ∧ me E2 = some (.ok o, E3) ∧ o.own = some d ∧ I (done ++ [x]) (acc ++ [d]) (wipeE E3 own))) →
    I done acc E → ∃ acc' E', compM own tg mt me (xs.map D) acc E = some (acc', E') ∧ I (done ++ xs) acc' E'
  | [], done, acc, E, _, h => ⟨acc, E, rfl, by rw [List.append_nil]; exact h⟩
  | x :: xs, done, acc, E, k, h => by
    obtain ⟨E1, h1, h2⟩ := k done x acc E h
    rw [List.map_cons]
    unfold compM
    rw [h1, Option.bind_some]
    rcases h2 with ⟨E2, h3, h4⟩ | ⟨E2, o, E3, d, h3, h4, h5, h6⟩
    · obtain ⟨acc', E', e1, e2⟩ := compM_inv (own := own) (tg := tg) (mt := mt) (me := me) D I xs (done ++ [x]) acc (wipeE E2 own) k h4
      rw [h3]
      exact ⟨acc', E', e1, by rw [List.append_assoc] at e2; exact e2⟩
    · obtain ⟨acc', E', e1, e2⟩ := compM_inv (own := own) (tg := tg) (mt := mt) (me := me) D I xs (done ++ [x]) (acc ++ [d]) (wipeE E3 own) k h6
      rw [h3]
      simp only [h4, h5, Option.bind_some]
      exact ⟨acc', E', e1, by rw [List.append_assoc] at e2; exact e2⟩
end MM
/-! M13: data by type: pairs of numbers, lists of them -/
namespace MM
open PySem PySem.Spec L2
def prI (p : Int × Int) : PyData := .tuple [.int p.1, .int p.2]
def vD (v : List (Int × Int)) : PyData := .tuple (v.map prI)
def lD (v : List (Int × Int)) : PyData := .list (v.map prI)
theorem ints_map {α : Type} (f : α → Int) (ns : List α) : ints? (ns.map fun x => .int (f x)) = some (ns.map f) := by
  induction ns with
  | nil => rfl
  | cons n ns ih => rw [List.map_cons]; show (ints? (ns.map _)).map (f n :: ·) = _; rw [ih]; rfl
theorem bools_map {α : Type} (f : α → Bool) (ns : List α) : bools? (ns.map fun x => .bool (f x)) = some (ns.map f) := by
  induction ns with
  | nil => rfl
  | cons n ns ih => rw [List.map_cons]; show (bools? (ns.map _)).map (f n :: ·) = _; rw [ih]; rfl
@[simp] theorem itD_vD (v : List (Int × Int)) : itD (vD v) = some (v.map prI) := rfl
@[simp] theorem itD_lD (v : List (Int × Int)) : itD (lD v) = some (v.map prI) := rfl
@[simp] theorem itD_tup (ds : List PyData) : itD (.tuple ds) = some ds := rfl
@[simp] theorem itD_lst (ds : List PyData) : itD (.list ds) = some ds := rfl
theorem eqv_int (a b : Int) : PyData.eqv (.int a) (.int b) = (a == b) := rfl
theorem eqv_bool (a b : Bool) : PyData.eqv (.bool a) (.bool b) = (a == b) := rfl
theorem eqv_prI (p q : Int × Int) : PyData.eqv (prI p) (prI q) = decide (p = q) := by
  obtain ⟨a, b⟩ := p
  obtain ⟨c, d⟩ := q
  show ((a == c) && ((b == d) && true)) = _
  rw [Bool.and_true, Bool.eq_iff_iff]
  simp [Prod.ext_iff]
theorem eqvAll_prI : ∀ (a b : List (Int × Int)), PyData.eqvAll (a.map prI) (b.map prI) = decide (a = b)
  | [], [] => rfl
  | [], _ :: _ => rfl
  | _ :: _, [] => rfl
  | x :: a, y :: b => by
    rw [List.map_cons, List.map_cons]
    show (PyData.eqv (prI x) (prI y) && PyData.eqvAll (a.map prI) (b.map prI)) = _
    rw [eqv_prI, eqvAll_prI a b, Bool.eq_iff_iff]
    simp
theorem eqv_vD (a b : List (Int × Int)) : PyData.eqv (vD a) (vD b) = decide (a = b) := eqvAll_prI a b
theorem eqv_lD (a b : List (Int × Int)) : PyData.eqv (lD a) (lD b) = decide (a = b) := eqvAll_prI a b
theorem lay_prI : ∀ (a : List (Int × Int)), PyData.canLayAll0 (a.map prI) = true
  | [] => rfl
  | x :: a => by
    rw [List.map_cons]
    show (true && PyData.canLayAll0 (a.map prI)) = true
    rw [lay_prI a]; rfl
theorem depth_prI : ∀ (a : List (Int × Int)), PyData.depthAll (a.map prI) ≤ 1
  | [] => by simp [PyData.depthAll]
  | x :: a => by
    have := depth_prI a
    rw [List.map_cons, PyData.depthAll]
    have e : (prI x).depth = 1 := by simp [prI, PyData.depth, PyData.depthAll]
    rw [e]; omega
theorem shaped_int (a : Int) : SeqAt.shaped (.int a) = true := rfl
theorem shaped_bool (a : Bool) : SeqAt.shaped (.bool a) = true := rfl
theorem shaped_prI (p : Int × Int) : SeqAt.shaped (prI p) = true := by
  obtain ⟨a, b⟩ := p
  simp [SeqAt.shaped, prI, PyData.canLay0, PyData.canLayAll0, PyData.depth, PyData.depthAll]
theorem shaped_tupI (a : List (Int × Int)) : SeqAt.shaped (.tuple (a.map prI)) = true := by
  have := depth_prI a
  unfold SeqAt.shaped
  rw [PyData.canLay0, PyData.depth, lay_prI, Bool.true_and, decide_eq_true_eq]
  omega
theorem shaped_lstI (a : List (Int × Int)) : SeqAt.shaped (.list (a.map prI)) = true := by
  have := depth_prI a
  unfold SeqAt.shaped
  rw [PyData.canLay0, PyData.depth, lay_prI, Bool.true_and, decide_eq_true_eq]
  omega
theorem shaped_vD (a : List (Int × Int)) : SeqAt.shaped (vD a) = true := shaped_tupI a
theorem shaped_lD (a : List (Int × Int)) : SeqAt.shaped (lD a) = true := shaped_lstI a
theorem any_prI (a : List (Int × Int)) (p : Int × Int) : ((a.map prI).any fun z => PyData.eqv z (prI p)) = decide (p ∈ a) := by
  rw [List.any_map, Bool.eq_iff_iff, List.any_eq_true, decide_eq_true_eq]
  refine ⟨fun ⟨q, h1, h2⟩ => ?_, fun h => ⟨p, h, ?_⟩⟩
  · have h2 : PyData.eqv (prI q) (prI p) = true := h2
    rw [eqv_prI] at h2
    exact of_decide_eq_true h2 ▸ h1
  · show PyData.eqv (prI p) (prI p) = true
    rw [eqv_prI]; exact decide_eq_true rfl
@[simp] theorem gIn_prI (a : List (Int × Int)) (p : Int × Int) : gIn false (prI p) (.list (a.map prI)) = some (.p (.bool (decide (p ∈ a)))) := by
  show (if SeqAt.shaped (prI p) && SeqAt.shaped (.list (a.map prI)) then some (Slot.p (.bool ((a.map prI).any fun z => PyData.eqv z (prI p)))) else none) = _
  rw [shaped_prI, shaped_lstI, any_prI]; rfl
@[simp] theorem gNotIn_prI (a : List (Int × Int)) (p : Int × Int) : gIn true (prI p) (.list (a.map prI)) = some (.p (.bool (!decide (p ∈ a)))) := by
  show (if SeqAt.shaped (prI p) && SeqAt.shaped (.list (a.map prI)) then some (Slot.p (.bool (!(a.map prI).any fun z => PyData.eqv z (prI p)))) else none) = _
  rw [shaped_prI, shaped_lstI, any_prI]; rfl
theorem gEq_of {d e : PyData} {b : Bool} (h1 : SeqAt.shaped d = true) (h2 : SeqAt.shaped e = true) (h : PyData.eqv d e = b) : gEq d e = some (.p (.bool b)) := by
  unfold gEq; rw [h1, h2, h]; rfl
theorem gNe_of {d e : PyData} {b : Bool} (h1 : SeqAt.shaped d = true) (h2 : SeqAt.shaped e = true) (h : PyData.eqv d e = b) : gNe d e = some (.p (.bool (!b))) := by
  unfold gNe; rw [h1, h2, h]; rfl
@[simp] theorem gEq_int (a b : Int) : gEq (.int a) (.int b) = some (.p (.bool (a == b))) := rfl
@[simp] theorem gNe_int (a b : Int) : gNe (.int a) (.int b) = some (.p (.bool (!(a == b)))) := rfl
@[simp] theorem gEq_bool (a b : Bool) : gEq (.bool a) (.bool b) = some (.p (.bool (a == b))) := rfl
@[simp] theorem gNe_bool (a b : Bool) : gNe (.bool a) (.bool b) = some (.p (.bool (!(a == b)))) := rfl
@[simp] theorem gEq_vD (a b : List (Int × Int)) : gEq (vD a) (vD b) = some (.p (.bool (decide (a = b)))) := gEq_of (shaped_vD a) (shaped_vD b) (eqv_vD a b)
@[simp] theorem gNe_vD (a b : List (Int × Int)) : gNe (vD a) (vD b) = some (.p (.bool (!decide (a = b)))) := gNe_of (shaped_vD a) (shaped_vD b) (eqv_vD a b)
@[simp] theorem gEq_lD (a b : List (Int × Int)) : gEq (.list (a.map prI)) (.list (b.map prI)) = some (.p (.bool (decide (a = b)))) := gEq_of (shaped_lD a) (shaped_lD b) (eqv_lD a b)
@[simp] theorem gI_sub (a b : Int) : gI (fun i j => some (.int (i - j))) (.int a) (.int b) = some (.p (.int (a - b))) := rfl
@[simp] theorem gAdd_int (a b : Int) : gAdd (.int a) (.int b) = some (.p (.int (a + b))) := rfl
@[simp] theorem gLtI_int (a b : Int) : gLtI (.int a) (.int b) = some (.p (.bool (decide (a < b)))) := rfl
@[simp] theorem gLeI_int (a b : Int) : gLeI (.int a) (.int b) = some (.p (.bool (decide (a ≤ b)))) := rfl
@[simp] theorem gGtI_int (a b : Int) : gGtI (.int a) (.int b) = some (.p (.bool (decide (b < a)))) := rfl
@[simp] theorem gGeI_int (a b : Int) : gGeI (.int a) (.int b) = some (.p (.bool (decide (b ≤ a)))) := rfl
@[simp] theorem gSum_run {α : Type} (f : α → Int) (xs : List α) : gSum [.list (xs.map fun x => .int (f x))] = some (.p (.int (xs.map f).sum)) := by
  show (ints? (xs.map fun x => .int (f x))).map _ = _
  rw [ints_map]; rfl
@[simp] theorem gAll_run {α : Type} (f : α → Bool) (xs : List α) : gAll [.list (xs.map fun x => .bool (f x))] = some (.p (.bool (xs.all f))) := by
  show (bools? (xs.map fun x => .bool (f x))).map _ = _
  rw [bools_map]
  show some (Slot.p (.bool ((xs.map f).all id))) = _
  rw [List.all_map]; rfl
@[simp] theorem gAny_run {α : Type} (f : α → Bool) (xs : List α) : gAny [.list (xs.map fun x => .bool (f x))] = some (.p (.bool (xs.any f))) := by
  show (bools? (xs.map fun x => .bool (f x))).map _ = _
  rw [bools_map]
  show some (Slot.p (.bool ((xs.map f).any id))) = _
  rw [List.any_map]; rfl
@[simp] theorem gLen_list (ds : List PyData) : gLen [.list ds] = some (.p (.int ds.length)) := rfl
@[simp] theorem gLen_tuple (ds : List PyData) : gLen [.tuple ds] = some (.p (.int ds.length)) := rfl
@[simp] theorem gTuple_list (ds : List PyData) : gTuple [.list ds] = some (.p (.tuple ds)) := rfl
@[simp] theorem gIdx_pr0 (p : Int × Int) : gIdx (prI p) (.int 0) = some (.p (.int p.1)) := rfl
@[simp] theorem gIdx_pr1 (p : Int × Int) : gIdx (prI p) (.int 1) = some (.p (.int p.2)) := rfl
@[simp] theorem gMax2_run (i j : Int) : gMax2 [.int i, .int j] = some (.p (.int (max i j))) := by
  show some (Slot.p (.int (if j > i then j else i))) = _
  rw [Int.max_def]
  congr 3
  split <;> split <;> omega
@[simp] theorem gMin2_run (i j : Int) : gMin2 [.int i, .int j] = some (.p (.int (min i j))) := by
  show some (Slot.p (.int (if j < i then j else i))) = _
  rw [Int.min_def]
  congr 3
  split <;> split <;> omega
@[simp] theorem truD_bool (b : Bool) : truD (.bool b) = some b := rfl
@[simp] theorem truD_int (i : Int) : truD (.int i) = some (i != 0) := rfl
@[simp] theorem boD_bool (b : Bool) : boD (.bool b) = some b := rfl
theorem prI_mk (a b : Int) : PyData.tuple [.int a, .int b] = prI (a, b) := rfl
theorem gMul_run {a b : Int} (h : 0 ≤ a) (h2 : a < 2147483648) : gI fMul (.int a) (.int b) = some (.p (.int (a * b))) := by
  show (fMul a b).map Slot.p = _
  unfold fMul
  have e1 : (2 : Int) ^ 64 = 18446744073709551616 := by decide
  have h3 : ((decide (-(2 ^ 64 : Int) < a) && decide (a < (2 : Int) ^ 64)) || (decide (-(2 ^ 64 : Int) < b) && decide (b < (2 : Int) ^ 64))) = true := by
    rw [e1, decide_eq_true (show -18446744073709551616 < a by omega), decide_eq_true (show a < 18446744073709551616 by omega)]; rfl
  rw [if_pos h3]; rfl
theorem gMod_run {a b : Int} (h : 0 < b) : gI fMod (.int a) (.int b) = some (.p (.int (a % b))) := by
  show (fMod a b).map Slot.p = _
  unfold fMod
  rw [if_pos (decide_eq_true h)]; rfl
theorem gDiv_run {a b : Int} (h : 0 < b) (h2 : b < 1073741824) : gI fDiv (.int a) (.int b) = some (.p (.int (a / b))) := by
  show (fDiv a b).map Slot.p = _
  unfold fDiv
  rw [decide_eq_true h, decide_eq_true h2]; rfl
@[simp] theorem gAbs_run (i : Int) : gAbs [.int i] = some (.p (.int (if i < 0 then -i else i))) := rfl
@[simp] theorem gInt_run (i : Int) : gInt [.int i] = some (.p (.int i)) := rfl
@[simp] theorem gNeg_run (i : Int) : gNeg (.int i) = some (.p (.int (-i))) := rfl
@[simp] theorem tyD_vD (v : List (Int × Int)) : tyD (vD v) = "tuple" := rfl
@[simp] theorem tyD_bool (b : Bool) : tyD (.bool b) = "bool" := rfl
@[simp] theorem tyD_int (b : Int) : tyD (.int b) = "int" := rfl
@[simp] theorem sub_tt : isSub "tuple" "tuple" = true := by decide
@[simp] theorem sub_bb : isSub "bool" "bool" = true := by decide
@[simp] theorem sub_ii : isSub "int" "int" = true := by decide
/-! dicts of numbers -/
def mI (l : List (Int × Int)) : List (Key × Slot) := l.map fun p => (.inl p.1, .p (.int p.2))
def getI (l : List (Int × Int)) (c : Int) : Option Int := (l.find? fun p => p.1 == c).map (·.2)
def putI (l : List (Int × Int)) (c n : Int) : List (Int × Int) := if (l.any fun p => p.1 == c) = true then l.map (fun p => if p.1 = c then (p.1, n) else p) else l ++ [(c, n)]
theorem inl_dec (a c : Int) : decide ((Sum.inl a : Key) = Sum.inl c) = (a == c) := by
  rw [Bool.eq_iff_iff]; simp
@[simp] theorem valS_mI (l : List (Int × Int)) (c : Int) : valS (mI l) (.inl c) = (getI l c).map fun n => .p (.int n) := by
  induction l with
  | nil => rfl
  | cons p l ih =>
    unfold valS getI mI at *
    rw [List.map_cons, List.find?_cons, List.find?_cons]
    simp only [inl_dec]
    cases p.1 == c with
    | true => rfl
    | false => exact ih
theorem any_mI (l : List (Int × Int)) (c : Int) : ((mI l).any fun kv => decide (kv.1 = (.inl c : Key))) = l.any fun p => p.1 == c := by
  unfold mI
  rw [List.any_map]
  congr 1
  funext p
  exact inl_dec p.1 c
@[simp] theorem putS_mI (l : List (Int × Int)) (c n : Int) : putS (mI l) (.inl c) (.p (.int n)) = mI (putI l c n) := by
  unfold putS putI
  rw [any_mI]
  split
  · unfold mI
    rw [List.map_map, List.map_map]
    apply List.map_congr_left
    intro p _
    show (if (Sum.inl p.1 : Key) = .inl c then _ else _) = _
    by_cases h : p.1 = c
    · simp [h]
    · simp [h]
  · unfold mI
    rw [List.map_append]; rfl
@[simp] theorem mI_len (l : List (Int × Int)) : (mI l).length = l.length := by unfold mI; rw [List.length_map]
@[simp] theorem keyD_int (c : Int) : keyD (.int c) = some (.inl c) := rfl
def kdI (l : List (Int × Int)) : List (Key × PyData) := l.map fun p => (.inl p.1, .int p.2)
@[simp] theorem kdsS_mI (l : List (Int × Int)) : kdsS (mI l) = some (kdI l) := by
  induction l with
  | nil => rfl
  | cons p l ih => show (kdsS (mI l)).map _ = _; rw [ih]; rfl
@[simp] theorem kdI_prD (l : List (Int × Int)) : (kdI l).map prD = l.map prI := by
  unfold kdI; rw [List.map_map]; rfl
@[simp] theorem sortB_prI (l : List (Int × Int)) : sortB (l.map prI) = true := by
  unfold sortB
  rw [List.all_eq_true]
  intro d hd
  obtain ⟨p, _, rfl⟩ := List.mem_map.mp hd
  rw [List.all_eq_true]
  intro e he
  obtain ⟨q, _, rfl⟩ := List.mem_map.mp he
  simp [prI, PySem.W.alike, PySem.W.alikeAll]
@[simp] theorem kdI_depth (l : List (Int × Int)) : ((kdI l).all fun z => decide (z.2.depth ≤ 40)) = true := by
  unfold kdI
  rw [List.all_map, List.all_eq_true]
  intro p _
  simp [PyData.depth]
def leI (p q : Int × Int) : Bool := decide (p.1 < q.1 ∨ (p.1 = q.1 ∧ p.2 ≤ q.2))
def sortI (l : List (Int × Int)) : List (Int × Int) := l.mergeSort leI
@[simp] theorem srt_prI (l : List (Int × Int)) : srt (l.map prI) = (sortI l).map prI := by
  unfold srt sortI
  symm
  apply List.map_mergeSort
  intro p _ q _
  have h := congrFun (congrFun (PySem.W.dataLe_ii (fun z : Int × Int => z.1) (fun z => z.2)) p) q
  exact h.symm
theorem pairsD_prI (l : List (Int × Int)) : pairsD (l.map prI) = some (kdI l) := by
  induction l with
  | nil => rfl
  | cons p l ih => rw [List.map_cons]; show (pairD (prI p)).bind _ = _; show (pairsD (l.map prI)).map _ = _; rw [ih]; rfl
def mergeI (acc more : List (Int × Int)) : List (Int × Int) := more.foldl (fun acc p => putI acc p.1 p.2) acc
theorem mergeS_mI : ∀ (l acc : List (Int × Int)), mergeS (mI acc) (kdI l) = mI (mergeI acc l)
  | [], acc => rfl
  | p :: l, acc => by
    show mergeS (putS (mI acc) (.inl p.1) (.p (.int p.2))) (kdI l) = _
    rw [putS_mI, mergeS_mI l]; rfl
@[simp] theorem gDict_vD (l : List (Int × Int)) : gDict [vD l] = some (.m (mI (mergeI [] l))) := by
  show (pairsD (l.map prI)).map _ = _
  rw [pairsD_prI, ← mergeS_mI]; rfl
/-- whole numbers in a row -/
def rgI (lo hi : Int) : List Int := (List.range (hi - lo).toNat).map fun i => lo + (i : Nat)
theorem rgD_eq (lo hi : Int) : rgD lo hi = (rgI lo hi).map .int := by
  unfold rgD rgI; rw [List.map_map]; rfl
theorem rgI_mem {lo hi x : Int} : x ∈ rgI lo hi ↔ lo ≤ x ∧ x < hi := by
  unfold rgI
  rw [List.mem_map]
  constructor
  · rintro ⟨i, h, rfl⟩
    rw [List.mem_range] at h
    omega
  · intro h
    exact ⟨(x - lo).toNat, by rw [List.mem_range]; omega, by omega⟩
theorem rgI_len (lo hi : Int) : (rgI lo hi).length = (hi - lo).toNat := by unfold rgI; rw [List.length_map, List.length_range]
theorem rng1_run {j : Int} (h : -1000000 ≤ j) (h2 : j ≤ 1000000) : rng1 [.int j] = some ((rgI 0 j).map .int) := by
  show (if smallI j then some (rgD 0 j) else none) = _
  rw [show smallI j = true from decide_eq_true (by omega), if_pos rfl, rgD_eq]
theorem rng2_run {i j : Int} (h0 : -1000000 ≤ i) (h1 : i ≤ 1000000) (h : -1000000 ≤ j) (h2 : j ≤ 1000000) : rng2 [.int i, .int j] = some ((rgI i j).map .int) := by
  show (if smallI i && smallI j then some (rgD i j) else none) = _
  rw [show smallI i = true from decide_eq_true (by omega), show smallI j = true from decide_eq_true (by omega), rgD_eq]
  rfl
end MM
/-! S1: sets of keys of any depth (ints, texts, or tuples of keys): how one is made -/
namespace MS
open PySem PySem.Spec PyProof.Rows L2
abbrev Nk := NestedKey
abbrev KRow := List (Value × Nk)
def kRow (w : World) (L : KRow) : List (Int × Value) := L.map fun p => (p.2.hash w, p.1)
def kOf : Key → Nk
  | .inl i => .num i
  | .inr x => .text x
theorem kOf_inj {a b : Key} (h : kOf a = kOf b) : a = b := by
  cases a <;> cases b <;> simp [kOf] at h <;> simp [h]
/-- how a member may look: by scan (ints, texts), or by the table (tuples) -/
def KeyM (m : Bool) (P : Program) (w : World) (h : Heap) (k : Nk) (v : Value) : Prop :=
  NestedIs h k v ∧ k.depth ≤ 8 ∧ (if m = true then ∃ z, k = kOf z ∧ (mixKind P w).is z v = true ∧ v.scannable = true else ∃ b, v = .ref b)
structure SetN (P : Program) (w : World) (h : Heap) (a : Addr) (L : KRow) (es : Array (Int × Value)) (ep : Nat) (t : SetTable) : Prop where
  ob : ∃ o, h.get? a = some o ∧ o.ExactSet ∧ o.data = .set es ep t
  rows : es.toList = kRow w L
  nd : (L.map (·.2)).Nodup
  fit : t.fits es.size = true
  ris : Ris t.place.toList
  led : w.params.followText "set-order" = true ∨ t.led = true
  few : L.length < scanBound
/-- the table in good order -/
def TabM (m : Bool) (w : World) (L : KRow) (t : SetTable) : Prop := m = true ∨ (TabOk t (L.map fun p => p.2.hash w) ∧ L.length * 5 < t.mask * 3 ∧ L.length < 64)
structure SetM (m : Bool) (P : Program) (w : World) (h : Heap) (a : Addr) (L : KRow) (es : Array (Int × Value)) (ep : Nat) (t : SetTable) : Prop where
  n : SetN P w h a L es ep t
  key : ∀ p ∈ L, KeyM m P w h p.2 p.1
  tab : TabM m w L t
def capM (m : Bool) : Nat := if m = true then 4000 else 63

section
variable {m : Bool} {P : Program} {w : World} {h h' : Heap} {a b : Addr} {L : KRow} {es : Array (Int × Value)} {ep : Nat} {t : SetTable} {k : Nk} {v : Value}
theorem SetN.size (R : SetN P w h a L es ep t) : es.size = L.length := by
  have q := congrArg List.length R.rows
  rw [Array.length_toList, kRow, List.length_map] at q
  exact q
theorem SetN.at_ (R : SetN P w h a L es ep t) : SetAt h a es ep t := by
  obtain ⟨o, h1, h2, h3⟩ := R.ob
  exact ⟨o, h1, h2.1, h3⟩
theorem SetN.entry (R : SetN P w h a L es ep t) {i : Nat} {p : Value × Nk} (hp : L[i]? = some p) : es[i]? = some (p.2.hash w, p.1) := by
  rw [← Array.getElem?_toList, R.rows, kRow, List.getElem?_map, hp]; rfl
theorem SetN.keep (R : SetN P w h a L es ep t) (ha : ∀ o, h.get? a = some o → h'.get? a = some o) : SetN P w h' a L es ep t := by
  obtain ⟨o, h1, h2⟩ := R.ob
  exact ⟨⟨o, ha o h1, h2⟩, R.rows, R.nd, R.fit, R.ris, R.led, R.few⟩
theorem KeyM.keep (x : KeyM m P w h k v) (hk : ∀ b o, h.get? b = some o → h'.get? b = some o) : KeyM m P w h' k v :=
  ⟨NestedIs.at (fun b o _ _ q _ => hk b o q) k v x.1, x.2⟩
theorem KeyM.same (x : KeyM m P w h k v) {o : Obj} (ho : h.get? a = some o) (hd : o.data = .set es ep t) (hs : Heap.SameBut a h h') : KeyM m P w h' k v :=
  ⟨NestedIs.at (fun b u vs n q z => (hs.2 b fun e => by
    subst e
    rw [ho] at q
    cases q
    rw [hd] at z
    cases z).trans q) k v x.1, x.2⟩
theorem SetM.keep (R : SetM m P w h a L es ep t) (ha : ∀ o, h.get? a = some o → h'.get? a = some o) (hk : ∀ p ∈ L, KeyM m P w h' p.2 p.1) : SetM m P w h' a L es ep t := ⟨R.n.keep ha, hk, R.tab⟩
theorem perm_back {α β : Type} (f : α → β) : ∀ {l l' : List β}, l.Perm l' → ∀ L : List α, l' = L.map f → ∃ L' : List α, l = L'.map f ∧ L'.Perm L := by
  intro l l' p
  induction p with
  | nil => intro L e; exact ⟨[], rfl, by cases L with | nil => exact .refl _ | cons _ _ => simp at e⟩
  | cons x _ ih =>
    intro L e
    cases L with
    | nil => simp at e
    | cons y L =>
      rw [List.map_cons, List.cons.injEq] at e
      obtain ⟨L', e1, p1⟩ := ih L e.2
      exact ⟨y :: L', by rw [List.map_cons, e1, e.1], p1.cons _⟩
  | swap x y l =>
    intro L e
    cases L with
    | nil => simp at e
    | cons u L =>
      cases L with
      | nil => simp at e
      | cons v L =>
        simp only [List.map_cons, List.cons.injEq] at e
        exact ⟨v :: u :: L, by simp [e.1, e.2.1, e.2.2], .swap _ _ _⟩
  | trans _ _ ih1 ih2 =>
    intro L e
    obtain ⟨L1, e1, p1⟩ := ih2 L e
    obtain ⟨L2, e2, p2⟩ := ih1 L1 e1
    exact ⟨L2, e2, p2.trans p1⟩
end

section
variable {m : Bool} {P : Program} {w : World} {A : Around} {E : Value → Shared → Prop} {s : Shared} {a : Addr} {L : KRow} {es : Array (Int × Value)} {ep : Nat} {t : SetTable}

/-! ### a member by scan -/
theorem mix_hash (z : Key) : (mixKind P w).hash z = (kOf z).hash w := by cases z <;> rfl
theorem elems_of (R : SetM true P w s.heap a L es ep t) : ElemsOf (mixKind P w) es.toList := fun e he => by
  rw [R.n.rows] at he
  obtain ⟨p, hp, rfl⟩ := List.mem_map.mp he
  obtain ⟨_, _, hz⟩ := R.key p hp
  rw [if_pos rfl] at hz
  obtain ⟨z, e1, e2, e3⟩ := hz
  exact ⟨⟨z, e2, by rw [e1, mix_hash]⟩, e3⟩
theorem mem_scan (R : SetM true P w s.heap a L es ep t) (z : Key) : kOf z ∈ L.map (·.2) ↔ ∃ e ∈ es.toList, (mixKind P w).is z e.2 = true := by
  rw [R.n.rows]
  constructor
  · intro h
    obtain ⟨p, hp, e⟩ := List.mem_map.mp h
    obtain ⟨_, _, hz⟩ := R.key p hp
    rw [if_pos rfl] at hz
    obtain ⟨y, e1, e2, _⟩ := hz
    have : y = z := kOf_inj (e1.symm.trans e)
    subst this
    exact ⟨_, List.mem_map.mpr ⟨p, hp, rfl⟩, e2⟩
  · rintro ⟨e, he, q⟩
    obtain ⟨p, hp, rfl⟩ := List.mem_map.mp he
    obtain ⟨_, _, hz⟩ := R.key p hp
    rw [if_pos rfl] at hz
    obtain ⟨y, e1, e2, _⟩ := hz
    have : y = z := (mixKind P w).inj _ _ _ e2 q
    subst this
    exact List.mem_map.mpr ⟨p, hp, e1⟩
/-- what adding leaves -/
def Added (m : Bool) (P : Program) (w : World) (a : Addr) (h0 : Heap) (L : KRow) (x : Value) (k : Nk) (h' : Heap) : Prop :=
  ∃ L' es' ep' t', Heap.SameBut a h0 h' ∧ SetM m P w h' a L' es' ep' t' ∧ (k ∈ L.map (·.2) → L' = L) ∧ (k ∉ L.map (·.2) → L'.Perm ((x, k) :: L))

theorem scan_tail {g : Bool → Sem Unit} (hg : ∀ (b : Bool) (s₁ : Shared) (Q' : Unit → Shared → Prop), Q' () s₁ → wpAny (model P w) A (g b) Q' E s₁)
    {o : Obj} (ho : s.heap.get? a = some o) (hex : o.ExactSet) (hd : o.data = .set es ep t) {es1 : Array (Int × Value)} {t2 : SetTable} {L1 : KRow} (hrow : es1.toList = kRow w L1) (hnd : (L1.map (·.2)).Nodup)
    (hkey : ∀ p ∈ L1, KeyM true P w s.heap p.2 p.1) (hb1 : L1.length < scanBound) (hf2 : t2.fits es1.size = true) (hr : Ris t2.place.toList) (hl : w.params.followText "set-order" = true ∨ t2.led = true) {wasDummy : Bool} {R : Option Bool → Shared → Prop}
    (hR : ∀ h' L' es' ep' t', Heap.SameBut a s.heap h' → SetM true P w h' a L' es' ep' t' → L'.Perm L1 → R (some true) { s with heap := h' }) :
    wpAny (model P w) A (do
        storeSet a es1 t2
        if (!wasDummy && t2.tooFull) = true then do
            g (relayAll t2 es1 (SetTable.grown es1.size)).2.2
            storeSet a (relayAll t2 es1 (SetTable.grown es1.size)).1 (relayAll t2 es1 (SetTable.grown es1.size)).2.1
            pure (some true)
          else pure (some true)) R E s := by
  have hz1 : es1.size = L1.length := by rw [← Array.length_toList, hrow, kRow, List.length_map]
  have hbs : es1.size < scanBound := by rw [hz1]; exact hb1
  refine wpAny_bind (wpAny_storeSet_of ho hd ?_ (fits_of_scanBound hbs))
  have ho1 := store_at (es' := es1) (t' := t2) ho hd
  have sb1 := Heap.SameBut.update s.heap a (Obj.putSet es1 t2)
  split
  · have pm := relayAll_perm t2 es1 (SetTable.grown es1.size)
    have hf3 := relayAll_fits t2 es1 (SetTable.grown es1.size)
    have hr3 := relayAll_ris t2 es1 (SetTable.grown es1.size)
    have hl3 := relayAll_led t2 es1 (SetTable.grown es1.size)
    generalize relayAll t2 es1 (SetTable.grown es1.size) = Z at pm hf3 hr3 hl3 ⊢
    obtain ⟨es2, t3, gave⟩ := Z
    dsimp only at pm hf3 hr3 hl3 ⊢
    have hsz : es2.size = es1.size := by rw [← Array.length_toList, pm.length_eq, Array.length_toList]
    have hb2 : es2.size < scanBound := by rw [hsz]; exact hbs
    obtain ⟨L2, e2, p2⟩ := perm_back (fun p : Value × Nk => (p.2.hash w, p.1)) pm L1 hrow
    refine wpAny_bind (hg _ _ _ ?_)
    refine wpAny_bind (wpAny_storeSet_of ho1 rfl ?_ (fits_of_scanBound hb2))
    have ho2 := store_at (es' := es2) (t' := t3) ho1 rfl
    have sb2 := sb1.trans (Heap.SameBut.update _ a (Obj.putSet es2 t3))
    refine wpAny_pure (hR _ L2 es2 _ t3 sb2 ⟨⟨⟨_, ho2, hex, rfl⟩, e2, (p2.map (·.2)).nodup_iff.mpr hnd, hf3, hr3, hl.imp id fun z => by rw [hl3]; exact z, by rw [p2.length_eq]; exact hb1⟩, fun p hp => ?_, .inl rfl⟩ p2)
    exact (hkey p (p2.mem_iff.mp hp)).same ho hd sb2
  · exact wpAny_pure (hR _ L1 es1 _ t2 sb1 ⟨⟨⟨_, ho1, hex, rfl⟩, hrow, hnd, hf2, hr, hl, hb1⟩, fun p hp => (hkey p hp).same ho hd sb1, .inl rfl⟩ (.refl _))

theorem scan_add {x : Value} {k : Nk} (R : SetM true P w s.heap a L es ep t) (hx : KeyM true P w s.heap k x) (room : L.length + 1 < scanBound) {Q : Bool → Shared → Prop}
    (hQ : ∀ b h', Added true P w a s.heap L x k h' → Q b { s with heap := h' }) : wpAny (model P w) A (setAddHashed a x (k.hash w)) Q E s := by
  obtain ⟨o, ho, hex, hd⟩ := R.n.ob
  have hxm := hx
  obtain ⟨_, _, hz⟩ := hx
  rw [if_pos rfl] at hz
  obtain ⟨z, ek, hkey, hsc⟩ := hz
  have hel := elems_of R
  have hes : es.size < scanBound := by rw [R.n.size]; exact R.n.few
  rw [ek, ← mix_hash (P := P)]
  unfold setAddHashed setAddHashedIn
  refine wpAny_holding (wpAny_bind (wpAny_setState_of ho hd R.n.fit ?_))
  dsimp only
  rw [byScan_of hsc hes hel]
  simp only [↓reduceIte]
  unfold setAddByScan
  refine wpAny_bind ?_
  refine wpAny_bind (wpAny_rule ?_)
  refine wpAny_bind (wpAny_setScan_of hkey ho hd R.n.fit hel ?_)
  cases hfi : List.findIdx? (fun e => (mixKind P w).is z e.2) es.toList with
  | some j =>
    dsimp only
    obtain ⟨hj, pj, _⟩ := List.findIdx?_eq_some_iff_getElem.mp hfi
    have hin : k ∈ L.map (·.2) := by rw [ek]; exact (mem_scan R z).2 ⟨es.toList[j], List.getElem_mem hj, pj⟩
    exact wpAny_pure (wpAny_pure (hQ false s.heap ⟨L, es, ep, t, Heap.SameBut.refl a s.heap, R, fun _ => rfl, fun q => absurd hin q⟩))
  | none =>
    dsimp only
    have hout : k ∉ L.map (·.2) := fun q => by
      rw [ek] at q
      obtain ⟨e, he, q⟩ := (mem_scan R z).1 q
      have c := List.findIdx?_eq_none_iff.mp hfi e he
      rw [q] at c
      cases c
    have hgw : ∀ (b : Bool) {s₁ : Shared} {Q' : Unit → Shared → Prop}, Q' () s₁ → wpAny (model P w) A (match b with | true => rule "set.scan.the-table-gave-way" | false => pure ()) Q' E s₁ :=
      fun b s₁ Q' q => by cases b <;> first | exact wpAny_pure q | exact wpAny_rule q
    have pm := layNew_perm t es ((mixKind P w).hash z) x
    have hf1 := layNew_fits t es ((mixKind P w).hash z) x
    have hr1 := layNew_ris t es ((mixKind P w).hash z) x R.n.ris
    have hl1 := layNew_led t es ((mixKind P w).hash z) x
    generalize layNew t es ((mixKind P w).hash z) x = Z at pm hf1 hr1 hl1 ⊢
    obtain ⟨es1, t1, wasDummy, gave⟩ := Z
    dsimp only at pm hf1 hr1 hl1 ⊢
    rw [Array.toList_push] at pm
    have pc : es1.toList.Perm (((mixKind P w).hash z, x) :: es.toList) := pm.trans (List.perm_append_singleton _ _)
    obtain ⟨L1, e1, p1⟩ := perm_back (fun p : Value × Nk => (p.2.hash w, p.1)) pc ((x, k) :: L) (by rw [List.map_cons, R.n.rows, ek, mix_hash]; rfl)
    have hnd : (L1.map (·.2)).Nodup := (p1.map (·.2)).nodup_iff.mpr (by rw [List.map_cons]; exact List.nodup_cons.mpr ⟨hout, R.n.nd⟩)
    have hkeys : ∀ p ∈ L1, KeyM true P w s.heap p.2 p.1 := fun p hp => by
      rcases List.mem_cons.mp (p1.mem_iff.mp hp) with q | q
      · rw [q]; exact hxm
      · exact R.key p q
    have hlen : L1.length < scanBound := by rw [p1.length_eq, List.length_cons]; exact room
    have hled : w.params.followText "set-order" = true ∨ t1.led = true := R.n.led.imp id fun q => by rw [hl1]; exact q
    have fin : ∀ h' L' es' ep' t', Heap.SameBut a s.heap h' → SetM true P w h' a L' es' ep' t' → L'.Perm L1 → Q true { s with heap := h' } := fun h' L' es' ep' t' sb r pp => hQ true h' ⟨L', es', ep', t', sb, r, fun q => absurd q hout, fun _ => pp.trans p1⟩
    refine wpAny_bind (hgw _ ?_)
    split
    · refine wpAny_bind ?_
      rw [hashByValue_scannable 8 hsc]
      refine wpAny_pure ?_
      refine scan_tail ?_ ho hex hd e1 hnd hkeys hlen ?_ ?_ ?_ ?_
      · intro b s₁ Q' q; cases b <;> first | exact wpAny_pure q | exact wpAny_rule q
      · first | (split <;> first | exact hf1 | exact SetTable.fits_plain_off hf1) | exact hf1
      · first | (split <;> exact hr1) | exact hr1
      · first | (split <;> exact hled) | exact hled
      · intro h' L' es' ep' t' sb r pp; dsimp only; exact wpAny_pure (fin h' L' es' ep' t' sb r pp)
    · refine wpAny_bind (wpAny_pure ?_)
      simp only [↓reduceIte]
      refine scan_tail ?_ ho hex hd e1 hnd hkeys hlen hf1 hr1 hled ?_
      · intro b s₁ Q' q; cases b <;> first | exact wpAny_pure q | exact wpAny_rule q
      · intro h' L' es' ep' t' sb r pp; dsimp only; exact wpAny_pure (fin h' L' es' ep' t' sb r pp)
end
end MS
/-! S2: members by the table: tuples of keys -/
namespace MS
open PySem PySem.Spec PyProof.Rows L2
section
variable {P : Program} {w : World} {A : Around} {E : Value → Shared → Prop} {s : Shared} {a : Addr} {L : KRow} {es : Array (Int × Value)} {ep : Nat} {t : SetTable}
/-! ### what a search asks of tuples of keys -/
mutual
theorem noCls : ∀ (k : Nk) (v : Value) (n : Nat) (A : Around) (E : Value → Shared → Prop) (s : Shared) (Q : Bool → Shared → Prop), NestedIs s.heap k v → k.depth ≤ n → Q false s → wpAny (model P w) A (ofAClassStatement n v) Q E s
  | .none, _, n, A, E, s, Q, x, _, h => by
    cases x
    cases n <;> exact wpAny_pure h
  | .num i, _, n, A, E, s, Q, x, _, h => by
    cases x <;> cases n <;> exact wpAny_pure h
  | .text y, _, n, A, E, s, Q, x, _, h => by
    cases x
    cases n <;> exact wpAny_pure h
  | .tup ks, _, n, A, E, s, Q, x, hn, h => by
    cases x with
    | @tup a o vs _ _ hg hc hd hk =>
      simp only [NestedKey.depth] at hn
      cases n with
      | zero => omega
      | succ n =>
        unfold ofAClassStatement
        refine wpAny_bind (wpAny_typeOf (T := "tuple") ⟨o, hg, hc⟩ ?_)
        dsimp only
        have e : (("tuple" : String) == "tuple") = true := by decide
        simp only [e, if_true, Bool.not_true, Bool.false_eq_true, if_false]
        try refine wpAny_bind (wpAny_pure ?_)
        try simp only [Bool.not_true, Bool.false_eq_true, if_false]
        show wpAny _ _ (seqItems? (.ref a) >>= _) _ _ s
        refine wpAny_bind (wpAny_seqItems hg hd ?_)
        dsimp only
        refine wpAny_bind ?_
        show wpAny _ _ (forIn vs _ _) _ _ s
        rw [← Array.forIn_toList]
        refine wpAny_forIn_list _ (fun rest r s' => r.1 = none ∧ s' = s ∧ ∀ v ∈ rest, ∀ (A : Around) (E : Value → Shared → Prop) (Q : Bool → Shared → Prop), Q false s → wpAny (model P w) A (ofAClassStatement n v) Q E s) _ ?_ ?_ _ _ ⟨rfl, rfl, fun v hv A E Q => noClsAll ks vs.toList n hk (by omega) v hv A E Q⟩
        · rintro v rest r s' ⟨hr, rfl, hall⟩
          refine wpAny_bind (hall v List.mem_cons_self _ _ _ ?_)
          simp only [Bool.false_eq_true, if_false]
          exact wpAny_pure ⟨rfl, rfl, fun u hu' => hall u (List.mem_cons_of_mem _ hu')⟩
        · rintro ⟨r1, r2⟩ s' ⟨hr, rfl, _⟩
          simp only at hr
          subst hr
          exact wpAny_pure h
theorem noClsAll {s : Shared} : ∀ (ks : List Nk) (vs : List Value) (n : Nat), NestedAll s.heap ks vs → NestedKey.depthAll ks ≤ n → ∀ v ∈ vs, ∀ (A : Around) (E : Value → Shared → Prop) (Q : Bool → Shared → Prop), Q false s → wpAny (model P w) A (ofAClassStatement n v) Q E s
  | [], _, n, x, _, v, hv, A, E, Q, h => by cases x; cases hv
  | k :: ks, _, n, x, hn, v, hv, A, E, Q, h => by
    cases x with
    | cons x1 x2 =>
      simp only [NestedKey.depthAll] at hn
      rcases List.mem_cons.mp hv with e | hv
      · rw [e]; exact noCls k _ n A E s Q x1 (by omega) h
      · exact noClsAll ks _ n x2 (by omega) v hv A E Q h
end
mutual
theorem hashBy : ∀ (k : Nk) (v : Value) (n : Nat) (A : Around) (E : Value → Shared → Prop) (s : Shared) (Q : Bool → Shared → Prop), NestedIs s.heap k v → (∀ b, Q b s) → wpAny (model P w) A (hashByValue n v) Q E s
  | .none, _, n, A, E, s, Q, x, h => by
    cases x
    cases n <;> exact wpAny_pure (h _)
  | .num i, _, n, A, E, s, Q, x, h => by
    cases x <;> cases n <;> exact wpAny_pure (h _)
  | .text y, _, n, A, E, s, Q, x, h => by
    cases x
    cases n <;> exact wpAny_pure (h _)
  | .tup ks, _, n, A, E, s, Q, x, h => by
    cases x with
    | @tup a o vs _ _ hg hc hd hk =>
      cases n with
      | zero => exact wpAny_pure (h _)
      | succ n =>
        unfold hashByValue
        refine wpAny_bind (wpAny_specialOf (T := "tuple") ⟨o, hg, hc⟩ F.slot_tuple_hash.lookup ?_)
        show wpAny _ _ (seqItems? (.ref a) >>= _) _ _ s
        refine wpAny_bind (wpAny_seqItems hg hd ?_)
        refine wpAny_bind ?_
        show wpAny _ _ (forIn vs _ _) _ _ s
        rw [← Array.forIn_toList]
        refine wpAny_forIn_list _ (fun rest r s' => s' = s ∧ ∀ v ∈ rest, ∀ (A : Around) (E : Value → Shared → Prop) (Q : Bool → Shared → Prop), (∀ b, Q b s) → wpAny (model P w) A (hashByValue n v) Q E s) _ ?_ ?_ _ _ ⟨rfl, fun v hv A E Q => hashByAll ks vs.toList n hk v hv A E Q⟩
        · rintro v rest r s' ⟨rfl, hall⟩
          refine wpAny_bind (hall v List.mem_cons_self _ _ _ fun b => ?_)
          cases b with
          | true =>
            simp only [Bool.not_true, Bool.false_eq_true, if_false]
            exact wpAny_pure ⟨rfl, fun u hu' => hall u (List.mem_cons_of_mem _ hu')⟩
          | false =>
            simp only [Bool.not_false, if_true]
            refine wpAny_pure ?_
            dsimp only
            exact wpAny_pure (h _)
        · rintro ⟨r1, r2⟩ s' ⟨rfl, _⟩
          cases r1 <;> exact wpAny_pure (h _)
theorem hashByAll {s : Shared} : ∀ (ks : List Nk) (vs : List Value) (n : Nat), NestedAll s.heap ks vs → ∀ v ∈ vs, ∀ (A : Around) (E : Value → Shared → Prop) (Q : Bool → Shared → Prop), (∀ b, Q b s) → wpAny (model P w) A (hashByValue n v) Q E s
  | [], _, n, x, v, hv, A, E, Q, h => by cases x; cases hv
  | k :: ks, _, n, x, v, hv, A, E, Q, h => by
    cases x with
    | cons x1 x2 =>
      rcases List.mem_cons.mp hv with e | hv
      · rw [e]; exact hashBy k _ n A E s Q x1 h
      · exact hashByAll ks _ n x2 v hv A E Q h
end
/-- the search shows nothing -/
theorem unseen {k : Nk} {b : Addr} {Q : Bool → Shared → Prop} (hx : NestedIs s.heap k (.ref b)) (hd : k.depth ≤ 8) {ys : List Value} (hy : ∀ y ∈ ys, ∃ k' c, y = .ref c ∧ NestedIs s.heap k' (.ref c) ∧ k'.depth ≤ 8) (h : Q false s) :
    wpAny (model P w) A (searchCouldBeSeen (.ref b) ys) Q E s := by
  unfold searchCouldBeSeen
  refine wpAny_bind ?_
  refine wpAny_forIn_list _ (fun rest r s' => r.1 = none ∧ s' = s ∧ ∀ y ∈ rest, ∃ k' c, y = .ref c ∧ NestedIs s.heap k' (.ref c) ∧ k'.depth ≤ 8) _ ?_ ?_ _ _ ⟨rfl, rfl, hy⟩
  · rintro y rest r s' ⟨hr, rfl, hall⟩
    obtain ⟨k', c, rfl, hk, hd'⟩ := hall y List.mem_cons_self
    have rest' : ∀ y ∈ rest, ∃ k' c, y = .ref c ∧ NestedIs s'.heap k' (.ref c) ∧ k'.depth ≤ 8 := fun u hu' => hall u (List.mem_cons_of_mem _ hu')
    dsimp only
    by_cases hv : (b == c || (carriedByValue (.ref b) && carriedByValue (.ref c))) = true
    · refine wp_if_pos hv ?_
      exact wpAny_pure ⟨rfl, rfl, rest'⟩
    · refine wp_if_neg hv ?_
      refine wpAny_bind (quiet_key k _ 8 s' hx hd _ _ _ ?_)
      simp only [Bool.not_true, Bool.false_eq_true, if_false]
      refine wpAny_bind (quiet_key k' _ 8 s' hk hd' _ _ _ ?_)
      simp only [Bool.not_true, Bool.false_eq_true, if_false]
      refine wpAny_bind (noCls k _ 8 _ _ _ _ hx hd ?_)
      simp only [Bool.false_eq_true, if_false]
      refine wpAny_bind (noCls k' _ 8 _ _ _ _ hk hd' ?_)
      simp only [Bool.false_eq_true, if_false]
      exact wpAny_pure ⟨rfl, rfl, rest'⟩
  · rintro ⟨r1, r2⟩ s' ⟨hr, rfl, _⟩
    simp only at hr
    subst hr
    exact wpAny_pure h

/-! ### the search -/
theorem SetM.okT (R : SetM false P w s.heap a L es ep t) : TabOk t (L.map fun p => p.2.hash w) ∧ L.length * 5 < t.mask * 3 ∧ L.length < 64 := R.tab.resolve_left (by decide)
theorem SetM.isT (R : SetM false P w s.heap a L es ep t) {p : Value × Nk} (hp : p ∈ L) : ∃ b, p.1 = .ref b ∧ NestedIs s.heap p.2 (.ref b) ∧ p.2.depth ≤ 8 := by
  obtain ⟨h1, h2, h3⟩ := R.key p hp
  rw [if_neg (by decide)] at h3
  obtain ⟨b, e⟩ := h3
  exact ⟨b, e, by rw [← e]; exact h1, h2⟩
abbrev wy (t : SetTable) (h : Int) (c : Nat) : SetTable.Probe := nth t.mask (runAt t.mask (SetTable.bits h % (t.mask + 1)) (SetTable.bits h)) c
theorem seek_from (R : SetM false P w s.heap a L es ep t) {x : Addr} {k : Nk} (hx : NestedIs s.heap k (.ref x)) (hdx : k.depth ≤ 8) (hu : A.units + 8 < cLine) {K : Nat} (hKf : K < 10 * SetTable.turns t.mask)
    (hK : way t.mask (k.hash w) K ∉ t.place.toList) (hKb : ∀ c, c < K → way t.mask (k.hash w) c ∈ t.place.toList) {Q : SetFound → Shared → Prop}
    (hin : k ∈ L.map (·.2) → Q (.there none) s) (hout : k ∉ L.map (·.2) → Q (.free (way t.mask (k.hash w) K) false) s) :
    ∀ (f c : Nat) (stand : Option SetTable.Probe), stand.getD (t.probeStart (k.hash w)) = wy t (k.hash w) c → c ≤ K → K - c < f →
      (∀ (i : Nat) p, L[i]? = some p → p.2 = k → ∃ c', c ≤ c' ∧ c' < K ∧ t.place.toList[i]? = some (way t.mask (k.hash w) c')) →
      wpAny (model P w) A (setSearchFrom a (.ref x) (k.hash w) true f stand) Q E s
  | 0, c, stand, _, _, hf, _ => absurd hf (Nat.not_lt_zero _)
  | f + 1, c, stand, hst, hc, hf, hre => by
    obtain ⟨o, ho, hex, hd⟩ := R.n.ob
    obtain ⟨tb, room, few⟩ := R.okT
    have gw : ¬ t.gaveWay = true := by
      unfold SetTable.gaveWay
      rw [mask_odd tb.mok]
      decide
    rw [setSearchFrom_succ]
    refine wpAny_bind (wpAny_setState_of ho hd R.n.fit ?_)
    dsimp only
    refine wp_if_neg gw ?_
    try refine wpAny_bind (wpAny_pure ?_)
    have hnd : (wy t (k.hash w) c).dummy = none := by
      have key : ∀ (n : Nat) (p : SetTable.Probe), p.dummy = none → (nth t.mask p n).dummy = none := by
        intro n
        induction n with
        | zero => intro p h; exact h
        | succ n ih =>
          intro p h
          refine ih (adv t.mask p) ?_
          unfold adv
          split <;> exact h
      exact key c _ rfl
    have sh : ∀ q, nth t.mask (wy t (k.hash w) c) q = wy t (k.hash w) (c + q) := fun q => (nth_add t.mask c _ q).symm
    have e1 : ∀ q, (nth t.mask (wy t (k.hash w) c) q).j = way t.mask (k.hash w) (c + q) := fun q => congrArg SetTable.Probe.j (sh q)
    have spec := go_spec t tb.ris tb.dm (fun i => (es[i]?.map (·.1)).getD 0) (k.hash w) (10 * SetTable.turns t.mask) (K - c) _ hnd (by omega)
      (fun q hq => by rw [e1]; exact hKb (c + q) (by omega)) (by rw [e1, show c + (K - c) = K by omega]; exact hK)
    have hashAt : ∀ (i : Nat) p, L[i]? = some p → (fun i => (es[i]?.map (·.1)).getD 0) i = p.2.hash w := fun i p hp => by
      show (es[i]?.map (·.1)).getD 0 = _
      rw [R.n.entry hp]; rfl
    rcases spec with ⟨q, i, hq, hi, hh, hno, hpr⟩ | ⟨hno, hpr⟩
    · have hpr' : t.probe (fun i => (es[i]?.map (·.1)).getD 0) (k.hash w) (stand.getD (t.probeStart (k.hash w))) = some (.candidate (way t.mask (k.hash w) (c + q)) i (wy t (k.hash w) (c + (q + 1)))) := by
        rw [hst, ← e1, ← sh]
        exact hpr
      rw [hpr']
      dsimp only
      rw [e1] at hi
      have hil : i < L.length := by
        have h1 : i < t.place.toList.length := (List.getElem?_eq_some_iff.mp hi).1
        have h2 := tb.sz
        rw [List.length_map] at h2
        rw [Array.length_toList] at h1
        omega
      have hp : L[i]? = some L[i] := List.getElem?_eq_getElem hil
      generalize hpe : L[i] = p at hp
      have hmem : p ∈ L := List.mem_of_getElem? hp
      obtain ⟨pb, epb, hpt, hpd⟩ := R.isT hmem
      have rest : wpAny (model P w) A (searchRest a (.ref x) (k.hash w) true f es t (way t.mask (k.hash w) (c + q)) i (wy t (k.hash w) (c + (q + 1)))) Q E s := by
        unfold searchRest
        rw [R.n.entry hp]
        dsimp only
        rw [epb]
        refine wpAny_bind (wpAny_holding (eqAt_key p.2 k _ s _ _ hpt hx (by omega) _ _ _ _ ?_))
        refine wpAny_bind (wpAny_setState_of ho hd R.n.fit ?_)
        dsimp only
        rw [← NestedKey.decide_eq]
        by_cases hkk : p.2 = k
        · refine wp_if_pos (by simp [hkk]) ?_
          refine wpAny_pure (hin ?_)
          exact List.mem_map.mpr ⟨p, hmem, hkk⟩
        · refine wp_if_neg (by simp [hkk]) ?_
          try refine wpAny_bind (wpAny_pure ?_)
          rw [sameMem]
          dsimp only
          have hsl : t.slot (way t.mask (k.hash w) (c + q)) = .live i := slot_live tb.ris hi
          simp only [if_true, hsl, R.n.entry hp, epb]
          refine wpAny_bind (wpAny_isSame_ref_self (wpAny_bind (wpAny_pure ?_)))
          simp only [if_true]
          refine wp_if_neg (by simp [hkk]) ?_
          refine seek_from R hx hdx hu hKf hK hKb hin hout f (c + (q + 1)) _ rfl (by omega) (by omega) fun i0 p0 h0 hk0 => ?_
          obtain ⟨c', a1, a2, a3⟩ := hre i0 p0 h0 hk0
          refine ⟨c', ?_, a2, a3⟩
          rcases Nat.lt_or_ge c' (c + q) with z | z
          · exfalso
            refine hno (c' - c) i0 (by omega) (by rw [e1, show c + (c' - c) = c' by omega]; exact a3) ?_
            exact (hashAt i0 p0 h0).trans (congrArg (NestedKey.hash w) hk0)
          · rcases Nat.lt_or_ge (c + q) c' with y | y
            · omega
            · exfalso
              have ec : c' = c + q := Nat.le_antisymm y z
              rw [ec] at a3
              have s0 := slot_live tb.ris a3
              rw [hsl] at s0
              injection s0 with s0
              rw [← s0, hp] at h0
              exact hkk ((congrArg Prod.snd (Option.some.inj h0)).trans hk0)
      by_cases hl : t.led = true
      · refine wp_if_neg (by simp [hl]) ?_
        try refine wpAny_bind (wpAny_pure ?_)
        exact rest
      · refine wp_if_pos (by simp [hl]) ?_
        refine wpAny_bind (unseen hx hdx (fun y hy => ?_) ?_)
        · obtain ⟨e, he, ee⟩ := List.mem_map.mp hy
          have he1 : e ∈ es ∧ e.1 = k.hash w := by simpa using he
          have he2 : e ∈ es.toList := by simpa using he1.1
          rw [R.n.rows] at he2
          obtain ⟨p2, hp2, e2⟩ := List.mem_map.mp he2
          obtain ⟨b2, eb2, n2, d2⟩ := R.isT hp2
          refine ⟨p2.2, b2, ?_, n2, d2⟩
          rw [← ee, ← e2]
          exact eb2
        · refine wp_if_neg (by decide) ?_
          try refine wpAny_bind (wpAny_pure ?_)
          exact rest
    · have hpr' : t.probe (fun i => (es[i]?.map (·.1)).getD 0) (k.hash w) (stand.getD (t.probeStart (k.hash w))) = some (.empty (way t.mask (k.hash w) K) none) := by
        have e2 : way t.mask (k.hash w) K = (nth t.mask (wy t (k.hash w) c) (K - c)).j := by
          rw [e1, show c + (K - c) = K by omega]
        rw [hst, e2]
        exact hpr
      rw [hpr']
      dsimp only
      refine wpAny_pure (hout fun hm => ?_)
      obtain ⟨p0, h0, hk0⟩ := List.mem_map.mp hm
      obtain ⟨i0, hi0, e0⟩ := List.getElem_of_mem h0
      have h00 : L[i0]? = some p0 := by rw [List.getElem?_eq_getElem hi0, e0]
      obtain ⟨c', a1, a2, a3⟩ := hre i0 p0 h00 hk0
      refine hno (c' - c) i0 (by omega) (by rw [e1, show c + (c' - c) = c' by omega]; exact a3) ?_
      exact (hashAt i0 p0 h00).trans (congrArg (NestedKey.hash w) hk0)
theorem seek (R : SetM false P w s.heap a L es ep t) {x : Addr} {k : Nk} (hx : NestedIs s.heap k (.ref x)) (hdx : k.depth ≤ 8) (hu : A.units + 8 < cLine) {Q : SetFound → Shared → Prop}
    (hin : k ∈ L.map (·.2) → Q (.there none) s)
    (hout : ∀ K, k ∉ L.map (·.2) → way t.mask (k.hash w) K ∉ t.place.toList → (∀ c, c < K → way t.mask (k.hash w) c ∈ t.place.toList) → Q (.free (way t.mask (k.hash w) K) false) s) :
    wpAny (model P w) A (setSearch a (.ref x) (k.hash w) true) Q E s := by
  obtain ⟨tb, room, few⟩ := R.okT
  obtain ⟨K, hKf, hK, hKb⟩ := tb.first (by rw [List.length_map]; omega) (k.hash w)
  have hbig : K < 100000 := by
    have : 10 * SetTable.turns t.mask ≤ 1420 := by
      unfold SetTable.turns
      rcases tb.mok with e | e | e <;> omega
    omega
  unfold setSearch
  refine seek_from R hx hdx hu hKf hK hKb hin (fun hn => hout K hn hK hKb) 100000 0 none rfl (Nat.zero_le _) (by omega) fun i p hp hk => ?_
  have hi : (L.map fun p => p.2.hash w)[i]? = some (k.hash w) := by rw [List.getElem?_map, hp, ← hk]; rfl
  have hil : i < t.place.toList.length := by
    have h1 : i < L.length := (List.getElem?_eq_some_iff.mp hp).1
    have h2 := tb.sz
    rw [List.length_map] at h2
    rw [Array.length_toList]
    omega
  have hj := List.getElem?_eq_getElem hil
  obtain ⟨c, hc, e⟩ := tb.before hK hi hj
  exact ⟨c, Nat.zero_le _, hc, by rw [hj, e]⟩
end
end MS
/-! S3: adding by the table; set(xs) -/
namespace MS
open PySem PySem.Spec PyProof.Rows L2
section
variable {P : Program} {w : World} {A : Around} {E : Value → Shared → Prop} {s : Shared} {a : Addr} {L : KRow} {es : Array (Int × Value)} {ep : Nat} {t : SetTable}
theorem fit_of {hs : List Int} (T : TabOk t hs) (h1 : es.size = hs.length) (h2 : hs.length ≤ t.mask) : t.fits es.size = true := by
  have h3 := T.sz
  unfold SetTable.fits SetTable.fill
  rw [T.dm, Bool.and_eq_true, beq_iff_eq, decide_eq_true_eq]
  show t.place.size = es.size ∧ t.place.size + 0 ≤ t.mask
  omega
theorem order_k (L : KRow) (es : Array (Int × Value)) (order : Array Nat) (hr : es.toList = kRow w L) (hp : order.toList.Perm (List.range L.length)) :
    ∃ L2 : KRow, (order.filterMap (es[·]?)).toList = kRow w L2 ∧ L2.Perm L ∧ (L2.map fun p => p.2.hash w) = order.toList.map fun i => (es.map (·.1)).getD i 0 := by
  have hsz : es.size = L.length := by
    have h := congrArg List.length hr
    rw [Array.length_toList, kRow, List.length_map] at h
    exact h
  have ent : ∀ i (h : i < L.length), es[i]? = some ((L[i]).2.hash w, (L[i]).1) := fun i h => by
    rw [← Array.getElem?_toList, hr, kRow, List.getElem?_map, List.getElem?_eq_getElem h]; rfl
  have key : ∀ l : List Nat, (∀ i ∈ l, i < L.length) → ∃ L2 : KRow, l.filterMap (fun i => es[i]?) = kRow w L2 ∧ L2 = l.filterMap (fun i => L[i]?) ∧ (L2.map fun p => p.2.hash w) = l.map fun i => (es.map (·.1)).getD i 0 := by
    intro l
    induction l with
    | nil => intro _; exact ⟨[], rfl, rfl, rfl⟩
    | cons i l ih =>
      intro hl
      have hi := hl i List.mem_cons_self
      obtain ⟨L2, e1, e2, e3⟩ := ih fun j hj => hl j (List.mem_cons_of_mem _ hj)
      refine ⟨L[i] :: L2, ?_, ?_, ?_⟩
      · rw [List.filterMap_cons_some (ent i hi), e1]; rfl
      · rw [List.filterMap_cons_some (List.getElem?_eq_getElem hi), e2]
      · rw [List.map_cons, List.map_cons, e3]
        have e5 : (es.map (·.1))[i]? = some ((L[i]).2.hash w) := by rw [Array.getElem?_map, ent i hi]; rfl
        have e4 : (es.map (·.1)).getD i 0 = (L[i]).2.hash w := by
          simp [Array.getD_eq_getD_getElem?, e5]
        rw [e4]
  obtain ⟨L2, e1, e2, e3⟩ := key order.toList fun i hi => List.mem_range.mp (hp.mem_iff.mp hi)
  refine ⟨L2, by first | (rw [Array.toList_filterMap]; exact e1) | simpa using e1, ?_, e3⟩
  have h1 : L2.Perm ((List.range L.length).filterMap fun i => L[i]?) := by
    rw [e2]
    exact hp.filterMap _
  have h2 : ∀ n, n ≤ L.length → (List.range n).filterMap (fun i => L[i]?) = L.take n := by
    intro n
    induction n with
    | zero => intro _; rfl
    | succ n ih =>
      intro hn
      have hlt : n < L.length := hn
      rw [List.range_succ, List.filterMap_append, ih (Nat.le_of_lt hlt), List.take_succ, List.getElem?_eq_getElem hlt]
      rw [List.filterMap_cons_some (List.getElem?_eq_getElem hlt)]; rfl
  rw [h2 L.length (Nat.le_refl _), List.take_length] at h1
  exact h1

theorem relay_k {o : Obj} (ho : s.heap.get? a = some o) (hex : o.ExactSet) (hd : o.data = .set es ep t) (hrow : es.toList = kRow w L) (hsz : t.place.size = es.size) (hdm : t.dummies = #[]) (hfl : es.size ≤ t.mask)
    (nd : (L.map (·.2)).Nodup) (key : ∀ p ∈ L, KeyM false P w s.heap p.2 p.1) (ld : w.params.followText "set-order" = true ∨ t.led = true) (few : L.length < 64) {wanted M : Nat}
    (hw : SetTable.sizeAbove wanted - 1 = M) (hM : MaskOk M) (hw2 : SetTable.sizeAbove wanted ≤ 128) (hn : L.length * 5 < M * 3) {Q : Unit → Shared → Prop}
    (hQ : ∀ h' L' es' ep' t', Heap.SameBut a s.heap h' → SetM false P w h' a L' es' ep' t' → L'.Perm L → Q () { s with heap := h' }) : wpAny (model P w) A (setRelay a wanted) Q E s := by
  have hsl : es.size = L.length := by
    have h := congrArg List.length hrow
    rw [Array.length_toList, kRow, List.length_map] at h
    exact h
  have hfits : t.fits es.size = true := by
    unfold SetTable.fits SetTable.fill
    rw [hdm, Bool.and_eq_true, beq_iff_eq, decide_eq_true_eq]
    show t.place.size = es.size ∧ t.place.size + 0 ≤ t.mask
    omega
  obtain ⟨t', order, e, hp, T, em, el, ep', ed⟩ := relaid_ok t (hs := es.map (·.1)) (wanted := wanted) hw hM (by rw [Array.size_map, hsl]; omega)
  rw [Array.size_map, hsl] at hp
  obtain ⟨L2, r1, r2, r3⟩ := order_k L es order hrow hp
  rw [← r3] at T
  have hs2 : (order.filterMap (es[·]?)).size = es.size := by
    have h := congrArg List.length r1
    rw [Array.length_toList, kRow, List.length_map, r2.length_eq] at h
    rw [h, hsl]
  rw [setRelay_eq]
  refine wpAny_bind (wpAny_setState_of ho hd hfits ?_)
  dsimp only
  refine wp_if_neg (by rw [sizeLine_eq]; omega) ?_
  try refine wpAny_bind (wpAny_pure ?_)
  rw [e]
  dsimp only
  refine wpAny_bind ?_
  refine wp_if_neg (by rw [hs2]; simp) ?_
  try refine wpAny_bind (wpAny_pure ?_)
  refine wpAny_pure ?_
  dsimp only
  refine wpAny_storeSet_of ho hd ?_ (by rw [hs2, hsl, sizeLine_eq]; omega)
  have sb : Heap.SameBut a s.heap (s.heap.update a (Obj.putSet (order.filterMap (es[·]?)) t')) := Heap.SameBut.update ..
  have hls : (order.filterMap (es[·]?)).size = (L2.map fun p => p.2.hash w).length := by rw [List.length_map, r2.length_eq, hs2, hsl]
  have hll : (L2.map fun p => p.2.hash w).length ≤ t'.mask := by rw [List.length_map, r2.length_eq, em]; omega
  refine hQ _ L2 (order.filterMap (es[·]?)) (ep + 1) t' sb ⟨⟨⟨_, store_at ho hd, ⟨hex.1, hex.2.1, hex.2.2⟩, rfl⟩, r1, (r2.map (·.2)).nodup_iff.mpr nd, fit_of T hls hll, T.ris, by rw [el]; exact ld, by rw [r2.length_eq]; unfold scanBound; omega⟩, fun p hpm => (key p (r2.mem_iff.mp hpm)).same ho hd sb, .inr ⟨T, ?_, ?_⟩⟩ r2
  · rw [r2.length_eq, em]; exact hn
  · rw [r2.length_eq]; exact few

theorem tab_add {x : Value} {k : Nk} (R : SetM false P w s.heap a L es ep t) (hx : KeyM false P w s.heap k x) (hu : A.units + 8 < cLine) (hfew : L.length + 1 < 64) {Q : Bool → Shared → Prop}
    (hQ : ∀ b h', Added false P w a s.heap L x k h' → Q b { s with heap := h' }) : wpAny (model P w) A (setAddHashed a x (k.hash w)) Q E s := by
  have hxm := hx
  obtain ⟨hx1, hx2, hx3⟩ := hx
  rw [if_neg (by decide)] at hx3
  obtain ⟨xb, rfl⟩ := hx3
  obtain ⟨o, ho, hex, hd⟩ := R.n.ob
  obtain ⟨tb, hroom, _⟩ := R.okT
  have hsl := R.n.size
  unfold setAddHashed
  refine wpAny_holding ?_
  rw [show (100000 : Nat) = 99999 + 1 from rfl, setAddHashedIn_succ]
  refine wpAny_bind (wpAny_setState_of ho hd R.n.fit ?_)
  dsimp only
  refine wp_if_neg (by simp [byScan, Value.scannable]) ?_
  try refine wpAny_bind (wpAny_pure ?_)
  refine wpAny_bind (seek R hx1 hx2 hu (fun hm => ?_) fun K hm hK hb => ?_)
  · dsimp only
    exact wpAny_pure (hQ false s.heap ⟨L, es, ep, t, Heap.SameBut.refl a s.heap, R, fun _ => rfl, fun z => absurd hm z⟩)
  · dsimp only
    refine wpAny_bind (wpAny_setState_of ho hd R.n.fit ?_)
    dsimp only
    obtain ⟨q1, q2, q3, q4, q5, q6, q7, q8, q9⟩ := tb.put hK hb
    generalize hpt : t.put (way t.mask (k.hash w) K) = pt at q1 q3 q4 q5 q6 q7 q8 q9 ⊢
    obtain ⟨t1, p⟩ := pt
    dsimp only at q1 q3 q4 q5 q6 q7 q8 q9 ⊢
    subst q1
    have hin : (SetTable.insertAt es (SetTable.below t.place (way t.mask (k.hash w) K)) (k.hash w, Value.ref xb)).toList = kRow w (L.take (SetTable.below t.place (way t.mask (k.hash w) K)) ++ (Value.ref xb, k) :: L.drop (SetTable.below t.place (way t.mask (k.hash w) K))) := by
      rw [SetTable.toList_insertAt, R.n.rows]
      unfold kRow
      rw [List.map_append, List.map_cons, List.map_take, List.map_drop]
    generalize hpp : SetTable.below t.place (way t.mask (k.hash w) K) = p at q2 q3 hin ⊢
    have pm : (L.take p ++ (Value.ref xb, k) :: L.drop p).Perm ((Value.ref xb, k) :: L) := put_perm L p (Value.ref xb, k)
    have hlen : (L.take p ++ (Value.ref xb, k) :: L.drop p).length = L.length + 1 := pm.length_eq
    have hhs : (L.take p ++ (Value.ref xb, k) :: L.drop p).map (fun p => p.2.hash w) = (L.map fun p => p.2.hash w).take p ++ k.hash w :: (L.map fun p => p.2.hash w).drop p := by
      rw [List.map_append, List.map_cons, List.map_take, List.map_drop]
    rw [← hhs] at q3
    have nd1 : ((L.take p ++ (Value.ref xb, k) :: L.drop p).map (·.2)).Nodup := by
      refine (pm.map (·.2)).nodup_iff.mpr ?_
      rw [List.map_cons]
      exact List.nodup_cons.mpr ⟨hm, R.n.nd⟩
    have hes : (SetTable.insertAt es p (k.hash w, Value.ref xb)).size = L.length + 1 := by
      have h := congrArg List.length hin
      rw [Array.length_toList, kRow, List.length_map, hlen] at h
      exact h
    generalize SetTable.insertAt es p (k.hash w, Value.ref xb) = es1 at hin hes ⊢
    generalize L.take p ++ (Value.ref xb, k) :: L.drop p = L1 at pm hlen q3 nd1 hin
    have tail : ∀ (tp : SetTable), TabOk tp (L1.map fun p => p.2.hash w) → tp.mask = t.mask → (w.params.followText "set-order" = true ∨ tp.led = true) → tp.tooFull = t1.tooFull →
        wpAny (model P w) A (do
          storeSet a es1 tp
          if (!false && tp.tooFull) = true then setRelay a (SetTable.grown (es.size + 1))
          return true) Q E s := fun tp q3 qm ld1 qf => by
      refine wpAny_bind (wpAny_storeSet_of ho hd ?_ (by rw [hes, sizeLine_eq]; omega))
      have sb : Heap.SameBut a s.heap (s.heap.update a (Obj.putSet es1 tp)) := Heap.SameBut.update ..
      have ho1 := store_at (es' := es1) (t' := tp) ho hd
      have key0 : ∀ p ∈ L1, KeyM false P w s.heap p.2 p.1 := fun p hp => by
        rcases List.mem_cons.mp (pm.mem_iff.mp hp) with e | hp
        · rw [e]; exact hxm
        · exact R.key p hp
      have key1 : ∀ p ∈ L1, KeyM false P w (s.heap.update a (Obj.putSet es1 tp)) p.2 p.1 := fun p hp => (key0 p hp).same ho hd sb
      generalize s.heap.update a (Obj.putSet es1 tp) = h1 at sb ho1 key1 ⊢
      have hfd : tp.tooFull = decide ((L.length + 1) * 5 ≥ tp.mask * 3) := by
        rw [qf]
        unfold SetTable.tooFull
        rw [q9, List.length_map, q4, qm]
      by_cases hf : tp.tooFull = true
      · have hfull : (L.length + 1) * 5 ≥ tp.mask * 3 := by rw [hfd] at hf; exact of_decide_eq_true hf
        first
          | (refine wpAny_bind ?_; refine wp_if_pos (by simp [hf]) ?_)
          | (refine wp_if_pos (by simp [hf]) ?_; refine wpAny_bind ?_)
        rw [hsl]
        have hsz1 : tp.place.size = es1.size := by
          have h := q3.sz
          rw [List.length_map, hlen] at h
          rw [h, hes]
        have cases2 : (t.mask = 7 ∧ L.length = 4) ∨ (t.mask = 31 ∧ L.length = 18) := by
          rcases tb.mok with e | e | e
          · left; rw [qm, e] at hfull; rw [e] at hroom; exact ⟨e, by omega⟩
          · right; rw [qm, e] at hfull; rw [e] at hroom; exact ⟨e, by omega⟩
          · exfalso; rw [qm, e] at hfull; omega
        have go : ∀ M, SetTable.sizeAbove (SetTable.grown (L.length + 1)) - 1 = M → MaskOk M → SetTable.sizeAbove (SetTable.grown (L.length + 1)) ≤ 128 → (L.length + 1) * 5 < M * 3 →
            wpAny (model P w) A (setRelay a (SetTable.grown (L.length + 1))) (fun _ s' => wpAny (model P w) A (pure true) Q E s') E { s with heap := h1 } := fun M h1' h2' h3' h4' => by
          refine relay_k (s := { s with heap := h1 }) ho1 ⟨hex.1, hex.2.1, hex.2.2⟩ rfl hin hsz1 q3.dm (by rw [hes, qm]; rcases cases2 with ⟨e, e2⟩ | ⟨e, e2⟩ <;> omega) nd1 key1 ld1 (by rw [hlen]; exact hfew) h1' h2' h3' (by rw [hlen]; exact h4') ?_
          intro h2 L2 es2 ep2 t2 sb2 R2 pm2
          exact wpAny_pure (hQ true h2 ⟨L2, es2, ep2, t2, sb.trans sb2, R2, fun z => absurd z hm, fun _ => pm2.trans pm⟩)
        rcases cases2 with ⟨_, e2⟩ | ⟨_, e2⟩
        · refine go 31 (by rw [e2, size_20]) (.inr (.inl rfl)) (by rw [e2, size_20]; decide) (by omega)
        · refine go 127 (by rw [e2, size_76]) (.inr (.inr rfl)) (by rw [e2, size_76]; decide) (by omega)
      · have hf' : ¬ ((L.length + 1) * 5 ≥ tp.mask * 3) := fun z => hf (by rw [hfd]; exact decide_eq_true z)
        first
          | refine wp_if_neg (by simp [hf]) ?_
          | (refine wpAny_bind ?_; refine wp_if_neg (by simp [hf]) ?_; refine wpAny_pure ?_)
        have hle : es1.size = (L1.map fun p => p.2.hash w).length := by rw [List.length_map, hlen, hes]
        have hlm : (L1.map fun p => p.2.hash w).length ≤ tp.mask := by rw [List.length_map, hlen]; omega
        exact wpAny_pure (hQ true h1 ⟨L1, es1, ep + 1, tp, sb, ⟨⟨⟨_, ho1, ⟨hex.1, hex.2.1, hex.2.2⟩, rfl⟩, hin, nd1, fit_of q3 hle hlm, q3.ris, ld1, by rw [hlen]; unfold scanBound; omega⟩, key1, .inr ⟨q3, by rw [hlen]; omega, by rw [hlen]; exact hfew⟩⟩, fun z => absurd z hm, fun _ => pm⟩)
    have ld1 : w.params.followText "set-order" = true ∨ t1.led = true := by rw [q5]; exact R.n.led
    have off : TabOk { t1 with plain := false } (L1.map fun p => p.2.hash w) := by
      obtain ⟨c1, c2, c3, c4, c5, c6⟩ := q3
      exact ⟨c1, c2, c3, c4, c5, c6⟩
    have both : ∀ b : Bool, wpAny (model P w) A (do
          storeSet a es1 (if b = true then t1 else { t1 with plain := false })
          if (!false && (if b = true then t1 else { t1 with plain := false }).tooFull) = true then setRelay a (SetTable.grown (es.size + 1))
          return true) Q E s := fun b => by
      cases b with
      | true => exact tail t1 q3 q4 ld1 rfl
      | false => exact tail { t1 with plain := false } off q4 ld1 rfl
    by_cases hpl : t1.plain = true
    · first
        | (refine wpAny_bind ?_; refine wp_if_pos hpl ?_; refine hashBy k _ 8 _ _ _ _ hx1 fun b => ?_)
        | refine wp_if_pos hpl (wpAny_bind (hashBy k _ 8 _ _ _ _ hx1 fun b => ?_))
      exact both b
    · first
        | (refine wpAny_bind ?_; refine wp_if_neg hpl ?_; refine wpAny_pure ?_)
        | refine wp_if_neg hpl (wpAny_bind (wpAny_pure ?_))
      exact both true
theorem add_m {m : Bool} {x : Value} {k : Nk} (R : SetM m P w s.heap a L es ep t) (hx : KeyM m P w s.heap k x) (hu : A.units + 8 < cLine) (hfew : L.length < capM m) {Q : Bool → Shared → Prop}
    (hQ : ∀ b h', Added m P w a s.heap L x k h' → Q b { s with heap := h' }) : wpAny (model P w) A (setAddHashed a x (k.hash w)) Q E s := by
  cases m with
  | true => exact scan_add R hx (by unfold capM at hfew; rw [if_pos rfl] at hfew; unfold scanBound; omega) hQ
  | false => exact tab_add R hx hu (by unfold capM at hfew; rw [if_neg (by decide)] at hfew; omega) hQ
end
end MS
/-! S4: set(xs), xs a list or a tuple of keys -/
namespace MS
open PySem PySem.Spec PyProof.Rows L2
/-- what the set has got from the first i members -/
structure GotN (ks : KRow) (i : Nat) (L : KRow) : Prop where
  sub : ∀ p ∈ L, p ∈ ks.take i
  all : ∀ p ∈ ks.take i, p.2 ∈ L.map (·.2)
  len : L.length ≤ i
theorem GotN.zero (ks : KRow) : GotN ks 0 [] := ⟨fun p h => (by cases h), fun p h => (by simp at h), Nat.le_refl _⟩
theorem GotN.same {ks L : KRow} {i : Nat} {x : Value × Nk} (g : GotN ks i L) (h : ks[i]? = some x) (hm : x.2 ∈ L.map (·.2)) : GotN ks (i + 1) L := by
  refine ⟨fun p hp => ?_, fun p hp => ?_, Nat.le_succ_of_le g.len⟩
  · rw [take_next h]
    exact List.mem_append_left _ (g.sub p hp)
  · rw [take_next h] at hp
    rcases List.mem_append.mp hp with z | z
    · exact g.all p z
    · rw [List.mem_singleton.mp z]; exact hm
theorem GotN.more {ks L L' : KRow} {i : Nat} {x : Value × Nk} (g : GotN ks i L) (h : ks[i]? = some x) (pm : L'.Perm (x :: L)) : GotN ks (i + 1) L' := by
  refine ⟨fun p hp => ?_, fun p hp => ?_, ?_⟩
  · rw [take_next h]
    rcases List.mem_cons.mp (pm.mem_iff.mp hp) with e | z
    · rw [e]; exact List.mem_append_right _ (List.mem_singleton.mpr rfl)
    · exact List.mem_append_left _ (g.sub p z)
  · rw [(pm.map (·.2)).mem_iff, List.map_cons]
    rw [take_next h] at hp
    rcases List.mem_append.mp hp with z | z
    · exact List.mem_cons_of_mem _ (g.all p z)
    · rw [List.mem_singleton.mp z]; exact List.mem_cons_self
  · rw [pm.length_eq, List.length_cons]
    exact Nat.succ_le_succ g.len
section
variable {m : Bool} {P : Program} {w : World} {A : Around} {E : Value → Shared → Prop} {s : Shared}
theorem setM_fresh {h : Heap} {a : Addr} (ho : h.get? a = some { cls := .type "set", dict := none, data := .set #[] 0 (.fresh 0 0 (!w.params.followText "set-order")) }) : SetM m P w h a [] #[] 0 (.fresh 0 0 (!w.params.followText "set-order")) where
  n := ⟨⟨_, ho, ⟨rfl, rfl, rfl⟩, rfl⟩, rfl, List.nodup_nil, rfl, List.Pairwise.nil, by
    show _ ∨ (!w.params.followText "set-order") = true
    cases w.params.followText "set-order"
    · exact .inr rfl
    · exact .inl rfl, by unfold scanBound; exact Nat.zero_lt_of_lt (by decide : 0 < 4096)⟩
  key := fun p hp => (by cases hp)
  tab := .inr ⟨⟨List.Pairwise.nil, rfl, rfl, .inl rfl, fun x hx => (by cases hx), fun i h j hi => (by simp at hi)⟩, (by show 0 * 5 < 7 * 3; decide), (by show 0 < 64; decide)⟩
theorem set_update_m {I : Addr} {fp wr : List Addr} {G : Array GenState → Array GenState → Prop} {n : Nat} {Pv : Nat → Value → Prop} {St : Nat → Shared → Prop} {R : Result → Shared → Prop}
    (W : WalksS P w A.in1 I fp wr G n Pv St) (S : Addr) (hSf : S ∉ fp) (ks : KRow) (hn : n = ks.length) (hfew : ks.length ≤ capM m) (hval : ∀ i v, Pv i v → ∃ p, ks[i]? = some p ∧ v = p.1)
    (h0 : Heap) (hk : ∀ p ∈ ks, KeyM m P w h0 p.2 p.1) (hS0 : h0.get? S = none) (hw0 : ∀ b ∈ wr, h0.get? b = none) (hu : A.in1.units + 8 < cLine) :
    ∀ (k i : Nat) (s : Shared), n - i = k → i ≤ n → St i s → (∀ b o, h0.get? b = some o → s.heap.get? b = some o) → (∃ L es ep t, SetM m P w s.heap S L es ep t ∧ GotN ks i L) →
      (∀ s' L es ep t, Moved (S :: wr) G s s' → SetM m P w s'.heap S L es ep t → GotN ks n L → (∀ b o, h0.get? b = some o → s'.heap.get? b = some o) → R (.ok (.ret .none)) s') →
      codeAny (model P w) A (.builtin "set.update.loop" ⟨[.ref S, .ref I], []⟩) R s := by
  have hSw : S ∉ wr := fun h => hSf (W.sub _ h)
  have hsub : ∀ b ∈ wr, b ∈ S :: wr := fun b hb => List.mem_cons_of_mem _ hb
  have keepM : ∀ {s s' : Shared}, Moved wr G s s' → (∀ b o, h0.get? b = some o → s.heap.get? b = some o) → ∀ b o, h0.get? b = some o → s'.heap.get? b = some o := fun hm hkp b o e =>
    hm.heap b o (fun hb => by rw [hw0 b hb] at e; cases e) (hkp b o e)
  intro k
  induction k with
  | zero =>
    intro i s hk' hi hst hkp ⟨L, es, ep, t, hS, g⟩ hR
    have hin : i = n := by omega
    subst hin
    refine codeAny_builtin F.entry_set_update_loop ?_
    rw [Around.under_plainId F.plain_set_update_loop _]
    show wpAny _ A.in1 (pyNext (.ref I) >>= _) _ _ s
    refine wpAny_bind (W.done s _ _ hst fun s' hm => ?_)
    show wpAny _ A.in1 (ret Value.none) _ _ s'
    have hkp' := keepM hm hkp
    have sub : ∀ p ∈ L, p ∈ ks := fun p hp => List.mem_of_mem_take (g.sub p hp)
    exact wpAny_pure (hR s' L es ep t (hm.mono hsub) (hS.keep (fun o e => hm.heap S o hSw e) fun p hp => (hk p (sub p hp)).keep hkp') g hkp')
  | succ k ih =>
    intro i s hk' hi hst hkp ⟨L, es, ep, t, hS, g⟩ hR
    have hlt : i < n := by omega
    refine codeAny_builtin F.entry_set_update_loop ?_
    rw [Around.under_plainId F.plain_set_update_loop _]
    show wpAny _ A.in1 (pyNext (.ref I) >>= _) _ _ s
    refine wpAny_bind (W.item i s _ _ hlt hst fun v s' hP hst' hm => ?_)
    obtain ⟨p, hp, rfl⟩ := hval i v hP
    have hkp' := keepM hm hkp
    have sub : ∀ p ∈ L, p ∈ ks := fun p hp => List.mem_of_mem_take (g.sub p hp)
    have hS' : SetM m P w s'.heap S L es ep t := hS.keep (fun o e => hm.heap S o hSw e) fun q hq => (hk q (sub q hq)).keep hkp'
    have hx : KeyM m P w s'.heap p.2 p.1 := (hk p (List.mem_of_getElem? hp)).keep hkp'
    show wpAny _ A.in1 (holding [p.1] (setAdd S p.1) >>= _) _ _ s'
    refine wpAny_bind (wpAny_holding ?_)
    unfold setAdd
    refine wpAny_holding ?_
    refine wpAny_bind (pyHash_key p.2 p.1 _ _ _ hx.1 (by have := hx.2.1; omega) ?_)
    refine add_m (s := { s' with toks := s'.toks + p.2.draws }) hS' hx hu (by have := g.len; omega) fun b h' hadd => ?_
    obtain ⟨L', es', ep', t', hsb, hS2, c1, c2⟩ := hadd
    have g' : GotN ks (i + 1) L' := by
      rcases Classical.em (p.2 ∈ L.map (·.2)) with c | c
      · rw [c1 c]; exact g.same hp c
      · exact g.more hp (c2 c)
    have hkp2 : ∀ b o, h0.get? b = some o → h'.get? b = some o := fun b o e => (hsb.2 b (fun z => by rw [z, hS0] at e; cases e)).trans (hkp' b o e)
    refine wpAny_pure ⟨plainId_quiet F.plain_set_update_loop _, ih (i + 1) _ (by omega) hlt (W.frame _ s' _ _ hst' (Nat.le_add_right _ _) fun b hb o e => ?_) hkp2 ⟨L', es', ep', t', hS2, g'⟩ fun s'' L2 es2 ep2 t2 hm'' hS'' g'' hkp'' => ?_⟩
    · rw [hsb.2 b (fun h : b = S => hSf (by rw [← h]; exact hb))]; exact e
    · refine hR s'' L2 es2 ep2 t2 (Moved.trans W.gtrans ((hm.mono hsub).then_heap (Nat.le_add_right _ _) fun b o hb e => ?_) hm'') hS'' g'' hkp''
      rw [hsb.2 b (fun h : b = S => hb (by rw [h]; exact List.mem_cons_self))]; exact e

theorem none_ge {h : Heap} {b : Addr} (hb : h.objs.size ≤ b) : h.get? b = none := by
  cases q : h.get? b with
  | none => rfl
  | some o => exact absurd (Nat.lt_of_lt_of_le (Heap.lt_size q) hb) (Nat.lt_irrefl _)
/-- set(xs) -/
theorem call_set_m {l : Addr} {items : Array Value} (ks : KRow) {Q : Value → Shared → Prop} (hh : A.handled = none) (hl : s.heap.IsList l items ∨ s.heap.IsTuple l items) (hit : items.toList = ks.map (·.1))
    (hk : ∀ p ∈ ks, KeyM m P w s.heap p.2 p.1) (hfew : ks.length ≤ capM m) (hu : A.units + 16 < cLine)
    (h : ∀ (h' : Heap) (tk : Nat) L es ep t, SetM m P w h' s.heap.objs.size L es ep t → GotN ks ks.length L → (∀ b o, s.heap.get? b = some o → h'.get? b = some o) → Q (.ref s.heap.objs.size) { s with heap := h', toks := tk }) :
    wpAny (model P w) A (call (.type "set") [.ref l]) Q E s := by
  have hisz : items.size = ks.length := by
    have q := congrArg List.length hit
    rw [Array.length_toList, List.length_map] at q
    exact q
  obtain ⟨c, tl, hmro⟩ := F.called_set.mro
  have hmade := F.called_set.made
  have hsub := F.called_set.sub
  refine wpAny_call (codeAny_of_tree ?_)
  show wpAny _ _ (callAny (.type "set") _) _ _ _
  refine wpAny_pure ⟨Code.quiet_builtin _ (by decide +kernel), codeAny_builtin F.entry_type_call ?_⟩
  rw [Around.under_plain (weight_type_call_type "set" [.ref l] []) rfl]
  have h1 := F.called_set.notType
  have h2 := F.called_set.canCreate
  have hct := F.typeCall_set_1 (.ref l)
  repeat (any_goals (first | assumption | wp_step))

  refine codeAny_mono (code_set_led1 (.ref l) (E := E) (Q₁ := fun obj s₁ => obj = .ref s.heap.objs.size ∧ s₁ = { s with heap := s.heap.push { cls := .type "set", dict := none, data := .set #[] 0 (.fresh 0 0 (!w.params.followText "set-order")) } }) ⟨rfl, rfl⟩) fun r s₁ hr => ?_
  cases r with
  | error e => exact hr
  | ok fl =>
    cases fl with
    | ret obj =>
      obtain ⟨rfl, rfl⟩ := hr
      have hS : (s.heap.push { cls := .type "set", dict := none, data := .set #[] 0 (.fresh 0 0 (!w.params.followText "set-order")) }).get? s.heap.objs.size = some { cls := .type "set", dict := none, data := .set #[] 0 (.fresh 0 0 (!w.params.followText "set-order")) } := Heap.get?_push_size _ rfl
      have hT : Shared.TypeIs { s with heap := s.heap.push { cls := .type "set", dict := none, data := .set #[] 0 (.fresh 0 0 (!w.params.followText "set-order")) } } (.ref s.heap.objs.size) "set" := ⟨_, hS, rfl⟩
      have hli := F.called_set.init.lookup
      have hbi := F.called_set.init.bind (.ref s.heap.objs.size)
      repeat (any_goals (first | assumption | wp_step))

      refine codeAny_mono (codeAny_call_builtin (R := wants (fun r s₂ => r = .none ∧ ∃ h' tk L es ep t, s₂ = { s with heap := h', toks := tk } ∧ SetM m P w h' s.heap.objs.size L es ep t ∧ GotN ks ks.length L ∧
          (∀ b o, s.heap.get? b = some o → h'.get? b = some o)) E) F.called_set.init.plain F.entry_set_init (check_set_init_1 hT ?_)) fun r₂ s₂ hr₂ => ?_
      · have hval : ∀ (i : Nat) (v : Value), items[i]? = some v → ∃ p, ks[i]? = some p ∧ v = p.1 := fun i v hv => by
          have q : items.toList[i]? = some v := by rw [Array.getElem?_toList]; exact hv
          rw [hit, List.getElem?_map] at q
          cases hq : ks[i]? with
          | none => rw [hq] at q; cases q
          | some p =>
            rw [hq] at q
            exact ⟨p, rfl, (Option.some.inj q).symm⟩
        have hh3 : A.in1.in1.in1.handled = none := by simp [hh]
        have hz1 : (s.heap.push { cls := .type "set", dict := none, data := .set #[] 0 (.fresh 0 0 (!w.params.followText "set-order")) }).objs.size = s.heap.objs.size + 1 := Heap.size_push ..
        have hlS : l < s.heap.objs.size := by
          rcases hl with hl | hl
          · obtain ⟨ol, hol, _⟩ := hl; exact Heap.lt_size hol
          · obtain ⟨ol, hol, _⟩ := hl; exact Heap.lt_size hol
        have hneI : l ≠ (s.heap.push { cls := .type "set", dict := none, data := .set #[] 0 (.fresh 0 0 (!w.params.followText "set-order")) }).objs.size := by
          rw [Heap.size_push]; exact Nat.ne_of_lt (Nat.lt_succ_of_lt hlS)
        have hSf : s.heap.objs.size ∉ [(s.heap.push { cls := .type "set", dict := none, data := .set #[] 0 (.fresh 0 0 (!w.params.followText "set-order")) }).objs.size, l] := by
          rw [Heap.size_push]; simp only [List.mem_cons, List.mem_singleton, List.not_mem_nil, or_false, not_or]
          exact ⟨Nat.ne_of_lt (Nat.lt_succ_self _), Nat.ne_of_gt hlS⟩
        have fin : ∀ (s' : Shared) L es ep t (h1 : Heap) (tk1 : Nat), Moved [s.heap.objs.size, (s.heap.push { cls := .type "set", dict := none, data := .set #[] 0 (.fresh 0 0 (!w.params.followText "set-order")) }).objs.size] (fun a b => b = a) { s with heap := h1, toks := tk1 } s' → SetM m P w s'.heap s.heap.objs.size L es ep t → GotN ks items.size L → (∀ b o, s.heap.get? b = some o → s'.heap.get? b = some o) →
            (Value.none = Value.none ∧ ∃ h' tk L es ep t, s' = { s with heap := h', toks := tk } ∧ SetM m P w h' s.heap.objs.size L es ep t ∧ GotN ks ks.length L ∧ (∀ b o, s.heap.get? b = some o → h'.get? b = some o)) := by
          intro s' L es ep t h1 tk1 hm hS' g' hkp
          obtain ⟨h', g2, d', tk', os'⟩ := s'
          have eg : g2 = s.gens := hm.gens
          have ed : d' = s.drawn := hm.drawn
          have eo : os' = s.os := hm.os
          subst eg; subst ed; subst eo
          rw [hisz] at g'
          exact ⟨rfl, h', tk', L, es, ep, t, rfl, hS', g', hkp⟩
        rcases hl with hl | hl
        · obtain ⟨ol, hol, hcl, nl, hdl⟩ := hl
          obtain ⟨ocls, odict, odata, oslots⟩ := ol
          simp only at hcl hdl
          subst hcl; subst hdl
          have hol' : (s.heap.push { cls := .type "set", dict := none, data := .set #[] 0 (.fresh 0 0 (!w.params.followText "set-order")) }).get? l = some { cls := .type "list", dict := odict, data := .seq items nl, slots := oslots } := Heap.get?_push_of_some _ hol
          have hsls := F.sub_list_set
          have hslf := F.sub_list_frozenset
          have hne : (Value.type "list" == Value.type "dict") = false := by decide
          have hl1 : (s.heap.push { cls := .type "set", dict := none, data := .set #[] 0 (.fresh 0 0 (!w.params.followText "set-order")) }).IsList l items := ⟨_, hol', rfl, nl, rfl⟩
          unfold Builtin.«set.__init__» noKeywords Builtin.Frozenset.updateFrom
          generalize hPI : pyIter = PI
          wp_walk
          subst hPI
          refine wpAny_pyIter_list hl1 ?_
          refine wpAny_bind (wpAny_runValue ?_)
          refine set_update_m ((Walks.list hh3 _ l hneI items).toS) s.heap.objs.size
            hSf ks hisz hfew hval s.heap hk (none_ge (Nat.le_refl _)) (fun b hb => none_ge (by
              rw [List.mem_singleton.mp hb, Heap.size_push]
              exact Nat.le_succ _)) (by simp only [Around.in1]; omega) (items.size - 0) 0 _ (by omega) (Nat.zero_le _)
            ⟨⟨_, Heap.get?_push_size _ rfl, rfl, rfl⟩, (hl1.push _)⟩ (fun b o e => Heap.get?_push_of_some _ (Heap.get?_push_of_some _ e)) ?hS0 ?hR
          case hS0 =>
            have hget : ((s.heap.push { cls := .type "set", dict := none, data := .set #[] 0 (.fresh 0 0 (!w.params.followText "set-order")) }).push { cls := .type "list_iterator", data := .fields #[.ref l, .int 0 0] }).get? s.heap.objs.size
                = some { cls := .type "set", dict := none, data := .set #[] 0 (.fresh 0 0 (!w.params.followText "set-order")) } := Heap.get?_push_of_some _ hS
            exact ⟨[], #[], 0, _, setM_fresh hget, GotN.zero ks⟩
          case hR =>
            intro s' L es ep t hm hS' g' hkp
            show wpAny _ _ _ _ _ _
            refine wpAny_pure ?_
            show wpAny _ _ (ret Value.none) _ _ _
            exact wpAny_pure (fin s' L es ep t _ _ hm hS' g' hkp)
        · obtain ⟨ol, hol, hcl, nl, hdl⟩ := hl
          obtain ⟨ocls, odict, odata, oslots⟩ := ol
          simp only at hcl hdl
          subst hcl; subst hdl
          have hol' : (s.heap.push { cls := .type "set", dict := none, data := .set #[] 0 (.fresh 0 0 (!w.params.followText "set-order")) }).get? l = some { cls := .type "tuple", dict := odict, data := .seq items nl, slots := oslots } := Heap.get?_push_of_some _ hol
          have hsls := F.sub_tuple_set
          have hslf := F.sub_tuple_frozenset
          have hne : (Value.type "tuple" == Value.type "dict") = false := by decide
          have hl1 : (s.heap.push { cls := .type "set", dict := none, data := .set #[] 0 (.fresh 0 0 (!w.params.followText "set-order")) }).IsTuple l items := ⟨_, hol', rfl, nl, rfl⟩
          unfold Builtin.«set.__init__» noKeywords Builtin.Frozenset.updateFrom
          generalize hPI : pyIter = PI
          wp_walk
          subst hPI
          refine wpAny_pyIter_tuple hl1 ?_
          refine wpAny_bind (wpAny_runValue ?_)
          refine set_update_m ((Walks.tuple hh3 _ l hneI items).toS) s.heap.objs.size
            hSf ks hisz hfew hval s.heap hk (none_ge (Nat.le_refl _)) (fun b hb => none_ge (by
              rw [List.mem_singleton.mp hb, Heap.size_push]
              exact Nat.le_succ _)) (by simp only [Around.in1]; omega) (items.size - 0) 0 _ (by omega) (Nat.zero_le _)
            ⟨⟨_, Heap.get?_push_size _ rfl, rfl, rfl⟩, (hl1.push _)⟩ (fun b o e => Heap.get?_push_of_some _ (Heap.get?_push_of_some _ e)) ?hS1 ?hR1
          case hS1 =>
            have hget : ((s.heap.push { cls := .type "set", dict := none, data := .set #[] 0 (.fresh 0 0 (!w.params.followText "set-order")) }).push { cls := .type "tuple_iterator", data := .fields #[.ref l, .int 0 0] }).get? s.heap.objs.size
                = some { cls := .type "set", dict := none, data := .set #[] 0 (.fresh 0 0 (!w.params.followText "set-order")) } := Heap.get?_push_of_some _ hS
            exact ⟨[], #[], 0, _, setM_fresh hget, GotN.zero ks⟩
          case hR1 =>
            intro s' L es ep t hm hS' g' hkp
            show wpAny _ _ _ _ _ _
            refine wpAny_pure ?_
            show wpAny _ _ (ret Value.none) _ _ _
            exact wpAny_pure (fin s' L es ep t _ _ hm hS' g' hkp)
      · cases r₂ with
        | error e => exact hr₂
        | ok fl₂ =>
          cases fl₂ with
          | ret r =>
            obtain ⟨rfl, h', tk, L, es, ep, t, rfl, hS', g', hk'⟩ := hr₂
            repeat (any_goals (first | assumption | wp_step))
            exact h _ _ _ _ _ _ hS' g' hk'
          | _ => exact hr₂.elim
    | _ => exact hr.elim
end
end MS
/-! S5: data as keys; alike data in order; set(xs), sorted(xs), len(set) over tracked things -/
namespace MS
open PySem PySem.Spec PyProof.Rows L2 MM
mutual
def nkOf : PyData → Option Nk
  | .none => some .none
  | .int i => some (.num i)
  | .str x => some (.text x)
  | .tuple ds => (nksOf ds).map .tup
  | .bool _ => none
  | .list _ => none
  | .dict _ => none
def nksOf : List PyData → Option (List Nk)
  | [] => some []
  | d :: ds => (nkOf d).bind fun k => (nksOf ds).map (k :: ·)
end
mutual
def dN : Nk → PyData
  | .none => .none
  | .num i => .int i
  | .text x => .str x
  | .tup ks => .tuple (dNs ks)
def dNs : List Nk → List PyData
  | [] => []
  | k :: ks => dN k :: dNs ks
end
theorem dNs_map : ∀ ks : List Nk, dNs ks = ks.map dN
  | [] => rfl
  | k :: ks => by rw [dNs, List.map_cons, dNs_map ks]
mutual
theorem dN_of : ∀ (d : PyData) (k : Nk), nkOf d = some k → dN k = d
  | .none, k, h => by cases h; rfl
  | .int i, k, h => by cases h; rfl
  | .str x, k, h => by cases h; rfl
  | .tuple ds, k, h => by
    rw [nkOf] at h
    obtain ⟨ks, h1, rfl⟩ := Option.map_eq_some_iff.mp h
    rw [dN, dNs_of ds ks h1]
  | .bool _, k, h => by rw [nkOf] at h; cases h
  | .list _, k, h => by rw [nkOf] at h; cases h
  | .dict _, k, h => by rw [nkOf] at h; cases h
theorem dNs_of : ∀ (ds : List PyData) (ks : List Nk), nksOf ds = some ks → dNs ks = ds
  | [], ks, h => by cases h; rfl
  | d :: ds, ks, h => by
    rw [nksOf] at h
    obtain ⟨k, h1, h2⟩ := Option.bind_eq_some_iff.mp h
    obtain ⟨ks', h3, rfl⟩ := Option.map_eq_some_iff.mp h2
    rw [dNs, dN_of d k h1, dNs_of ds ks' h3]
end
mutual
theorem nested_of {h : Heap} : ∀ (d : PyData) (k : Nk) (v : Value) (as : List Addr), nkOf d = some k → Reads h v d as → NestedIs h k v
  | .none, k, v, _, e, r => by cases e; cases r; exact .none
  | .int i, k, v, _, e, r => by cases e; cases r; exact .int _ _
  | .str x, k, v, _, e, r => by cases e; cases r; exact .text _ _
  | .tuple ds, k, v, _, e, r => by
    rw [nkOf] at e
    obtain ⟨ks, h1, rfl⟩ := Option.map_eq_some_iff.mp e
    cases r with
    | tuple a1 a2 a3 a4 => exact .tup a1 a2 a3 (nestedAll_of ds ks _ _ h1 a4)
  | .bool _, k, v, _, e, r => by rw [nkOf] at e; cases e
  | .list _, k, v, _, e, r => by rw [nkOf] at e; cases e
  | .dict _, k, v, _, e, r => by rw [nkOf] at e; cases e
theorem nestedAll_of {h : Heap} : ∀ (ds : List PyData) (ks : List Nk) (vs : List Value) (as : List Addr), nksOf ds = some ks → ReadsAll h vs ds as → NestedAll h ks vs
  | [], ks, vs, _, e, r => by cases e; cases r; exact .nil
  | d :: ds, ks, vs, _, e, r => by
    rw [nksOf] at e
    obtain ⟨k, h1, h2⟩ := Option.bind_eq_some_iff.mp e
    obtain ⟨ks', h3, rfl⟩ := Option.map_eq_some_iff.mp h2
    cases r with
    | cons a1 a2 => exact .cons (nested_of d k _ _ h1 a1) (nestedAll_of ds ks' _ _ h3 a2)
end
/-- which way the members are looked at -/
def modeK (m : Bool) : Nk → Bool
  | .num _ => m
  | .text _ => m
  | .tup _ => !m
  | .none => false
def okN (m : Bool) (ks : List Nk) : Bool := ks.all fun k => modeK m k && decide (k.depth ≤ 8)
theorem nksOf_get : ∀ {ds : List PyData} {ks : List Nk}, nksOf ds = some ks → ds.length = ks.length ∧ ∀ (i : Nat) (k : Nk), ks[i]? = some k → ∃ d, ds[i]? = some d ∧ nkOf d = some k
  | [], ks, h => by cases h; exact ⟨rfl, fun i k h => by simp at h⟩
  | d :: ds, ks, h => by
    rw [nksOf] at h
    obtain ⟨k, h1, h2⟩ := Option.bind_eq_some_iff.mp h
    obtain ⟨ks', h3, rfl⟩ := Option.map_eq_some_iff.mp h2
    obtain ⟨a, b⟩ := nksOf_get h3
    refine ⟨by rw [List.length_cons, List.length_cons, a], fun i k' hk => ?_⟩
    cases i with
    | zero => cases hk; exact ⟨d, rfl, h1⟩
    | succ i => exact b i k' (by simpa using hk)

/-! ### order -/
open PySem.W in
mutual
theorem toks_inj : ∀ (x y : PyData) (l m : List (Int ⊕ List Nat)), alike x y = true → keyToks x ++ l = keyToks y ++ m → x = y ∧ l = m
  | .none, y, l, m, h, e => by
    cases y with
    | none => exact ⟨rfl, by simpa [keyToks] using e⟩
    | _ => exact absurd h (by simp [alike])
  | .bool a, y, l, m, h, e => by
    cases y with
    | bool b =>
      simp only [keyToks, List.cons_append, List.nil_append, List.cons.injEq, Sum.inl.injEq] at e
      refine ⟨?_, e.2⟩
      cases a <;> cases b <;> simp_all
    | _ => exact absurd h (by simp [alike])
  | .int a, y, l, m, h, e => by
    cases y with
    | int b =>
      simp only [keyToks, List.cons_append, List.nil_append, List.cons.injEq, Sum.inl.injEq] at e
      exact ⟨by rw [e.1], e.2⟩
    | _ => exact absurd h (by simp [alike])
  | .str a, y, l, m, h, e => by
    cases y with
    | str b =>
      simp only [keyToks, List.cons_append, List.nil_append, List.cons.injEq, Sum.inr.injEq] at e
      exact ⟨by rw [str_of_cps e.1], e.2⟩
    | _ => exact absurd h (by simp [alike])
  | .list xs, y, l, m, h, e => by
    cases y with
    | list ys =>
      simp only [keyToks] at e
      obtain ⟨a, b⟩ := toksAll_inj xs ys l m (by simpa [alike] using h) e
      exact ⟨by rw [a], b⟩
    | _ => exact absurd h (by simp [alike])
  | .tuple xs, y, l, m, h, e => by
    cases y with
    | tuple ys =>
      simp only [keyToks] at e
      obtain ⟨a, b⟩ := toksAll_inj xs ys l m (by simpa [alike] using h) e
      exact ⟨by rw [a], b⟩
    | _ => exact absurd h (by simp [alike])
  | .dict _, y, _, _, h, _ => absurd h (by cases y <;> simp [alike])
theorem toksAll_inj : ∀ (xs ys : List PyData) (l m : List (Int ⊕ List Nat)), alikeAll xs ys = true → keyToksAll xs ++ l = keyToksAll ys ++ m → xs = ys ∧ l = m
  | [], [], l, m, _, e => by simp only [keyToksAll, List.cons_append, List.nil_append, List.cons.injEq] at e; exact ⟨rfl, e.2⟩
  | [], y :: ys, l, m, _, e => by
    rw [toks_all_cons] at e
    simp [keyToksAll] at e
  | x :: xs, [], l, m, _, e => by
    rw [toks_all_cons] at e
    simp [keyToksAll] at e
  | x :: xs, y :: ys, l, m, h, e => by
    rw [toks_all_cons, toks_all_cons, List.cons_append, List.cons_append, List.append_assoc, List.append_assoc] at e
    obtain ⟨a, b⟩ := toks_inj x y _ _ (alike_all_cons h).1 (List.cons.inj e).2
    obtain ⟨c, d⟩ := toksAll_inj xs ys l m (alike_all_cons h).2 b
    exact ⟨by rw [a, c], d⟩
end
abbrev dLe : PyData → PyData → Bool := PySem.W.dataLe false id
theorem dLe_anti {x y : PyData} (ha : PySem.W.alike x y = true) (h1 : dLe x y = true) (h2 : dLe y x = true) : x = y := by
  have e : PySem.W.keyToks x = PySem.W.keyToks y := by
    have a1 : (!(PyProof.Rows.listOrd PyProof.Rows.itemOrd).blt (PySem.W.keyToks y) (PySem.W.keyToks x)) = true := h1
    have a2 : (!(PyProof.Rows.listOrd PyProof.Rows.itemOrd).blt (PySem.W.keyToks x) (PySem.W.keyToks y)) = true := h2
    rw [Bool.not_eq_true'] at a1 a2
    exact (PyProof.Rows.listOrd PyProof.Rows.itemOrd).total _ _ a2 a1
  exact (toks_inj x y [] [] ha (by rw [e])).1
theorem dLe_total : PySem.W.TotalLe dLe := PySem.W.sortLe_total _ false _
theorem sorted_one : ∀ {l1 l2 : List PyData}, l1.Perm l2 → l1.Pairwise (fun a b => dLe a b = true) → l2.Pairwise (fun a b => dLe a b = true) → (∀ a ∈ l1, ∀ b ∈ l1, PySem.W.alike a b = true) → l1 = l2
  | [], l2, p, _, _, _ => (List.nil_perm.mp p).symm
  | a :: l1, [], p, _, _, _ => by have := p.length_eq; simp at this
  | a :: l1, b :: l2, p, h1, h2, al => by
    have hb : b ∈ a :: l1 := p.mem_iff.mpr List.mem_cons_self
    have ha : a ∈ b :: l2 := p.mem_iff.mp List.mem_cons_self
    have e : a = b := by
      rcases List.mem_cons.mp hb with z | z
      · exact z.symm
      · rcases List.mem_cons.mp ha with z' | z'
        · exact z'
        · exact dLe_anti (al a List.mem_cons_self b hb) ((List.pairwise_cons.mp h1).1 b z) ((List.pairwise_cons.mp h2).1 a z')
    subst e
    rw [sorted_one p.cons_inv (List.pairwise_cons.mp h1).2 (List.pairwise_cons.mp h2).2 fun x hx y hy => al x (List.mem_cons_of_mem _ hx) y (List.mem_cons_of_mem _ hy)]
theorem srt_sorted (ds : List PyData) : (srt ds).Pairwise (fun a b => dLe a b = true) := PySem.W.sort_pairwise dLe_total ds
theorem srt_perm (ds : List PyData) : (srt ds).Perm ds := List.mergeSort_perm _ _
/-- a row in order that is the row ds in some order -/
theorem srt_eq {l ds : List PyData} (p : l.Perm ds) (h : l.Pairwise (fun a b => dLe a b = true)) (al : sortB ds = true) : l = srt ds :=
  sorted_one (p.trans (srt_perm ds).symm) h (srt_sorted ds) fun a ha b hb => sortB_all al a (p.mem_iff.mp ha) b (p.mem_iff.mp hb)
/-- the first ones of each kind -/
def dd : List PyData → List PyData
  | [] => []
  | d :: ds => if (ds.any fun e => decide (PySem.W.keyToks e = PySem.W.keyToks d)) then dd ds else d :: dd ds
theorem dd_sub : ∀ {ds : List PyData} {d : PyData}, d ∈ dd ds → d ∈ ds
  | [], _, h => nomatch h
  | e :: ds, d, h => by
    unfold dd at h
    split at h
    · exact List.mem_cons_of_mem _ (dd_sub h)
    · rcases List.mem_cons.mp h with rfl | h
      · exact List.mem_cons_self
      · exact List.mem_cons_of_mem _ (dd_sub h)
theorem toks_eq {x y : PyData} (ha : PySem.W.alike x y = true) (e : PySem.W.keyToks x = PySem.W.keyToks y) : x = y := (toks_inj x y [] [] ha (by rw [e])).1
theorem dd_spec : ∀ {ds : List PyData}, PySem.W.AllAlike ds → (dd ds).Nodup ∧ ∀ d, d ∈ dd ds ↔ d ∈ ds
  | [], _ => ⟨List.nodup_nil, fun d => Iff.rfl⟩
  | e :: ds, al => by
    obtain ⟨n, m⟩ := dd_spec (ds := ds) fun a ha b hb => al a (List.mem_cons_of_mem _ ha) b (List.mem_cons_of_mem _ hb)
    unfold dd
    split
    · rename_i h
      obtain ⟨x, hx, q⟩ := List.any_eq_true.mp h
      have : x = e := toks_eq (al x (List.mem_cons_of_mem _ hx) e List.mem_cons_self) (by simpa using q)
      subst this
      refine ⟨n, fun d => ⟨fun h => List.mem_cons_of_mem _ ((m d).mp h), fun h => ?_⟩⟩
      rcases List.mem_cons.mp h with rfl | h
      · exact (m _).mpr hx
      · exact (m _).mpr h
    · rename_i h
      refine ⟨List.nodup_cons.mpr ⟨fun q => h (List.any_eq_true.mpr ⟨e, (m e).mp q, decide_eq_true rfl⟩), n⟩, fun d => ?_⟩
      rw [List.mem_cons, List.mem_cons, m d]
/-- rows without twins, with the same members -/
theorem dd_perm {ds l : List PyData} (al : PySem.W.AllAlike ds) (n : l.Nodup) (h : ∀ d, d ∈ l ↔ d ∈ ds) : l.Perm (dd ds) := by
  obtain ⟨n2, m⟩ := dd_spec al
  exact (List.perm_ext_iff_of_nodup n n2).mpr fun d => (h d).trans (m d).symm
def sortable (ds : List PyData) : Bool := (ds.all fun d => match d with | .tuple (_ :: _) => true | _ => false) || (ds.all fun d => match d with | .tuple _ => false | .none => false | _ => true)
theorem sortable_ok {ds : List PyData} (h : sortable ds = true) : PySem.W.Sortable ds := by
  unfold sortable at h
  rcases Bool.or_eq_true_iff.mp h with h | h
  · refine .inl fun d hd => ?_
    have := List.all_eq_true.mp h d hd
    split at this
    · exact ⟨_, _, rfl⟩
    · cases this
  · refine .inr fun d hd => ?_
    have := List.all_eq_true.mp h d hd
    split at this
    · cases this
    · cases this
    · rename_i h1 h2
      exact ⟨fun z => h2 z, fun xs z => h1 xs z⟩
end MS
/-! S6: set(xs), sorted(xs), sorted(set), len(set): calls over tracked things -/
namespace MS
open PySem PySem.Spec PyProof.Rows L2 MM
def SetO (P : Program) (w : World) (a : Addr) (zs : List (V × Nk)) : HO := .ext fun h => ∃ (L : KRow) (es : Array (Int × Value)) (ep : Nat) (t : SetTable), SetN P w h a L es ep t ∧ Vals (zs.map (·.1)) (L.map (·.1)) ∧ zs.map (·.2) = L.map (·.2)
theorem setO_ok {P : Program} {w : World} {H : Hp} {h : Heap} {a : Addr} {zs : List (V × Nk)} {L : KRow} {es : Array (Int × Value)} {ep : Nat} {t : SetTable} (R : SetN P w h a L es ep t) (v : Vals (zs.map (·.1)) (L.map (·.1))) (e : zs.map (·.2) = L.map (·.2)) : ObjOk P w H h a (SetO P w a zs) := by
  obtain ⟨o, ho, hr⟩ := id R.ob
  refine ⟨⟨L, es, ep, t, R, v, e⟩, ⟨o, ho⟩, fun h1 h2 x k => ?_⟩
  obtain ⟨L, es, ep, t, R, v, e⟩ := x
  exact ⟨L, es, ep, t, R.keep k, v, e⟩
theorem rows_v {vs : List V} {its : List Value} {ks : List Nk} (r : Vals vs its) : ∀ L : KRow, (∀ p ∈ L, p ∈ its.zip ks) → ∃ zs : List (V × Nk), (∀ z ∈ zs, z ∈ vs.zip ks) ∧ Vals (zs.map (·.1)) (L.map (·.1)) ∧ zs.map (·.2) = L.map (·.2)
  | [], _ => ⟨[], fun _ h => (nomatch h), .nil, rfl⟩
  | p :: L, h => by
    obtain ⟨zs, h1, h2, h3⟩ := rows_v r L fun q hq => h q (List.mem_cons_of_mem _ hq)
    obtain ⟨i, hi⟩ := List.mem_iff_getElem?.mp (h p List.mem_cons_self)
    have hz := List.getElem?_zip_eq_some.mp hi
    have hlt : i < vs.length := by rw [r.length]; exact (List.getElem?_eq_some_iff.mp hz.1).1
    obtain ⟨u, hu, hr⟩ := r.get (i := i) (x := vs[i]) (List.getElem?_eq_getElem hlt)
    rw [hz.1] at hu
    cases hu
    refine ⟨(vs[i], p.2) :: zs, fun z hz' => ?_, .cons hr h2, by rw [List.map_cons, List.map_cons, h3]⟩
    rcases List.mem_cons.mp hz' with rfl | hz'
    · exact List.mem_of_getElem? (List.getElem?_zip_eq_some.mpr ⟨List.getElem?_eq_getElem hlt, hz.2⟩)
    · exact h1 z hz'
section
variable {X : Cx}
def rSet (K : PySem.W.Frag) (P : Program) (w : World) (m : Bool) : List V → Hp → VK → Prop := fun xs H Q => ∃ (l : Addr) (vs : List V) (ds : List PyData) (ks : List Nk), xs = [.ref l] ∧ (SqL K H l vs ∨ SqT K H l vs) ∧ DpAll K H vs ds ∧ nksOf ds = some ks ∧ okN m ks = true ∧ ks.length ≤ capM m ∧
  ∀ a zs, H a = none → (∀ z ∈ zs, z ∈ vs.zip ks) → (∀ k ∈ ks, k ∈ zs.map (·.2)) → (zs.map (·.2)).Nodup → Q (.ref a) (upd H a (SetO P w a zs))
theorem cr_set {m : Bool} (hc : X.calm = true) (hu : X.A.units + 64 < cLine) : CallR X (.type "set") (rSet X.K X.prog X.w m) := by
  intro pins s σ H xs us Q I r h
  obtain ⟨l, vs, ds, ks, rfl, hl, hd, hk, hok, hcap, q⟩ := h
  rw [Vals.ref1 r]
  obtain ⟨its, rv, hpl⟩ : ∃ its : List Value, Vals vs its ∧ (s.heap.IsList l its.toArray ∨ s.heap.IsTuple l its.toArray) := by
    rcases hl with hl | hl
    · obtain ⟨its, rv, pl, _⟩ := I.list hl
      exact ⟨its, rv, .inl pl.isList⟩
    · obtain ⟨its, rv, pl, _⟩ := I.tuple hl
      exact ⟨its, rv, .inr pl⟩
  have ldk := nksOf_get hk
  have lvd := dpAll_len hd
  have lvi := rv.length
  have lik : its.length = ks.length := by omega
  have hn : H s.heap.objs.size = none := I.hok.fresh (Nat.le_refl _)
  have key : ∀ p ∈ its.zip ks, KeyM m X.prog X.w s.heap p.2 p.1 := fun p hp => by
    obtain ⟨i, hi⟩ := List.mem_iff_getElem?.mp hp
    have hz := List.getElem?_zip_eq_some.mp hi
    have hlt : i < vs.length := by rw [lvi]; exact (List.getElem?_eq_some_iff.mp hz.1).1
    obtain ⟨u, hu1, hr⟩ := rv.get (i := i) (x := vs[i]) (List.getElem?_eq_getElem hlt)
    rw [hz.1] at hu1
    cases hu1
    obtain ⟨d, hd1, hd2⟩ := ldk.2 i p.2 hz.2
    obtain ⟨d', hd3, hd4⟩ := dpAll_get (j := i) hd (List.getElem?_eq_getElem hlt)
    rw [hd1] at hd3
    cases hd3
    obtain ⟨as, rd⟩ := Dp.reads I _ _ _ hd4 hr
    have hkk := List.all_eq_true.mp hok p.2 (List.mem_of_getElem? hz.2)
    rw [Bool.and_eq_true] at hkk
    refine ⟨nested_of d p.2 p.1 as hd2 rd, of_decide_eq_true hkk.2, ?_⟩
    have ed := dN_of d p.2 hd2
    obtain ⟨p1, p2⟩ := p
    simp only at hkk ed hd2 rd ⊢
    cases p2 with
    | none => exact absurd hkk.1 (by simp [modeK])
    | num i =>
      have hm : m = true := by simpa [modeK] using hkk.1
      subst ed
      rw [if_pos hm]
      have rd' : Reads s.heap p1 (.int i) as := rd
      cases rd' with
      | int _ t => exact ⟨.inl i, rfl, kV_is (P := X.prog) (w := X.w) (show RelV (kV (.inl i)) (Value.int i t) from ⟨t, rfl⟩), rfl⟩
    | text x =>
      have hm : m = true := by simpa [modeK] using hkk.1
      subst ed
      rw [if_pos hm]
      have rd' : Reads s.heap p1 (.str x) as := rd
      cases rd' with
      | str _ t => exact ⟨.inr x, rfl, kV_is (P := X.prog) (w := X.w) (show RelV (kV (.inr x)) (Value.str x t) from ⟨t, rfl⟩), rfl⟩
    | tup ks' =>
      have hm : ¬ m = true := by simpa [modeK] using hkk.1
      subst ed
      rw [if_neg hm]
      have rd' : Reads s.heap p1 (.tuple (dNs ks')) as := rd
      cases rd' with
      | tuple _ _ _ _ => exact ⟨_, rfl⟩
  refine call_set_m (m := m) (P := X.prog) (w := X.w) (its.zip ks) (I.ok.hd hc) hpl ?_ key (by rw [List.length_zip]; omega) (by omega) fun h' tk L es ep t R g k => ?_
  · rw [List.map_fst_zip (by omega)]
  have sub : ∀ p ∈ L, p ∈ its.zip ks := fun p hp => List.mem_of_mem_take (g.sub p hp)
  obtain ⟨zs, z1, z2, z3⟩ := rows_v rv L sub
  refine ⟨.ref s.heap.objs.size, upd H s.heap.objs.size (SetO X.prog X.w s.heap.objs.size zs), I.laid (t' := tk) k (Nat.le_refl _) (setO_ok R.n z2 z3), rfl, q _ zs hn z1 (fun k' hk' => ?_) (by rw [z3]; exact R.n.nd)⟩
  rw [z3]
  obtain ⟨i, hi⟩ := List.mem_iff_getElem?.mp hk'
  have hil : i < its.length := by rw [lik]; exact (List.getElem?_eq_some_iff.mp hi).1
  exact g.all (its[i], k') (by rw [List.take_length]; exact List.mem_of_getElem? (List.getElem?_zip_eq_some.mpr ⟨List.getElem?_eq_getElem hil, hi⟩))

/-- sorted(xs), by what its items are -/
theorem sorted_of {pins : List (Addr × Obj)} {σ : L2.St} {H : Hp} {s : Shared} {a : Addr} {Q : VK} {C : List Value → Prop} (hu : X.A.units + 64 < cLine)
    (hcol : ∀ Q1 : List Value → Shared → Prop, (∀ s1 out, Inv X pins σ H s1 → C out → Q1 out s1) → wpAny (model X.prog X.w) X.A.in1 (collect (.ref a)) Q1 X.xe s)
    (hC : ∀ out, C out → ∃ M : List ((V × PyData) × Value), out = M.map (·.2) ∧ (∀ m ∈ M, RelV m.1.1 m.2 ∧ Dp X.K H m.1.1 m.1.2) ∧ PySem.W.AllAlike (M.map (·.1.2)) ∧ PySem.W.Sortable (M.map (·.1.2)) ∧ (∀ m ∈ M, m.1.2.depth ≤ 40) ∧ M.length ≤ sizeLine ∧
      ∀ (p : Addr) (zs' : List (V × PyData)), H p = none → zs'.Perm (M.map (·.1)) → zs'.Pairwise (fun a b : V × PyData => dLe a.2 b.2 = true) → Q (.ref p) (upd H p (.lst (zs'.map (·.1))))) :
    wpAny (model X.prog X.w) X.A (call (.builtin "sorted") [.ref a]) (EP X pins σ Q) X.xe s := by
  refine Calls.call_function_entry kind_sorted plain_sorted entry_sorted (args_sorted1 _) ?_
  unfold Builtin.«sorted»
  refine wpAny_bind (m := checkCount "sorted" 1 1 _) (wpAny_pure ?_)
  refine wpAny_bind (hcol _ fun s1 vs I1 hc => ?_)
  obtain ⟨M, rfl, hM, al, so, dep, hlen, q⟩ := hC vs hc
  refine wpAny_bind (wpAny_newList ?_ (by rw [List.length_map]; exact hlen))
  have hoL : (s1.heap.push (seqObj "list" (M.map (·.2)).toArray 0)).get? s1.heap.objs.size = some (seqObj "list" (M.map (·.2)).toArray 0) := Heap.get?_push_size _ rfl
  have e1 : PySem.W.EachIs (fun v (b : (V × PyData) × Value) => v = b.2) (M.map (·.2)) M := eachIs_of (by rw [List.length_map]) fun j v b e1 e2 => by
    rw [List.getElem?_map, e2] at e1
    exact (Option.some.inj e1).symm
  have e2 : PySem.W.EachIs (fun v (b : (V × PyData) × Value) => ∃ ad, Reads (s1.heap.push (seqObj "list" (M.map (·.2)).toArray 0)) v b.1.2 ad ∧ s1.heap.objs.size ∉ ad) (M.map (·.2)) M := eachIs_of (by rw [List.length_map]) fun j v b e1 e2 => by
    rw [List.getElem?_map, e2] at e1
    cases (Option.some.inj e1).symm
    obtain ⟨h1, h2⟩ := hM b (List.mem_of_getElem? e2)
    obtain ⟨ad, rd⟩ := Dp.reads I1 _ _ _ h2 h1
    refine ⟨ad, PyProof.Rows.Reads.keeps (fun b u e => Heap.get?_push_of_some _ e) rd, fun hm => ?_⟩
    obtain ⟨oo, hoo⟩ := PyProof.On.reads_mem_get rd _ hm
    exact absurd (Heap.lt_size hoo) (Nat.lt_irrefl _)
  refine wpAny_bind (wpAny_holding (PySem.W.list_sort_data (s := { s1 with heap := s1.heap.push (seqObj "list" (M.map (·.2)).toArray 0) }) (enc := fun b : (V × PyData) × Value => b.1.2) (R := fun v b => v = b.2) (vs := M.map (·.2)) hoL e1 e2 al so hlen (fun b hb => ?_) fun out o1 o2 => ?_))
  · have := dep b hb
    show X.A.units + 1 + 1 + b.1.2.depth < cLine
    omega
  have eo : out = (M.mergeSort (PySem.W.dataLe false fun b : (V × PyData) × Value => b.1.2)).map (·.2) := by
    revert o2
    generalize M.mergeSort (PySem.W.dataLe false fun b : (V × PyData) × Value => b.1.2) = N
    intro o2
    clear o1
    induction o2 with
    | nil => rfl
    | cons h t ih => rw [List.map_cons, ← h, ← ih]
  obtain ⟨eF, heF⟩ := sortedHeap_at (vs := M.map (·.2)) (out := out.toArray) hoL
  have pm := List.mergeSort_perm M (PySem.W.dataLe false fun b : (V × PyData) × Value => b.1.2)
  have pw := PySem.W.sort_pairwise (PySem.W.sortLe_total (PyProof.Rows.listOrd PyProof.Rows.itemOrd) false fun b : (V × PyData) × Value => PySem.W.keyToks b.1.2) M
  have pw : (M.mergeSort (PySem.W.dataLe false fun b : (V × PyData) × Value => b.1.2)).Pairwise (fun a b => dLe a.1.2 b.1.2 = true) := pw
  have rv : Vals ((M.mergeSort (PySem.W.dataLe false fun b : (V × PyData) × Value => b.1.2)).map fun z => z.1.1) out := by
    rw [eo]
    exact vals_maps (fun z : (V × PyData) × Value => z.1.1) (fun z => z.2) _ fun z hz => (hM z (pm.mem_iff.mp hz)).1
  have em : ((M.mergeSort (PySem.W.dataLe false fun b : (V × PyData) × Value => b.1.2)).map (·.1)).map (·.1) = (M.mergeSort (PySem.W.dataLe false fun b : (V × PyData) × Value => b.1.2)).map fun z => z.1.1 := by rw [List.map_map]; rfl
  have hn := I1.hok.fresh (Nat.le_refl _)
  have hl2 : (((M.mergeSort (PySem.W.dataLe false fun b : (V × PyData) × Value => b.1.2)).map (·.1)).map (·.1)).length ≤ sizeLine := by rw [List.length_map, List.length_map, pm.length_eq]; exact hlen
  refine wpAny_pure ⟨_, rfl, .ref s1.heap.objs.size, upd H s1.heap.objs.size (.lst (((M.mergeSort (PySem.W.dataLe false fun b : (V × PyData) × Value => b.1.2)).map (·.1)).map (·.1))), I1.laid (t' := s1.toks) (fun b u e => ?_) (Nat.le_refl _)
    (show ObjOk X.prog X.w _ _ _ (.lst _) from ⟨hl2, out, eF, by rw [em]; exact rv, heF⟩), rfl, q _ _ hn (pm.map _) (List.pairwise_map.mpr pw)⟩
  have hb : b < s1.heap.objs.size := Heap.lt_size e
  rw [PyProof.Rows.sortedHeap_old (Nat.ne_of_lt hb) (by rw [size_push']; exact Nat.lt_succ_of_lt hb)]
  exact Heap.get?_push_of_some _ e

/-- sorted(set) -/
def rSortSet (K : PySem.W.Frag) (P : Program) (w : World) : List V → Hp → VK → Prop := fun xs H Q => ∃ (a : Addr) (zs : List (V × Nk)), xs = [.ref a] ∧ H a = some (SetO P w a zs) ∧ (∀ z ∈ zs, Dp K H z.1 (dN z.2)) ∧ PySem.W.AllAlike (zs.map fun z => dN z.2) ∧ PySem.W.Sortable (zs.map fun z => dN z.2) ∧ (∀ z ∈ zs, (dN z.2).depth ≤ 40) ∧
  ∀ (p : Addr) (zs' : List (V × PyData)), H p = none → zs'.Perm (zs.map fun z => (z.1, dN z.2)) → zs'.Pairwise (fun a b : V × PyData => dLe a.2 b.2 = true) → Q (.ref p) (upd H p (.lst (zs'.map (·.1))))
theorem cr_sortSet (hc : X.calm = true) (hu : X.A.units + 64 < cLine) : CallR X (.builtin "sorted") (rSortSet X.K X.prog X.w) := by
  intro pins s σ H xs us Q I r h
  obtain ⟨a, zs, rfl, ha, hd, al, so, dep, q⟩ := h
  rw [Vals.ref1 r]
  obtain ⟨⟨L, es, ep, t, R, rv, ek⟩, _, _⟩ := (show ObjOk X.prog X.w H s.heap a (SetO X.prog X.w a zs) from I.hok a _ ha)
  have hes : es.toList.map (·.2) = L.map (·.1) := by
    rw [R.rows]
    unfold kRow
    rw [List.map_map]; rfl
  have lz : zs.length = L.length := by have := congrArg List.length ek; simpa using this
  refine sorted_of (H := H) (C := fun out => out.Perm (L.map (·.1))) hu (fun Q1 h1 => ?_) fun out pm => ?_
  · refine collect_set (A := X.A.in1) (I.ok.hd hc) R.at_ R.fit (by have := R.size; have := R.few; omega) R.ris R.led fun s1 vs k1 hz g1 o1 pm => ?_
    exact h1 s1 vs (I.call' (ch := []) o1 (Un.kept k1) (I.hok.kept k1) (by rw [g1]; exact I.bare) (fun _ z => nomatch z)) (by rw [← hes]; exact pm)
  · let M0 : List ((V × PyData) × Value) := (zs.zip L).map fun x => ((x.1.1, dN x.1.2), x.2.1)
    have hm2 : M0.map (·.2) = L.map (·.1) := by
      show ((zs.zip L).map _).map _ = _
      rw [List.map_map]
      have : (zs.zip L).map (fun x : (V × Nk) × (Value × Nk) => x.2.1) = ((zs.zip L).map Prod.snd).map (·.1) := by rw [List.map_map]; rfl
      rw [show ((fun m : (V × PyData) × Value => m.2) ∘ fun x : (V × Nk) × (Value × Nk) => ((x.1.1, dN x.1.2), x.2.1)) = fun x : (V × Nk) × (Value × Nk) => x.2.1 from rfl, this, List.map_snd_zip (by omega)]
    have hm1 : M0.map (·.1) = zs.map fun z => (z.1, dN z.2) := by
      show ((zs.zip L).map _).map _ = _
      rw [List.map_map]
      have : (zs.zip L).map (fun x : (V × Nk) × (Value × Nk) => (x.1.1, dN x.1.2)) = ((zs.zip L).map Prod.fst).map fun z => (z.1, dN z.2) := by rw [List.map_map]; rfl
      rw [show ((fun m : (V × PyData) × Value => m.1) ∘ fun x : (V × Nk) × (Value × Nk) => ((x.1.1, dN x.1.2), x.2.1)) = fun x : (V × Nk) × (Value × Nk) => (x.1.1, dN x.1.2) from rfl, this, List.map_fst_zip (by omega)]
    have hm3 : M0.map (·.1.2) = zs.map fun z => dN z.2 := by
      rw [show (fun m : (V × PyData) × Value => m.1.2) = (fun z : V × PyData => z.2) ∘ (fun m : (V × PyData) × Value => m.1) from rfl, ← List.map_map, hm1, List.map_map]; rfl
    have hin : ∀ m ∈ M0, RelV m.1.1 m.2 ∧ Dp X.K H m.1.1 m.1.2 ∧ m.1.2.depth ≤ 40 := fun m hm => by
      obtain ⟨x, hx, rfl⟩ := List.mem_map.mp hm
      obtain ⟨i, hi⟩ := List.mem_iff_getElem?.mp hx
      have hz := List.getElem?_zip_eq_some.mp hi
      have hzm := List.mem_of_getElem? hz.1
      obtain ⟨u, hu1, hr⟩ := rv.get (i := i) (x := x.1.1) (by rw [List.getElem?_map, hz.1]; rfl)
      rw [List.getElem?_map, hz.2] at hu1
      cases hu1
      exact ⟨hr, hd _ hzm, dep _ hzm⟩
    rw [← hm2] at pm
    obtain ⟨M, e1, pM⟩ := perm_back (fun m : (V × PyData) × Value => m.2) pm M0 rfl
    refine ⟨M, e1, fun m hm => ⟨(hin m (pM.mem_iff.mp hm)).1, (hin m (pM.mem_iff.mp hm)).2.1⟩, ?_, ?_, fun m hm => (hin m (pM.mem_iff.mp hm)).2.2, ?_, fun p zs' hp hperm hpw => q p zs' hp (hm1 ▸ hperm.trans (pM.map _)) hpw⟩
    · intro d h1 e h2
      exact al d (hm3 ▸ ((pM.map (·.1.2)).mem_iff.mp h1)) e (hm3 ▸ ((pM.map (·.1.2)).mem_iff.mp h2))
    · have hmem : ∀ d, d ∈ M.map (·.1.2) → d ∈ zs.map fun z => dN z.2 := fun d h1 => hm3 ▸ ((pM.map (·.1.2)).mem_iff.mp h1)
      rcases so with so | so
      · exact .inl fun d h => so d (hmem d h)
      · exact .inr fun d h => so d (hmem d h)
    · have h1 := R.few
      have : M.length = L.length := by
        rw [pM.length_eq]
        have := congrArg List.length hm2
        simpa using this
      rw [this, sizeLine_eq]
      unfold scanBound at h1
      omega
/-- len(set) -/
def rLenSet (P : Program) (w : World) : List V → Hp → VK → Prop := fun xs H Q => ∃ (a : Addr) (zs : List (V × Nk)), xs = [.ref a] ∧ H a = some (SetO P w a zs) ∧ Q (.int zs.length) H
theorem cr_lenSet : CallR X (.builtin "len") (rLenSet X.prog X.w) := by
  intro pins s σ H xs us Q I r h
  obtain ⟨a, zs, rfl, ha, q⟩ := h
  rw [Vals.ref1 r]
  obtain ⟨⟨L, es, ep, t, R, rv, ek⟩, _, _⟩ := (show ObjOk X.prog X.w H s.heap a (SetO X.prog X.w a zs) from I.hok a _ ha)
  have lz : zs.length = L.length := by have := congrArg List.length ek; simpa using this
  obtain ⟨o, ho, hex, hd⟩ := R.ob
  have hs := R.size
  have hf := R.few
  refine call_len_set ho hex hd R.fit (by unfold scanBound at hf; omega) ⟨.int zs.length, H, I.tok _, ⟨_, by rw [hs, lz]⟩, q⟩
/-- sorted(xs), xs a list or a tuple -/
def rSortSq (K : PySem.W.Frag) : List V → Hp → VK → Prop := fun xs H Q => ∃ (a : Addr) (vs : List V) (ds : List PyData), xs = [.ref a] ∧ (SqL K H a vs ∨ SqT K H a vs) ∧ DpAll K H vs ds ∧ PySem.W.AllAlike ds ∧ PySem.W.Sortable ds ∧ (∀ d ∈ ds, d.depth ≤ 40) ∧
  ∀ (p : Addr) (zs' : List (V × PyData)), H p = none → zs'.Perm (vs.zip ds) → zs'.Pairwise (fun a b : V × PyData => dLe a.2 b.2 = true) → Q (.ref p) (upd H p (.lst (zs'.map (·.1))))
theorem cr_sortSq (hu : X.A.units + 64 < cLine) : CallR X (.builtin "sorted") (rSortSq X.K) := by
  intro pins s σ H xs us Q I r h
  obtain ⟨a, vs, ds, rfl, hl, hd, al, so, dep, q⟩ := h
  rw [Vals.ref1 r]
  obtain ⟨its, rv, T, o, n, hT, ho, hcl, hdt, hz⟩ : ∃ its : List Value, Vals vs its ∧ ∃ (T : String) (o : Obj) (n : Nat), (T = "list" ∨ T = "tuple") ∧ s.heap.get? a = some o ∧ o.cls = .type T ∧ o.data = .seq its.toArray n ∧ its.length ≤ sizeLine := by
    rcases hl with hl | hl
    · obtain ⟨its, rv, pl, hz⟩ := I.list hl
      obtain ⟨o, n, h1, h2, h3, h4⟩ := pl
      exact ⟨its, rv, "list", o, n, .inl rfl, h1, h2, h4, by rw [← rv.length]; exact hz⟩
    · obtain ⟨its, rv, pl, hz⟩ := I.tuple hl
      obtain ⟨o, h1, h2, n, h3⟩ := pl
      exact ⟨its, rv, "tuple", o, n, .inr rfl, h1, h2, h3, by rw [← rv.length]; exact hz⟩
  have lvd := dpAll_len hd
  have lvi := rv.length
  refine sorted_of (H := H) (C := fun out => out = its) hu (fun Q1 h1 => ?_) fun out e => ?_
  · refine wpAny_collect_seq (A := X.A.in1) a hT ho hcl hdt (fun h' k => ?_) (by simpa using hz)
    exact h1 _ _ (I.kept (t' := s.toks) k) (by simp)
  · subst e
    have hm1 : ((vs.zip ds).zip out).map (·.1) = vs.zip ds := List.map_fst_zip (by rw [List.length_zip]; omega)
    have hm3 : ((vs.zip ds).zip out).map (·.1.2) = ds := by
      rw [show (fun m : (V × PyData) × Value => m.1.2) = (fun z : V × PyData => z.2) ∘ (fun m : (V × PyData) × Value => m.1) from rfl, ← List.map_map, hm1]
      exact List.map_snd_zip (by omega)
    have hin : ∀ m ∈ (vs.zip ds).zip out, RelV m.1.1 m.2 ∧ Dp X.K H m.1.1 m.1.2 := fun m hm => by
      obtain ⟨i, hi⟩ := List.mem_iff_getElem?.mp hm
      have hz := List.getElem?_zip_eq_some.mp hi
      have hz2 := List.getElem?_zip_eq_some.mp hz.1
      obtain ⟨u, hu1, hr⟩ := rv.get (i := i) (x := m.1.1) hz2.1
      rw [hz.2] at hu1
      cases hu1
      obtain ⟨d, h1, h2⟩ := dpAll_get (j := i) hd hz2.1
      rw [hz2.2] at h1
      cases h1
      exact ⟨hr, h2⟩
    refine ⟨(vs.zip ds).zip out, ?_, hin, by rw [hm3]; exact al, by rw [hm3]; exact so, fun m hm => dep _ ?_, by rw [List.length_zip]; omega, fun p zs' hp hperm hpw => q p zs' hp (hm1 ▸ hperm) hpw⟩
    · rw [List.map_snd_zip (by rw [List.length_zip]; omega)]
    · rw [← hm3]
      exact List.mem_map_of_mem (f := fun m : (V × PyData) × Value => m.1.2) hm
end
end MS
/-! S7: mirrors of sorted(set(xs)), len(set(xs)), sorted(xs) -/
namespace MM
open PySem PySem.Spec L2 MS
def keysOk (ds : List PyData) : Bool := match nksOf ds with
  | some ks => (okN true ks && decide (ks.length ≤ 4000)) || (okN false ks && decide (ks.length ≤ 63))
  | none => false
def dep40 (ds : List PyData) : Bool := ds.all fun d => decide (d.depth ≤ 40)
def seqOf : PyData → Option (List PyData)
  | .list ds => some ds
  | .tuple ds => some ds
  | _ => none
def gSortSet (d : PyData) : Option Slot := (seqOf d).bind fun ds => if keysOk ds && sortB ds && sortable ds && dep40 ds then some (.l ((srt (dd ds)).map .p)) else none
def gLenSet (d : PyData) : Option Slot := (seqOf d).bind fun ds => if keysOk ds && sortB ds then some (.p (.int (dd ds).length)) else none
def gSorted : List PyData → Option Slot
  | [d] => (seqOf d).bind fun ds => if sortB ds && sortable ds && dep40 ds then some (.l ((srt ds).map .p)) else none
  | _ => none
def rSetA (K : PySem.W.Frag) (P : Program) (w : World) : List V → Hp → VK → Prop := fun xs H Q => ∃ m, rSet K P w m xs H Q
theorem cr_setA {X : Cx} (hc : X.calm = true) (hu : X.A.units + 64 < cLine) : CallR X (.type "set") (rSetA X.K X.prog X.w) := by
  intro pins s σ H xs us Q I r h
  obtain ⟨m, h⟩ := h
  exact cr_set (m := m) hc hu pins s σ H xs us Q I r h
theorem capT : capM true = 4000 := rfl
theorem capF : capM false = 63 := rfl
section
variable {ki : Ki} {W : WX} {te : TE} {me : ExM} {P : Program} {w : World} {H : Hp} {L : Row} {v : V} {sx : Slot} {d : PyData} {ds : List PyData} {vs : List V}
theorem seq_view (g : G ki H L) (hm : (some v, sx) ∈ L) (hd : sx.dat = some d) (hs : seqOf d = some ds) : ∃ a vs, v = .ref a ∧ (SqL ki.K H a vs ∨ SqT ki.K H a vs) ∧ vs.length = ds.length ∧ G ki H (zP vs ds ++ L) := by
  unfold seqOf at hs
  split at hs
  · cases hs
    obtain ⟨p, vs, rfl, _, hl, len, g1⟩ := g.view hm hd (.inr rfl)
    exact ⟨p, vs, rfl, .inl (hl rfl), len, g1⟩
  · cases hs
    obtain ⟨p, vs, rfl, hl, _, len, g1⟩ := g.view hm hd (.inl rfl)
    exact ⟨p, vs, rfl, .inr (hl rfl), len, g1⟩
  · cases hs
theorem zP_mem {v : V} {d : PyData} (h : (v, d) ∈ vs.zip ds) : (some v, Slot.p d) ∈ zP vs ds := by
  obtain ⟨i, hi⟩ := List.mem_iff_getElem?.mp h
  have hz := List.getElem?_zip_eq_some.mp hi
  refine List.mem_of_getElem? (i := i) (List.getElem?_zip_eq_some.mpr ⟨?_, ?_⟩)
  · rw [List.getElem?_map, hz.1]; rfl
  · rw [List.getElem?_map, hz.2]; rfl
theorem zip_pairs (zs : List (V × PyData)) : zP (zs.map (·.1)) (zs.map (·.2)) = zs.map fun z => (some z.1, Slot.p z.2) := by
  unfold zP
  rw [List.map_map, List.map_map]
  induction zs with
  | nil => rfl
  | cons z zs ih => rw [List.map_cons, List.map_cons, List.zip_cons_cons, ih]; rfl
/-- a new list of things of a row -/
theorem newRow (g : G ki H (zP vs ds ++ L)) (zs : List (V × PyData)) (hz : ∀ z ∈ zs, z ∈ vs.zip ds) {p : Addr} (hp : H p = none) : G ki (upd H p (.lst (zs.map (·.1)))) ((some (.ref p), .l ((zs.map (·.2)).map .p)) :: L) := by
  have g1 := Good.elems (A := []) g (zP (zs.map (·.1)) (zs.map (·.2))) fun x hx => by
    rw [zip_pairs] at hx
    obtain ⟨z, h1, rfl⟩ := List.mem_map.mp hx
    exact zP_mem (hz z h1)
  have g2 := g1.newList hp (by rw [List.length_map, List.length_map])
  exact dropMid (A := [_]) g2
theorem zs_dn {ks : List Nk} {zs : List (V × Nk)} (hk : nksOf ds = some ks) (h : ∀ z ∈ zs, z ∈ vs.zip ks) : ∀ z ∈ zs, (z.1, dN z.2) ∈ vs.zip ds := fun z hz => by
  obtain ⟨i, hi⟩ := List.mem_iff_getElem?.mp (h z hz)
  have h2 := List.getElem?_zip_eq_some.mp hi
  obtain ⟨d, d1, d2⟩ := (nksOf_get hk).2 i z.2 h2.2
  rw [dN_of d z.2 d2]
  exact List.mem_of_getElem? (List.getElem?_zip_eq_some.mpr ⟨h2.1, d1⟩)
theorem dN_inj {ks : List Nk} (hk : nksOf ds = some ks) : ∀ a ∈ ks, ∀ b ∈ ks, dN a = dN b → a = b := fun a ha b hb e => by
  obtain ⟨i, hi⟩ := List.mem_iff_getElem?.mp ha
  obtain ⟨j, hj⟩ := List.mem_iff_getElem?.mp hb
  obtain ⟨d1, _, e1⟩ := (nksOf_get hk).2 i a hi
  obtain ⟨d2, _, e2⟩ := (nksOf_get hk).2 j b hj
  have f1 := dN_of d1 a e1
  have f2 := dN_of d2 b e2
  rw [← f1] at e1
  rw [← f2, ← e] at e2
  rw [e1] at e2
  exact Option.some.inj e2
theorem zs_perm {ks : List Nk} {zs : List (V × Nk)} (hk : nksOf ds = some ks) (len : vs.length = ds.length) (al : PySem.W.AllAlike ds) (h : ∀ z ∈ zs, z ∈ vs.zip ks) (hc : ∀ k ∈ ks, k ∈ zs.map (·.2)) (nd : (zs.map (·.2)).Nodup) : (zs.map fun z => dN z.2).Perm (dd ds) := by
  have hin : ∀ z ∈ zs, z.2 ∈ ks := fun z hz => (List.of_mem_zip (h z hz)).2
  refine dd_perm al ?_ fun d => ?_
  · have e : (zs.map fun z => dN z.2) = (zs.map (·.2)).map dN := by rw [List.map_map]; rfl
    rw [e]
    refine List.pairwise_map.mpr (nd.imp_of_mem fun {a b} ha hb ne z => ne ?_)
    obtain ⟨x, hx, rfl⟩ := List.mem_map.mp ha
    obtain ⟨y, hy, rfl⟩ := List.mem_map.mp hb
    exact dN_inj hk _ (hin x hx) _ (hin y hy) z
  · constructor
    · intro hd
      obtain ⟨z, hz, rfl⟩ := List.mem_map.mp hd
      exact (List.of_mem_zip (zs_dn hk h z hz)).2
    · intro hd
      obtain ⟨i, hi⟩ := List.mem_iff_getElem?.mp hd
      have hlt : i < ks.length := by rw [← (nksOf_get hk).1]; exact (List.getElem?_eq_some_iff.mp hi).1
      obtain ⟨d', h1, h2⟩ := (nksOf_get hk).2 i ks[i] (List.getElem?_eq_getElem hlt)
      rw [hi] at h1
      cases h1
      obtain ⟨z, hz, e⟩ := List.mem_map.mp (hc ks[i] (List.getElem_mem hlt))
      exact List.mem_map.mpr ⟨z, hz, by rw [e]; exact dN_of _ _ h2⟩
/-- set(xs), used -/
theorem setUse (g : G ki H L) (hm : (some v, sx) ∈ L) (hd : sx.dat = some d) (hs : seqOf d = some ds) (hk : keysOk ds = true) (hb : sortB ds = true) {Q : VK}
    (h : ∀ (a : Addr) (zs : List (V × Nk)) (vs : List V), H a = none → G ki (upd H a (SetO P w a zs)) (zP vs ds ++ L) → (∀ z ∈ zs, (z.1, dN z.2) ∈ vs.zip ds) → (zs.map fun z => dN z.2).Perm (dd ds) → Q (.ref a) (upd H a (SetO P w a zs))) : rSetA ki.K P w [v] H Q := by
  obtain ⟨a, vs, rfl, hl, len, g1⟩ := seq_view g hm hd hs
  unfold keysOk at hk
  split at hk
  · rename_i ks hks
    have use : ∀ m, okN m ks = true → ks.length ≤ capM m → rSetA ki.K P w [.ref a] H Q := fun m h1 h2 =>
      ⟨m, a, vs, ds, ks, rfl, hl, g1.dpAll len, hks, h1, h2, fun p zs np z1 z2 z3 => h p zs vs np (g1.ext fun b o q => by rw [upd_ne (fun z => by rw [z, np] at q; cases q)]; exact q) (zs_dn hks z1) (zs_perm hks len (sortB_all hb) z1 z2 z3)⟩
    rcases Bool.or_eq_true_iff.mp hk with hk | hk
    · rw [Bool.and_eq_true] at hk
      exact use true hk.1 (by rw [capT]; exact of_decide_eq_true hk.2)
    · rw [Bool.and_eq_true] at hk
      exact use false hk.1 (by rw [capF]; exact of_decide_eq_true hk.2)
  · cases hk
theorem rd_sortSet (h : Rd ki W te me) : Rd ki W (tCB (rSortSet ki.K P w) (tCons (tCB (rSetA ki.K P w) (tCons te tNil)) tNil)) (mUn gSortSet me) := fun σ H env T r env' hl gd e Q post => by
  show te σ H fun v H1 => rSetA ki.K P w [v] H1 fun x H2 => rSortSet ki.K P w [x] H2 Q
  refine h.use (E := []) hl gd e post fun o1 v1 H1 env1 n1 g1 i1 e => ?_
  obtain ⟨d1, q1, e⟩ := look_inv e
  obtain ⟨s, hs, rfl, rfl⟩ := ofO_inv e
  unfold gSortSet at hs
  obtain ⟨ds, e1, hs⟩ := Option.bind_eq_some_iff.mp hs
  split at hs
  · rename_i hc
    cases hs
    simp only [Bool.and_eq_true] at hc
    obtain ⟨⟨⟨c1, c2⟩, c3⟩, c4⟩ := hc
    have al := sortB_all c2
    refine setUse g1 (Opd.memD (A := []) i1 q1) q1 e1 c1 c2 fun a zs vs na g2 hz hp => ?_
    have hin : ∀ x ∈ zs.map (fun z => dN z.2), x ∈ ds := fun x hx => dd_sub (hp.mem_iff.mp hx)
    refine ⟨a, zs, rfl, upd_same, fun z hzz => ?_, fun x hx y hy => al x (hin x hx) y (hin y hy), ?_, fun z hzz => ?_, fun p zs' np pm pw => ?_⟩
    · obtain ⟨v, e, dp⟩ := g2.dp (List.mem_append_left _ (zP_mem (hz z hzz)))
      cases e
      exact dp
    · rcases sortable_ok c3 with so | so
      · exact .inl fun x hx => so x (hin x hx)
      · exact .inr fun x hx => so x (hin x hx)
    · exact of_decide_eq_true (List.all_eq_true.mp c4 _ (hin _ (List.mem_map_of_mem (f := fun z : V × Nk => dN z.2) hzz)))
    · have g3 := newRow g2 zs' (fun z hzz => by
        obtain ⟨y, hy, rfl⟩ := List.mem_map.mp (pm.mem_iff.mp hzz)
        exact hz y hy) np
      have e2 : zs'.map (·.2) = srt (dd ds) := by
        have p1 : (zs'.map (·.2)).Perm (zs.map fun z => dN z.2) := by
          have := pm.map (·.2)
          rwa [List.map_map] at this
        have p2 := p1.trans hp
        exact sorted_one (p2.trans (srt_perm _).symm) (List.pairwise_map.mpr pw) (srt_sorted _) fun x hx y hy => al x (dd_sub (p2.mem_iff.mp hx)) y (dd_sub (p2.mem_iff.mp hy))
      rw [e2] at g3
      exact post _ _ n1 (settle (E := [(some v1, o1.slot)]) g3) trivial
  · cases hs
theorem rd_lenSet (h : Rd ki W te me) : Rd ki W (tCB (rLenSet P w) (tCons (tCB (rSetA ki.K P w) (tCons te tNil)) tNil)) (mUn gLenSet me) := fun σ H env T r env' hl gd e Q post => by
  show te σ H fun v H1 => rSetA ki.K P w [v] H1 fun x H2 => rLenSet P w [x] H2 Q
  refine h.use (E := []) hl gd e post fun o1 v1 H1 env1 n1 g1 i1 e => ?_
  obtain ⟨d1, q1, e⟩ := look_inv e
  obtain ⟨s, hs, rfl, rfl⟩ := ofO_inv e
  unfold gLenSet at hs
  obtain ⟨ds, e1, hs⟩ := Option.bind_eq_some_iff.mp hs
  split at hs
  · rename_i hc
    cases hs
    simp only [Bool.and_eq_true] at hc
    refine setUse g1 (Opd.memD (A := []) i1 q1) q1 e1 hc.1 hc.2 fun a zs vs na g2 hz hp => ?_
    refine ⟨a, zs, rfl, upd_same, ?_⟩
    have e3 : zs.length = (dd ds).length := by have := hp.length_eq; rwa [List.length_map] at this
    rw [e3]
    have g3 := dropMid (A := []) g2
    exact post _ _ n1 (settle (E := [(some v1, o1.slot)]) (g3.push fun F => .int _)) trivial
  · cases hs
theorem cg_sorted : CallG ki (rSortSq ki.K) gSorted := fun H L vs ds s g a hs Q post => by
  unfold gSorted at hs
  split at hs
  · rename_i d
    obtain ⟨es, e1, hs⟩ := Option.bind_eq_some_iff.mp hs
    split at hs
    · rename_i hc
      cases hs
      simp only [Bool.and_eq_true] at hc
      obtain ⟨⟨c1, c2⟩, c3⟩ := hc
      obtain ⟨v, sv, rfl, hm, hd, _⟩ := args1 g a
      obtain ⟨p, vs, rfl, hl, len, g1⟩ := seq_view g hm hd e1
      refine ⟨p, vs, es, rfl, hl, g1.dpAll len, sortB_all c1, sortable_ok c2, fun d hd => of_decide_eq_true (List.all_eq_true.mp c3 d hd), fun l zs' nl pm pw => ?_⟩
      have g3 := newRow g1 zs' (fun z hz => pm.mem_iff.mp hz) nl
      have e2 : zs'.map (·.2) = srt es := by
        have p1 := pm.map (·.2)
        rw [List.map_snd_zip (by omega)] at p1
        exact srt_eq p1 (List.pairwise_map.mpr pw) c1
      rw [e2] at g3
      exact post _ _ g3
    · cases hs
  · cases hs
end
end MM
/-! S8: repr(x), str(x) of data -/
namespace MM
open PySem PySem.Spec L2 MS
mutual
theorem dp_noDict {K : PySem.W.Frag} {H : Hp} : ∀ {v : V} {d : PyData}, Dp K H v d → d.hasDict = false
  | _, _, .non => by simp only [PyData.hasDict]
  | _, _, .bl b => by simp only [PyData.hasDict]
  | _, _, .int i => by simp only [PyData.hasDict]
  | _, _, .str x => by simp only [PyData.hasDict]
  | _, _, .lst h t => by simp only [PyData.hasDict]; exact dpAll_noDict t
  | _, _, .tup h t => by simp only [PyData.hasDict]; exact dpAll_noDict t
theorem dpAll_noDict {K : PySem.W.Frag} {H : Hp} : ∀ {vs : List V} {ds : List PyData}, DpAll K H vs ds → PyData.hasDictAll ds = false
  | _, _, .nil => by simp only [PyData.hasDictAll]
  | _, _, .cons h t => by simp only [PyData.hasDictAll, dp_noDict h, dpAll_noDict t, Bool.or_self]
end
def rReprD (K : PySem.W.Frag) : List V → Hp → VK → Prop := fun xs H Q => ∃ v d, xs = [v] ∧ Dp K H v d ∧ d.showable = true ∧ d.shown.length ≤ sizeLine ∧ d.depth ≤ 40 ∧ Q (.str d.shown) H
theorem call_reprD {X : Cx} (hg : X.A.guards = some []) (hu : X.A.units + 64 < cLine) : CallR X (.builtin "repr") (rReprD X.K) := by
  intro pins s σ H xs us Q I r h
  obtain ⟨v, d, rfl, hd, hs, hz, hdep, q⟩ := h
  obtain ⟨u, rfl, rx⟩ := vals1 r
  have nd := dp_noDict hd
  have rd := Dp.reads I d v u hd rx
  cases hd with
  | non => cases rx; exact PySem.P.repr_of_none ⟨.str _, H, I.tok _, ⟨_, rfl⟩, q⟩
  | bl b => cases rx; exact PySem.P.repr_of_bool ⟨.str _, H, I.tok _, ⟨_, rfl⟩, q⟩
  | int i =>
    obtain ⟨t, rfl⟩ := rx
    exact PySem.P.repr_of_int (by simpa [PyData.showable] using hs) ⟨.str _, H, I.tok _, ⟨_, rfl⟩, q⟩
  | str x =>
    obtain ⟨t, rfl⟩ := rx
    exact PySem.P.repr_of_str ⟨.str _, H, I.tok _, ⟨_, rfl⟩, q⟩ hz
  | lst hq ha =>
    cases rx
    obtain ⟨as, rd⟩ := rd
    refine repr_of_reads' rd hs (fun e => by rw [nd] at e; cases e) hg (by omega) (fun _ _ e => e) (fun h' u tk k => ?_) hz
    exact ⟨.str _, H, I.kept (t' := tk) k, ⟨_, rfl⟩, q⟩
  | tup hq ha =>
    cases rx
    obtain ⟨as, rd⟩ := rd
    refine repr_of_reads' rd hs (fun e => by rw [nd] at e; cases e) hg (by omega) (fun _ _ e => e) (fun h' u tk k => ?_) hz
    exact ⟨.str _, H, I.kept (t' := tk) k, ⟨_, rfl⟩, q⟩
def strD : PyData → Str
  | .str x => x
  | d => d.shown
def rStrD (K : PySem.W.Frag) : List V → Hp → VK → Prop := fun xs H Q => ∃ v d, xs = [v] ∧ Dp K H v d ∧ d.showable = true ∧ d.shown.length ≤ sizeLine ∧ d.depth ≤ 40 ∧ Q (.str (strD d)) H
theorem call_strD {X : Cx} (hg : X.A.guards = some []) (hu : X.A.units + 64 < cLine) : CallR X (.type "str") (rStrD X.K) := by
  intro pins s σ H xs us Q I r h
  obtain ⟨v, d, rfl, hd, hs, hz, hdep, q⟩ := h
  obtain ⟨u, rfl, rx⟩ := vals1 r
  have nd := dp_noDict hd
  have rd := Dp.reads I d v u hd rx
  cases hd with
  | non => cases rx; exact PySem.P.str_of_none ⟨.str _, H, I.tok _, ⟨_, rfl⟩, q⟩
  | bl b => cases rx; exact PySem.P.str_of_bool ⟨.str _, H, I.tok _, ⟨_, rfl⟩, q⟩
  | int i =>
    obtain ⟨t, rfl⟩ := rx
    exact PySem.P.str_of_int (by simpa [PyData.showable] using hs) ⟨.str _, H, I.tok _, ⟨_, rfl⟩, q⟩
  | str x =>
    obtain ⟨t, rfl⟩ := rx
    exact PySem.P.str_of_str ⟨.str x, H, I, ⟨t, rfl⟩, q⟩
  | lst hq ha =>
    cases rx
    obtain ⟨as, rd⟩ := rd
    refine str_of_reads rd hs (fun e => by rw [nd] at e; cases e) hg (by omega) (fun _ _ e => e) (fun h' u tk k => ?_) hz
    exact ⟨.str _, H, I.kept (t' := tk) k, ⟨_, rfl⟩, q⟩
  | tup hq ha =>
    cases rx
    obtain ⟨as, rd⟩ := rd
    refine str_of_reads rd hs (fun e => by rw [nd] at e; cases e) hg (by omega) (fun _ _ e => e) (fun h' u tk k => ?_) hz
    exact ⟨.str _, H, I.kept (t' := tk) k, ⟨_, rfl⟩, q⟩
def okShow (d : PyData) : Bool := d.showable && smallL d.shown.length && decide (d.depth ≤ 40)
def gRepr : List PyData → Option Slot
  | [d] => if okShow d then some (.p (.str d.shown)) else none
  | _ => none
def gStr : List PyData → Option Slot
  | [d] => if okShow d then some (.p (.str (strD d))) else none
  | _ => none
section
variable {ki : Ki}
theorem okShow_ok {d : PyData} (h : okShow d = true) : d.showable = true ∧ d.shown.length ≤ sizeLine ∧ d.depth ≤ 40 := by
  unfold okShow at h
  simp only [Bool.and_eq_true] at h
  exact ⟨h.1.1, big_le (of_decide_eq_true h.1.2), of_decide_eq_true h.2⟩
theorem cg_repr : CallG ki (rReprD ki.K) gRepr := fun H L vs ds s g a hs Q post => by
  unfold gRepr at hs
  split at hs
  · split at hs
    · rename_i hc
      cases hs
      obtain ⟨v, sv, rfl, hm, hd, h⟩ := args1 g a
      obtain ⟨h1, h2, h3⟩ := okShow_ok hc
      exact ⟨v, _, rfl, h, h1, h2, h3, post _ _ (g.push fun F => .str _)⟩
    · cases hs
  · cases hs
theorem cg_str : CallG ki (rStrD ki.K) gStr := fun H L vs ds s g a hs Q post => by
  unfold gStr at hs
  split at hs
  · split at hs
    · rename_i hc
      cases hs
      obtain ⟨v, sv, rfl, hm, hd, h⟩ := args1 g a
      obtain ⟨h1, h2, h3⟩ := okShow_ok hc
      exact ⟨v, _, rfl, h, h1, h2, h3, post _ _ (g.push fun F => .str _)⟩
    · cases hs
  · cases hs
end
end MM
/-! S9: `is` of truths, slices, zip, constants of the top -/
namespace L2
open PySem PySem.Spec PyProof.Rows
section
variable {X : Cx}
def rIsG (neg : Bool) : R2 := fun x y H Q => (y = .non ∧ Q (.bl (if neg then !decide (x = .non) else decide (x = .non))) H) ∨ ∃ b, y = .bl b ∧ Q (.bl (if neg then !decide (x = .bl b) else decide (x = .bl b))) H
theorem op_isB : OpR X (compareOp .Is) (fun x y H Q => ∃ b, y = .bl b ∧ Q (.bl (decide (x = .bl b))) H) := by
  intro pins s σ H x y v u Q I rx ry h
  obtain ⟨b, rfl, q⟩ := h
  cases ry
  have key : plainIs v (.bool b) = true ∧ (v == Value.bool b) = decide (x = V.bl b) := by
    cases x with
    | non => cases rx; exact ⟨rfl, rfl⟩
    | bl c => cases rx; exact ⟨rfl, by cases b <;> cases c <;> decide⟩
    | int i => obtain ⟨t, rfl⟩ := rx; exact ⟨rfl, by simp⟩
    | str i => obtain ⟨t, rfl⟩ := rx; exact ⟨rfl, by simp⟩
    | ref a => cases rx; exact ⟨rfl, by simp⟩
    | flt i => obtain ⟨t, rfl⟩ := rx; exact ⟨rfl, by simp⟩
    | byt i => obtain ⟨t, rfl⟩ := rx; exact ⟨rfl, by simp⟩
    | ty t => cases rx; exact ⟨rfl, by simp⟩
  exact wpAny_is_plain key.1 (by rw [key.2]; exact ⟨.bl _, H, I, rfl, q⟩)
theorem op_isnotB : OpR X (compareOp .IsNot) (fun x y H Q => ∃ b, y = .bl b ∧ Q (.bl (!decide (x = .bl b))) H) := by
  intro pins s σ H x y v u Q I rx ry h
  obtain ⟨b, rfl, q⟩ := h
  cases ry
  have key : plainIs v (.bool b) = true ∧ (v == Value.bool b) = decide (x = V.bl b) := by
    cases x with
    | non => cases rx; exact ⟨rfl, rfl⟩
    | bl c => cases rx; exact ⟨rfl, by cases b <;> cases c <;> decide⟩
    | int i => obtain ⟨t, rfl⟩ := rx; exact ⟨rfl, by simp⟩
    | str i => obtain ⟨t, rfl⟩ := rx; exact ⟨rfl, by simp⟩
    | ref a => cases rx; exact ⟨rfl, by simp⟩
    | flt i => obtain ⟨t, rfl⟩ := rx; exact ⟨rfl, by simp⟩
    | byt i => obtain ⟨t, rfl⟩ := rx; exact ⟨rfl, by simp⟩
    | ty t => cases rx; exact ⟨rfl, by simp⟩
  exact wpAny_isNot_plain key.1 (by rw [key.2]; exact ⟨.bl _, H, I, rfl, q⟩)
theorem op_isG : OpR X (compareOp .Is) (rIsG false) := op_isN.or op_isB
theorem op_isnotG : OpR X (compareOp .IsNot) (rIsG true) := op_notN.or op_isnotB
/-! slices -/
def rSlC (K : PySem.W.Frag) : V → Option Int → Option Int → Hp → VK → Prop := fun x lo hi H Q => ∃ a xs, x = .ref a ∧ SqT K H a xs ∧
  (HT.sIx xs.length 0 lo = 0 ∧ HT.sIx xs.length xs.length hi = xs.length → Q (.ref a) H) ∧ (¬ (HT.sIx xs.length 0 lo = 0 ∧ HT.sIx xs.length xs.length hi = xs.length) → ∀ p, H p = none → ∃ k : Bool, ∀ ob : Obj, ob.dict = none → Q (.ref p) (upd H p (hoT k ob (cutV xs lo hi))))
theorem sl_tupC : SlR X (rSlC X.K) := by
  intro pins s σ H x v vl vu lo hi sl Q I rx hs pl pu h
  obtain ⟨a, xs, rfl, hx, q1, q2⟩ := h
  by_cases hw : HT.sIx xs.length 0 lo = 0 ∧ HT.sIx xs.length xs.length hi = xs.length
  · exact sl_tupA pins s σ H _ v vl vu lo hi sl Q I rx hs pl pu ⟨a, xs, rfl, hx, q1, fun n => absurd hw n⟩
  · cases rx
    obtain ⟨its, r, ht, hz⟩ := I.tuple hx
    have hlen : its.toArray.size = xs.length := by rw [List.size_toArray]; exact r.length.symm
    obtain ⟨k, q⟩ := q2 hw _ (I.hok.fresh (Nat.le_refl _))
    refine ⟨"tuple", _, PyProof.Rows.slot_tuple_getitem.lookup, ht.typeIs, ?_⟩
    refine HT.getItem_tuple_cut ht hs pl pu (by rw [hlen]; exact hw) ?_ (by rw [hlen]; exact hz)
    rw [hlen]
    refine ⟨.ref s.heap.objs.size, _, I.laid (t' := s.toks) (o := hoT k _ (cutV xs lo hi)) (fun b ob q => Heap.get?_push_of_some _ q) (Nat.le_refl _) (okT k (Heap.get?_push_size _ rfl) ?_), rfl, q _ rfl⟩
    exact ⟨Nat.le_trans (cutV_length xs lo hi) hz, _, (r.drop (HT.sIx xs.length 0 lo)).take (HT.sIx xs.length xs.length hi - HT.sIx xs.length 0 lo), IsTup.new _ _⟩
def rSlG (K : PySem.W.Frag) : V → Option Int → Option Int → Hp → VK → Prop := fun x lo hi H Q => rSlL K x lo hi H Q ∨ rSlC K x lo hi H Q ∨ C8.rSlX x lo hi H Q
theorem sl_G : SlR X (rSlG X.K) := sl_list.or (sl_tupC.or C8.sl_txt)
end
end L2
namespace MM
open PySem PySem.Spec L2 MS
section
variable {ki : Ki}
def isBl (b : Bool) : PyData → Bool
  | .bool c => c == b
  | _ => false
def isDat (neg : Bool) (d e : PyData) : Option Bool := match e with
  | .none => some (if neg then !isN d else isN d)
  | .bool b => some (if neg then !isBl b d else isBl b d)
  | _ => none
def gIs (neg : Bool) (d e : PyData) : Option Slot := (isDat neg d e).map fun b => .p (.bool b)
theorem dpBl {K : PySem.W.Frag} {H : Hp} {v : V} {d : PyData} {b : Bool} (h : Dp K H v d) : decide (v = .bl b) = isBl b d := by
  cases h with
  | bl c => cases b <;> cases c <;> rfl
  | _ => exact decide_eq_false (fun z => nomatch z)
theorem opg_isG {neg : Bool} : OpG ki (rIsG neg) (gIs neg) := fun H L x y sx sy d e s g hx dx hy dy hs Q post => by
  have d1 := g.datDp hx dx
  have d2 := g.datDp hy dy
  unfold gIs at hs
  cases d2 with
  | non =>
    cases hs
    exact .inl ⟨rfl, by rw [dpNon d1]; exact post _ _ (g.push fun F => .bl _)⟩
  | bl b =>
    cases hs
    exact .inr ⟨b, rfl, by rw [dpBl d1]; exact post _ _ (g.push fun F => .bl _)⟩
  | _ => cases hs
/-! ### slices -/
def cutD (ds : List PyData) (lo hi : Option Int) : List PyData := (ds.drop (HT.sIx ds.length 0 lo)).take (HT.sIx ds.length ds.length hi - HT.sIx ds.length 0 lo)
def gSl (d : PyData) (lo hi : Option Int) : Option Slot := match d with
  | .list ds => some (.l ((cutD ds lo hi).map .p))
  | .tuple ds => some (.p (.tuple (cutD ds lo hi)))
  | .str z => if smallL z.length then some (.p (.str (Txt.slice z lo hi))) else none
  | _ => none
def PstO (ki : Ki) (W : WX) (σ : L2.St) (T : Row) (Q : Option Int → Hp → Prop) (n : Nat) : Res (Option Int) → Env → Prop
  | .ok b, env' => ∀ H', env'.length = n → G ki H' (zE σ env' ++ T) → Q b H'
  | .ex x, env' => ∀ cls d H', env'.length = n → G ki H' (zE σ env' ++ T) → XP ki x cls d H' → W cls d σ H'
def RdO (ki : Ki) (W : WX) (tt : TO) (m : Mir (Option Int)) : Prop :=
  ∀ (σ : L2.St) (H : Hp) (env : Env) (T : Row) (r : Res (Option Int)) (env' : Env), σ.length = env.length → G ki H (zE σ env ++ T) → m env = some (r, env') → ∀ Q : Option Int → Hp → Prop, PstO ki W σ T Q env.length r env' → tt σ H Q
variable {W : WX} {te : TE} {me : ExM} {tl th : TO} {ml mh : Mir (Option Int)} {σ : L2.St} {H : Hp} {env env' : Env} {E T : Row}
theorem RdO.use {k : Option Int → ExM} {r : Res Opd} {Q : VK} (h : RdO ki W tl ml) (hl : σ.length = env.length) (g : G ki H (zE σ env ++ (E ++ T))) (e : bnd ml k env = some (r, env')) (post : Pst ki W σ T Q env.length r env') {Q1 : Option Int → Hp → Prop}
    (go : ∀ b H1 env1, env1.length = env.length → G ki H1 (zE σ env1 ++ (E ++ T)) → k b env1 = some (r, env') → Q1 b H1) : tl σ H Q1 := by
  unfold bnd at e
  cases hm : ml env with
  | none => rw [hm] at e; cases e
  | some p =>
    obtain ⟨r1, e1⟩ := p
    rw [hm] at e
    cases r1 with
    | ok o => exact h σ H env (E ++ T) _ _ hl g hm Q1 fun H1 hn g1 => go o H1 e1 hn g1 e
    | ex x =>
      cases e
      exact h σ H env (E ++ T) _ _ hl g hm Q1 fun cls d H1 hn g1 hx => post cls d H1 hn (dropMid g1) hx
theorem Rd.useO {k : Opd → Mir (Option Int)} {r : Res (Option Int)} {Q : Option Int → Hp → Prop} (h : Rd ki W te me) (hl : σ.length = env.length) (g : G ki H (zE σ env ++ (E ++ T))) (e : bnd me k env = some (r, env')) (post : PstO ki W σ T Q env.length r env') {Q1 : VK}
    (go : ∀ o v H1 env1, env1.length = env.length → G ki H1 (zE σ env1 ++ ((some v, o.slot) :: (E ++ T))) → o.is σ v → k o env1 = some (r, env') → Q1 v H1) : te σ H Q1 := by
  unfold bnd at e
  cases hm : me env with
  | none => rw [hm] at e; cases e
  | some p =>
    obtain ⟨r1, e1⟩ := p
    rw [hm] at e
    cases r1 with
    | ok o => exact h σ H env (E ++ T) _ _ hl g hm Q1 fun v H1 hn g1 ho => go o v H1 e1 hn g1 ho e
    | ex x =>
      cases e
      exact h σ H env (E ++ T) _ _ hl g hm Q1 fun cls d H1 hn g1 hx => post cls d H1 hn (dropMid g1) hx
def mNoPart : Mir (Option Int) := ret none
def intO : PyData → Mir (Option Int)
  | .int i => ret (some i)
  | _ => stuck
def mPart (me : ExM) : Mir (Option Int) := bnd me fun o => bnd (look o) intO
theorem rdo_none : RdO ki W tNoPart mNoPart := fun σ H env T r env' hl g e Q post => by
  cases e
  exact post H rfl g
theorem rdo_some (h : Rd ki W te me) : RdO ki W (tPart te) (mPart me) := fun σ H env T r env' hl g e Q post => by
  refine h.useO (E := []) hl g e post fun o1 v1 H1 env1 n1 g1 i1 e => ?_
  obtain ⟨d, q, e⟩ := look_inv e
  have dp := g1.datDp (Opd.memD (A := []) i1 q) q
  cases dp with
  | int i =>
    cases e
    exact ⟨i, rfl, post H1 n1 (dropMid (E := [(some (.int i), o1.slot)]) g1)⟩
  | _ => cases e
def mSlice (me : ExM) (ml mh : Mir (Option Int)) : ExM := bnd me fun o => bnd ml fun lo => bnd mh fun hi => bnd (look o) fun d => ofO (gSl d lo hi)
theorem cut_zip {vs : List V} {ds : List PyData} {lo hi : Option Int} (len : vs.length = ds.length) : ∀ z ∈ ((cutV vs lo hi).zip (cutD ds lo hi)), z ∈ vs.zip ds := fun z hz => by
  unfold cutV cutD at hz
  rw [len] at hz
  obtain ⟨i, hi⟩ := List.mem_iff_getElem?.mp hz
  have h := List.getElem?_zip_eq_some.mp hi
  rw [List.getElem?_take, List.getElem?_take] at h
  obtain ⟨h1, h2⟩ := h
  split at h1
  · rename_i hlt
    rw [if_pos hlt] at h2
    rw [List.getElem?_drop] at h1 h2
    exact List.mem_of_getElem? (List.getElem?_zip_eq_some.mpr ⟨h1, h2⟩)
  · cases h1
theorem cut_len {vs : List V} {ds : List PyData} {lo hi : Option Int} (len : vs.length = ds.length) : (cutV vs lo hi).length = (cutD ds lo hi).length := by
  unfold cutV cutD
  rw [List.length_take, List.length_take, List.length_drop, List.length_drop, len]
theorem map_zip_fst {vs : List V} {ds : List PyData} (len : vs.length = ds.length) : (vs.zip ds).map (·.1) = vs := List.map_fst_zip (by omega)
theorem map_zip_snd {vs : List V} {ds : List PyData} (len : vs.length = ds.length) : (vs.zip ds).map (·.2) = ds := List.map_snd_zip (by omega)
theorem rowOf {L : Row} {vs : List V} {ds : List PyData} (g : G ki H (zP vs ds ++ L)) (us : List V) (es : List PyData) (len : us.length = es.length) (hz : ∀ z ∈ us.zip es, z ∈ vs.zip ds) : G ki H (zP us es ++ (zP vs ds ++ L)) := by
  refine Good.elems (A := []) g (zP us es) fun x hx => ?_
  have e : zP us es = (us.zip es).map fun z => (some z.1, Slot.p z.2) := by
    have := zip_pairs (us.zip es)
    rwa [map_zip_fst len, map_zip_snd len] at this
  rw [e] at hx
  obtain ⟨z, h1, rfl⟩ := List.mem_map.mp hx
  exact zP_mem (hz z h1)
theorem rd_slice (h : Rd ki W te me) (h1 : RdO ki W tl ml) (h2 : RdO ki W th mh) : Rd ki W (tSl (rSlG ki.K) te tl th) (mSlice me ml mh) := fun σ H env T r env' hl gd e Q post => by
  refine h.use (E := []) hl gd e post fun o1 v1 H1 env1 n1 g1 i1 e => ?_
  refine h1.use (E := [(some v1, o1.slot)]) (hl.trans n1.symm) g1 e (by rw [n1]; exact post) fun lo H2 env2 n2 g2 e => ?_
  refine h2.use (E := [(some v1, o1.slot)]) (hl.trans (n2.trans n1).symm) g2 e (by rw [n2, n1]; exact post) fun hi H3 env3 n3 g3 e => ?_
  obtain ⟨d, q, e⟩ := look_inv e
  obtain ⟨s, hs, rfl, rfl⟩ := ofO_inv e
  have hm := Opd.memD (A := []) (B := T) i1 q
  have dp := g3.datDp hm q
  have nn := n3.trans (n2.trans n1)
  unfold gSl at hs
  split at hs
  · rename_i ds
    cases hs
    obtain ⟨p, vs, rfl, _, hl', len, g4⟩ := g3.view hm q (.inr rfl)
    refine .inl ⟨p, vs, rfl, hl' rfl, fun l nl => ?_⟩
    have g5 := (rowOf g4 (cutV vs lo hi) (cutD ds lo hi) (cut_len len) (cut_zip len)).newList nl (cut_len len)
    exact post _ _ nn (settle (E := [(some (.ref p), o1.slot)]) (dropMid (A := [_]) g5)) trivial
  · rename_i ds
    cases hs
    obtain ⟨p, vs, rfl, hl', _, len, g4⟩ := g3.view hm q (.inl rfl)
    have e1 := dat_tup q
    refine .inr (.inl ⟨p, vs, rfl, hl' rfl, fun hw => ?_, fun hw l nl => ⟨rowB (cutD ds lo hi), fun ob hob => ?_⟩⟩)
    · have ec : cutD ds lo hi = ds := by
        unfold cutD
        rw [← len, hw.1, hw.2, List.drop_zero, Nat.sub_zero, len, List.take_length]
      rw [ec] at post
      have g5 : G ki H3 ((some (V.ref p), Slot.p (.tuple ds)) :: (zE σ env' ++ ((some (V.ref p), o1.slot) :: T))) := by
        have := g3.copy (o := some (V.ref p)) (d := .tuple ds) (by rw [e1] at hm; exact hm)
        exact this
      exact post _ _ nn (settle (E := [(some (.ref p), o1.slot)]) g5) trivial
    · have g5 := (rowOf g4 (cutV vs lo hi) (cutD ds lo hi) (cut_len len) (cut_zip len)).newTup nl (cut_len len) (hoT_ok hob)
      exact post _ _ nn (settle (E := [(some (.ref p), o1.slot)]) (dropMid (A := [_]) g5)) trivial
  · rename_i z
    cases hz : smallL z.length with
    | false => rw [hz] at hs; cases hs
    | true =>
      rw [hz] at hs
      cases hs
      cases dpStr dp
      exact .inr (.inr ⟨z, rfl, big_le (of_decide_eq_true hz), post _ _ nn (settle (E := [(some (.str z), o1.slot)]) (g3.push fun F => .str _)) trivial⟩)
  · cases hs
end
end MM
/-! S10: zip; constants of the top -/
namespace MM
open PySem PySem.Spec L2 MS
section
variable {ki : Ki} {W : WX} {ta : TE} {tas : TA} {ma : ExM} {ms : Mir (List Opd)} {σ : L2.St} {H : Hp} {env env' : Env} {E T : Row}
/-- zip of two lists, of two tuples: both stay as they are from here on -/
def zipD : PyData → PyData → Option (List (PyData × PyData))
  | .list ds, .list es => some (ds.zip es)
  | .tuple ds, .tuple es => some (ds.zip es)
  | _, _ => none
def own2 (os : List Opd) : Mir (List (PyData × PyData)) := match os with
  | [o1, o2] => bnd (ownD o1) fun d1 => bnd (ownD o2) fun d2 => fun env => (zipD d1 d2).map fun zs => (.ok zs, env)
  | _ => stuck
def mZip (ms : Mir (List Opd)) : Mir (List (PyData × PyData)) := bnd ms own2
theorem upd_ex {T : Addr} {u : HO} (h : H T = none) : Ex H (upd H T u) := fun b o q => by rw [upd_ne (fun z => by rw [z, h] at q; cases q)]; exact q
theorem wk_zipL {v1 v2 : V} {a b : Addr} {ds es : List PyData} (h1 : v1 = .ref a) (h2 : v2 = .ref b) : Wk ki (Itz ki.K a b) (ds.zip es) [(some v1, .p (.list ds)), (some v2, .p (.list es))] (Y2 ki.K) := by
  subst h1 h2
  have two : ∀ {H : Hp} {L : Row}, G ki H ([(some (V.ref a), .p (.list ds)), (some (V.ref b), .p (.list es))] ++ L) → ∃ vs us, SqL ki.K H a vs ∧ SqL ki.K H b us ∧ vs.length = ds.length ∧ us.length = es.length ∧ G ki H (zP us es ++ (zP vs ds ++ ([(some (V.ref a), .p (.list ds)), (some (V.ref b), .p (.list es))] ++ L))) := fun {H L} g => by
    obtain ⟨p, vs, e1, _, q1, len, g1⟩ := g.items (d := .list ds) (o := some (V.ref a)) (List.mem_append_left _ (List.mem_cons_self)) (.inr rfl)
    cases e1
    obtain ⟨p, us, e2, _, q2, len2, g2⟩ := g1.items (d := .list es) (o := some (V.ref b)) (List.mem_append_right _ (List.mem_append_left _ (List.mem_cons_of_mem _ List.mem_cons_self))) (.inr rfl)
    cases e2
    exact ⟨vs, us, q1 rfl, q2 rfl, len, len2, g2⟩
  refine ⟨fun i H L hi g => ?_, fun H L g => ?_, fun i H x H' L d hd g y => ?_⟩
  · obtain ⟨vs, us, q1, q2, l1, l2, _⟩ := two g
    rw [List.length_zip] at hi
    exact ⟨vs, us, vs[i]'(by omega), us[i]'(by omega), q1, q2, List.getElem?_eq_getElem (by omega), List.getElem?_eq_getElem (by omega)⟩
  · obtain ⟨vs, us, q1, q2, l1, l2, _⟩ := two g
    refine ⟨vs, us, q1, q2, ?_⟩
    rw [List.length_zip]; omega
  · obtain ⟨vs, us, q1, q2, l1, l2, g2⟩ := two g
    obtain ⟨t, x1, y1, rfl, ht, rfl, f1, f2⟩ := y
    have hz := List.getElem?_zip_eq_some.mp hd
    have g3 := (g2.copy (o := some x1) (d := d.1) (List.mem_append_right _ (List.mem_append_left _ (zP_at (f1 vs q1) hz.1)))).copy (o := some y1) (d := d.2) (List.mem_cons_of_mem _ (List.mem_append_left _ (zP_at (f2 us q2) hz.2)))
    have g4 : G ki H ([(some x1, .p d.1), (some y1, .p d.2)] ++ (zP us es ++ (zP vs ds ++ ([(some (V.ref a), .p (.list ds)), (some (V.ref b), .p (.list es))] ++ L)))) := g3.perm (List.Perm.swap _ _ _)
    exact ⟨_, ⟨t, x1, y1, rfl, .inl (.inl upd_same), rfl⟩, (dropMid (dropMid g4)).ext (upd_ex ht)⟩
theorem wk_zipT {v1 v2 : V} {a b : Addr} {ds es : List PyData} (h1 : v1 = .ref a) (h2 : v2 = .ref b) : Wk ki (RZ.ItzT ki.K a b) (ds.zip es) [(some v1, .p (.tuple ds)), (some v2, .p (.tuple es))] (Y2 ki.K) := by
  subst h1 h2
  have two : ∀ {H : Hp} {L : Row}, G ki H ([(some (V.ref a), .p (.tuple ds)), (some (V.ref b), .p (.tuple es))] ++ L) → ∃ vs us, SqT ki.K H a vs ∧ SqT ki.K H b us ∧ vs.length = ds.length ∧ us.length = es.length ∧ G ki H (zP us es ++ (zP vs ds ++ ([(some (V.ref a), .p (.tuple ds)), (some (V.ref b), .p (.tuple es))] ++ L))) := fun {H L} g => by
    obtain ⟨p, vs, e1, q1, _, len, g1⟩ := g.items (d := .tuple ds) (o := some (V.ref a)) (List.mem_append_left _ (List.mem_cons_self)) (.inl rfl)
    cases e1
    obtain ⟨p, us, e2, q2, _, len2, g2⟩ := g1.items (d := .tuple es) (o := some (V.ref b)) (List.mem_append_right _ (List.mem_append_left _ (List.mem_cons_of_mem _ List.mem_cons_self))) (.inl rfl)
    cases e2
    exact ⟨vs, us, q1 rfl, q2 rfl, len, len2, g2⟩
  refine ⟨fun i H L hi g => ?_, fun H L g => ?_, fun i H x H' L d hd g y => ?_⟩
  · obtain ⟨vs, us, q1, q2, l1, l2, _⟩ := two g
    rw [List.length_zip] at hi
    exact ⟨vs, us, vs[i]'(by omega), us[i]'(by omega), q1, q2, List.getElem?_eq_getElem (by omega), List.getElem?_eq_getElem (by omega)⟩
  · obtain ⟨vs, us, q1, q2, l1, l2, _⟩ := two g
    refine ⟨vs, us, q1, q2, ?_⟩
    rw [List.length_zip]; omega
  · obtain ⟨vs, us, q1, q2, l1, l2, g2⟩ := two g
    obtain ⟨t, x1, y1, rfl, ht, rfl, f1, f2⟩ := y
    have hz := List.getElem?_zip_eq_some.mp hd
    have g3 := (g2.copy (o := some x1) (d := d.1) (List.mem_append_right _ (List.mem_append_left _ (zP_at (f1 vs q1) hz.1)))).copy (o := some y1) (d := d.2) (List.mem_cons_of_mem _ (List.mem_append_left _ (zP_at (f2 us q2) hz.2)))
    have g4 : G ki H ([(some x1, .p d.1), (some y1, .p d.2)] ++ (zP us es ++ (zP vs ds ++ ([(some (V.ref a), .p (.tuple ds)), (some (V.ref b), .p (.tuple es))] ++ L)))) := g3.perm (List.Perm.swap _ _ _)
    exact ⟨_, ⟨t, x1, y1, rfl, .inl (.inl upd_same), rfl⟩, (dropMid (dropMid g4)).ext (upd_ex ht)⟩
theorem fixE_is {o1 o2 : Opd} {d1 : PyData} : (o2.get (fixE o1 d1 env)).dat = some d1 ∨ o2.get (fixE o1 d1 env) = o2.get env := by
  cases o1 with
  | val s => exact .inr rfl
  | ref i =>
    cases o2 with
    | val s => exact .inr rfl
    | ref j =>
      show ((env.set i (.p d1))[j]?.getD .un).dat = some d1 ∨ (env.set i (.p d1))[j]?.getD .un = env[j]?.getD .un
      by_cases hj : i = j
      · subst hj
        by_cases hl : i < env.length
        · rw [List.getElem?_set_self hl]; exact .inl rfl
        · right
          rw [List.getElem?_eq_none (by rw [List.length_set]; omega), List.getElem?_eq_none (by omega)]
      · rw [List.getElem?_set_ne hj]; exact .inr rfl
theorem rdi_zip (h : RdA ki W tas ms) : RdI ki W (RZ.iZipA ki.K tas) (mZip ms) (Y2 ki.K) := fun σ H env T r env' hl g e R post => by
  refine h.useI (E := []) hl g e post fun os vs H1 env1 n1 g1 i1 e => ?_
  unfold own2 at e
  split at e
  · rename_i o1 o2
    match vs, i1 with
    | [v1, v2], ⟨i1, i2, _⟩ =>
      obtain ⟨d1, q1, e⟩ := ownD_inv e
      obtain ⟨d2, q2, e⟩ := ownD_inv e
      have g1 : G ki H1 (zE σ env1 ++ ((some v1, o1.slot) :: (some v2, o2.slot) :: T)) := g1
      have l1 := hl.trans n1.symm
      obtain ⟨g2, n2⟩ := own_top l1 g1 i1 q1
      have g2' : G ki H1 (zE σ (fixE o1 d1 env1) ++ ((some v2, o2.slot) :: (some v1, .p d1) :: T)) := g2.perm (List.Perm.append_left _ (List.Perm.swap _ _ _))
      obtain ⟨g3, n3⟩ := own_top (l1.trans n2.symm) g2' i2 q2
      generalize hE : fixE o2 d2 (fixE o1 d1 env1) = env2 at e g3 n3
      obtain ⟨zs, z1, z2⟩ := Option.map_eq_some_iff.mp e
      cases z2
      have g4 : G ki H1 (zE σ env' ++ ([(some v1, .p d1), (some v2, .p d2)] ++ T)) := g3.perm (List.Perm.append_left _ (List.Perm.swap _ _ _))
      have nn := n3.trans (n2.trans n1)
      have dp1 := g4.datDp (x := v1) (s := .p d1) (d := d1) (List.mem_append_right _ List.mem_cons_self) rfl
      have dp2 := g4.datDp (x := v2) (s := .p d2) (d := d2) (List.mem_append_right _ (List.mem_cons_of_mem _ List.mem_cons_self)) rfl
      unfold zipD at z1
      split at z1
      · cases z1
        cases dp1 with
        | lst hq ha =>
          cases dp2 with
          | lst hq2 ha2 => exact ⟨_, _, _, _, rfl, .inl ⟨hq, hq2, post _ _ _ nn (wk_zipL rfl rfl) g4⟩⟩
      · cases z1
        cases dp1 with
        | tup hq ha =>
          cases dp2 with
          | tup hq2 ha2 => exact ⟨_, _, _, _, rfl, .inr ⟨hq, hq2, post _ _ _ nn (wk_zipT rfl rfl) g4⟩⟩
      · cases z1
    | [], h => exact h.elim
    | [_], h => exact h.2.elim
    | _ :: _ :: _ :: _, h => exact h.2.2.elim
  · cases e
end
/-! ### constants of the top -/
mutual
def constD (K : PySem.W.Frag) : PyData → Value → Bool
  | .none, u => u == .none
  | .bool b, u => u == .bool b
  | .int i, .int j _ => i == j
  | .str x, .str y _ => x == y
  | .tuple ds, .ref a => match K.lookup a with
    | some ⟨.type "tuple", none, .seq its _, _⟩ => constAll K ds its.toList && decide (its.size ≤ 1000000)
    | _ => false
  | _, _ => false
def constAll (K : PySem.W.Frag) : List PyData → List Value → Bool
  | [], [] => true
  | d :: ds, u :: us => constD K d u && constAll K ds us
  | _, _ => false
end
mutual
theorem constD_ok {K : PySem.W.Frag} : ∀ (d : PyData) (u : Value), constD K d u = true → ∃ v, RelV v u ∧ ∀ F, Dq K F v d
  | .none, u, h => by
    rw [constD] at h
    exact ⟨.non, eq_of_beq h, fun F => .non⟩
  | .bool b, u, h => by
    rw [constD] at h
    exact ⟨.bl b, eq_of_beq h, fun F => .bl _⟩
  | .int i, u, h => by
    cases u with
    | int j t =>
      rw [constD] at h
      cases eq_of_beq h
      exact ⟨.int i, ⟨t, rfl⟩, fun F => .int _⟩
    | _ => simp [constD] at h
  | .str i, u, h => by
    cases u with
    | str j t =>
      rw [constD] at h
      cases eq_of_beq h
      exact ⟨.str i, ⟨t, rfl⟩, fun F => .str _⟩
    | _ => simp [constD] at h
  | .tuple ds, u, h => by
    cases u with
    | ref a =>
      rw [constD] at h
      split at h
      · rename_i its n sl hk
        rw [Bool.and_eq_true] at h
        obtain ⟨vs, r, q⟩ := constAll_ok ds its.toList h.1
        exact ⟨.ref a, rfl, fun F => .tup (.inl ⟨_, its, n, hk, rfl, rfl, big_le (of_decide_eq_true h.2), r, rfl⟩) (q F)⟩
      · cases h
    | _ => simp [constD] at h
  | .list ds, u, h => by simp [constD] at h
  | .dict ds, u, h => by simp [constD] at h
theorem constAll_ok {K : PySem.W.Frag} : ∀ (ds : List PyData) (us : List Value), constAll K ds us = true → ∃ vs, Vals vs us ∧ ∀ F, DqAll K F vs ds
  | [], [], _ => ⟨[], .nil, fun F => .nil⟩
  | d :: ds, u :: us, h => by
    rw [constAll, Bool.and_eq_true] at h
    obtain ⟨v, r, q⟩ := constD_ok d u h.1
    obtain ⟨vs, r2, q2⟩ := constAll_ok ds us h.2
    exact ⟨v :: vs, .cons r r2, fun F => .cons (q F) (q2 F)⟩
  | [], _ :: _, h => by simp [constAll] at h
  | _ :: _, [], h => by simp [constAll] at h
end
/-- a constant that stands at the top -/
structure CH (K : PySem.W.Frag) (mg : Str → Option Value) (x : Str) (d : PyData) where
  u : Value
  v : V
  g : mg x = some u
  r : RelV v u
  q : ∀ F, Dq K F v d
noncomputable def cH_mk {K : PySem.W.Frag} {h : Heap} {mg : Str → Option Value} {x : Str} {d : PyData} {u : Value} (X : K.In h) (G : h.Ns mainGlobals mg) (a : PySem.W.nsIn K mainGlobals x = some (some u)) (c : constD K d u = true) : CH K mg x d :=
  ⟨u, (constD_ok d u c).choose, PySem.W.mg_of X G a, (constD_ok d u c).choose_spec.1, (constD_ok d u c).choose_spec.2⟩
theorem bt_set : bootBuiltins "set" = some (.type "set") := by decide +kernel
theorem bt_repr : bootBuiltins "repr" = some (.builtin "repr") := by decide +kernel
end MM
/-! S11: small data: can be compared and shown -/
namespace MM
open PySem PySem.Spec L2 MS
mutual
def tm : PyData → Bool
  | .none => true
  | .bool _ => true
  | .int i => decide (i.natAbs < 10 ^ 12)
  | .str x => x.cps.all (· < 0x110000)
  | .list xs => tmAll xs
  | .tuple xs => tmAll xs
  | .dict _ => false
def tmAll : List PyData → Bool
  | [] => true
  | x :: xs => tm x && tmAll xs
end
mutual
def sw : PyData → Nat
  | .none => 0
  | .bool _ => 0
  | .int _ => 40
  | .str x => x.cps.size
  | .list xs => swAll xs
  | .tuple xs => swAll xs
  | .dict _ => 0
def swAll : List PyData → Nat
  | [] => 0
  | x :: xs => sw x + 1 + swAll xs
end
theorem log_small {n : Nat} (h : n < 10 ^ 12) : n.log2 + 1 ≤ 40 := by
  by_cases h0 : n = 0
  · subst h0; decide
  · have : n.log2 < 40 := (Nat.log2_lt h0).mpr (Nat.lt_trans h (by decide))
    omega
mutual
theorem tm_ok : ∀ d : PyData, tm d = true → d.canLay0 = true ∧ d.intsShort 13 = true ∧ d.showable = true ∧ d.weight ≤ sw d
  | .none, _ => ⟨rfl, rfl, rfl, Nat.le_refl _⟩
  | .bool _, _ => ⟨rfl, rfl, rfl, Nat.le_refl _⟩
  | .int i, h => by
    have h' : i.natAbs < 10 ^ 12 := by simpa only [tm, decide_eq_true_eq] using h
    refine ⟨rfl, decide_eq_true (PyData.shown_int_le h'), ?_, ?_⟩
    · have := log_small h'
      exact decide_eq_true (show i.natAbs.log2 < 1920 by omega)
    · have := log_small h'
      rw [PyData.weight]
      show _ ≤ 40
      split <;> omega
  | .str x, h => ⟨by
      have h' : x.cps.all (· < 0x110000) = true := by simpa only [tm] using h
      simpa only [PyData.canLay0, PyData.strOk] using h', rfl, rfl, by simp only [PyData.weight, sw]; exact Nat.le_refl _⟩
  | .list xs, h => by
    obtain ⟨a, b, c, d⟩ := tmAll_ok xs (by simpa only [tm] using h)
    exact ⟨by simpa only [PyData.canLay0] using a, by simpa only [PyData.intsShort] using b, by simpa only [PyData.showable] using c, by simpa only [PyData.weight, sw] using d⟩
  | .tuple xs, h => by
    obtain ⟨a, b, c, d⟩ := tmAll_ok xs (by simpa only [tm] using h)
    exact ⟨by simpa only [PyData.canLay0] using a, by simpa only [PyData.intsShort] using b, by simpa only [PyData.showable] using c, by simpa only [PyData.weight, sw] using d⟩
  | .dict _, h => by simp only [tm] at h; exact nomatch h
theorem tmAll_ok : ∀ xs : List PyData, tmAll xs = true → PyData.canLayAll0 xs = true ∧ PyData.intsShortAll 13 xs = true ∧ PyData.showableAll xs = true ∧ PyData.weightAll xs ≤ swAll xs
  | [], _ => ⟨rfl, rfl, rfl, Nat.le_refl _⟩
  | x :: xs, h => by
    have h' : tm x = true ∧ tmAll xs = true := by simpa only [tmAll, Bool.and_eq_true] using h
    obtain ⟨a, b, c, d⟩ := tm_ok x h'.1
    obtain ⟨a', b', c', d'⟩ := tmAll_ok xs h'.2
    refine ⟨by rw [PyData.canLayAll0, a, a']; rfl, by rw [PyData.intsShortAll, b, b']; rfl, by rw [PyData.showableAll, c, c']; rfl, ?_⟩
    rw [PyData.weightAll, swAll]; omega
end
/-- data of at most n signs, k deep -/
def Tame (k n : Nat) (d : PyData) : Prop := tm d = true ∧ sw d ≤ n ∧ d.depth ≤ k
theorem Tame.mono {k n k' n' : Nat} {d : PyData} (h : Tame k n d) (h1 : k ≤ k') (h2 : n ≤ n') : Tame k' n' d := ⟨h.1, Nat.le_trans h.2.1 h2, Nat.le_trans h.2.2 h1⟩
theorem Tame.int {i : Int} (h1 : -100000000000 ≤ i) (h2 : i ≤ 100000000000) : Tame 0 40 (.int i) :=
  ⟨decide_eq_true (by have e : (10 : Nat) ^ 12 = 1000000000000 := by decide
                      omega), Nat.le_refl _, by simp [PyData.depth]⟩
theorem Tame.bool {b : Bool} : Tame 0 0 (.bool b) := ⟨rfl, Nat.le_refl _, by simp [PyData.depth]⟩
theorem Tame.none : Tame 0 0 .none := ⟨rfl, Nat.le_refl _, by simp [PyData.depth]⟩
theorem tameAll {k n : Nat} : ∀ {ds : List PyData}, (∀ d ∈ ds, Tame k n d) → tmAll ds = true ∧ swAll ds ≤ ds.length * (n + 1) ∧ PyData.depthAll ds ≤ k
  | [], _ => ⟨rfl, Nat.zero_le _, by simp [PyData.depthAll]⟩
  | d :: ds, h => by
    obtain ⟨a, b, c⟩ := tameAll (k := k) (n := n) (ds := ds) fun x hx => h x (List.mem_cons_of_mem _ hx)
    obtain ⟨a', b', c'⟩ := h d List.mem_cons_self
    refine ⟨by rw [tmAll, a, a']; rfl, ?_, ?_⟩
    · rw [swAll, List.length_cons, Nat.succ_mul]; omega
    · rw [PyData.depthAll]; omega
theorem Tame.tup {k n m : Nat} {ds : List PyData} (h : ∀ d ∈ ds, Tame k n d) (hm : ds.length * (n + 1) ≤ m) : Tame (k + 1) m (.tuple ds) := by
  obtain ⟨a, b, c⟩ := tameAll h
  exact ⟨by rw [tm]; exact a, by rw [sw]; omega, by rw [PyData.depth]; omega⟩
theorem Tame.lst {k n m : Nat} {ds : List PyData} (h : ∀ d ∈ ds, Tame k n d) (hm : ds.length * (n + 1) ≤ m) : Tame (k + 1) m (.list ds) := by
  obtain ⟨a, b, c⟩ := tameAll h
  exact ⟨by rw [tm]; exact a, by rw [sw]; omega, by rw [PyData.depth]; omega⟩
theorem Tame.shaped {k n : Nat} {d : PyData} (h : Tame k n d) (hk : k ≤ 60) : SeqAt.shaped d = true := by
  unfold SeqAt.shaped
  rw [(tm_ok d h.1).1, Bool.true_and, decide_eq_true_eq]
  have := h.2.2
  omega
theorem Tame.show {k n : Nat} {d : PyData} (h : Tame k n d) (hk : k ≤ 40) (hn : n ≤ 60000) : okShow d = true := by
  obtain ⟨a, b, c, e⟩ := tm_ok d h.1
  have h1 := PyData.shown_le 13 (by decide) d (PyData.leavesShort_of_canLay0 13 d a b)
  have h2 := h.2.1
  have h3 := h.2.2
  have h4 : (13 + 2) * d.weight ≤ 15 * 60000 := Nat.mul_le_mul (by decide) (by omega)
  unfold okShow smallL
  rw [c, Bool.true_and, Bool.and_eq_true, decide_eq_true_eq, decide_eq_true_eq]
  omega
mutual
theorem eqv_self : ∀ d : PyData, tm d = true → PyData.eqv d d = true
  | .none, _ => by simp [PyData.eqv]
  | .bool _, _ => by simp [PyData.eqv]
  | .int _, _ => by simp [PyData.eqv]
  | .str _, _ => by simp [PyData.eqv]
  | .list xs, h => by rw [PyData.eqv]; exact eqvAll_self xs (by simpa only [tm] using h)
  | .tuple xs, h => by rw [PyData.eqv]; exact eqvAll_self xs (by simpa only [tm] using h)
  | .dict _, h => by simp only [tm] at h; exact nomatch h
theorem eqvAll_self : ∀ xs : List PyData, tmAll xs = true → PyData.eqvAll xs xs = true
  | [], _ => by simp [PyData.eqvAll]
  | x :: xs, h => by
    have h' : tm x = true ∧ tmAll xs = true := by simpa only [tmAll, Bool.and_eq_true] using h
    rw [PySem.W.eqv_all_cons, eqv_self x h'.1, eqvAll_self xs h'.2]; rfl
end
theorem Tame.eq {k n : Nat} {d : PyData} (h : Tame k n d) (hk : k ≤ 60) : gEq d d = some (.p (.bool true)) := by
  unfold gEq
  rw [h.shaped hk, eqv_self d h.1]; rfl
theorem Tame.ne {k n : Nat} {d : PyData} (h : Tame k n d) (hk : k ≤ 60) : gNe d d = some (.p (.bool false)) := by
  unfold gNe
  rw [h.shaped hk, eqv_self d h.1]; rfl
end MM
/-! S12: calls of defs with a name's own lists: they stay as they are from then on -/
namespace MM
open PySem PySem.Spec L2
def frz1 : Opd → Mir Slot
  | .val s => ret s.fz
  | .ref i => fun env => ((env[i]?).getD .un).dat.map fun d => (.ok (.p d), env.set i (.p d))
def fzAll : List Opd → Mir (List Slot)
  | [] => ret []
  | o :: os => bnd (frz1 o) fun s => bnd (fzAll os) fun ss => ret (s :: ss)
def mFnF (fm : FnM) (ms : Mir (List Opd)) : ExM := bnd ms fun os => bnd (fzAll os) fun ss env => (fm ss).map fun p => (fnRes .val p.1, env)
section
variable {ki : Ki} {W : WX} {tas : TA} {ms : Mir (List Opd)} {fm : FnM} {n : Nat} {σ : L2.St}
theorem fzAll_row {H : Hp} : ∀ {os : List Opd} {vs : List V} {L : Row} {env env' : Env} {r : Res (List Slot)}, σ.length = env.length → isAll σ vs os → fzAll os env = some (r, env') → G ki H (zE σ env ++ (zO vs os ++ L)) →
    ∃ ss, r = .ok ss ∧ env'.length = env.length ∧ vs.length = ss.length ∧ G ki H (zE σ env' ++ (zE (vs.map some) ss ++ L))
  | [], [], L, env, env', r, hl, _, h, g => by cases h; exact ⟨[], rfl, rfl, rfl, g⟩
  | o :: os, v :: vs, L, env, env', r, hl, ⟨h1, h2⟩, h, g => by
    have g : G ki H (zE σ env ++ ((some v, o.slot) :: (zO vs os ++ L))) := g
    obtain ⟨s, e1, q1, n1, g1⟩ : ∃ s e1, frz1 o env = some (.ok s, e1) ∧ e1.length = env.length ∧ G ki H (zE σ e1 ++ ((some v, s) :: (zO vs os ++ L))) := by
      cases o with
      | val s => exact ⟨s.fz, env, rfl, rfl, toTop (Good.fz (g.perm List.perm_middle))⟩
      | ref i =>
        cases q : ((env[i]?).getD .un).dat with
        | none =>
          exfalso
          have e0 : frz1 (.ref i) env = none := by show ((env[i]?).getD .un).dat.map _ = _; rw [q]; rfl
          have h : bnd (frz1 (.ref i)) (fun s => bnd (fzAll os) fun ss => ret (s :: ss)) env = some (r, env') := h
          unfold bnd at h
          rw [e0] at h
          cases h
        | some d =>
          obtain ⟨g2, n2⟩ := own_top (o := .ref i) hl g h1 q
          exact ⟨.p d, env.set i (.p d), by show ((env[i]?).getD .un).dat.map _ = _; rw [q]; rfl, List.length_set, g2⟩
    have h : bnd (fzAll os) (fun ss => ret (s :: ss)) e1 = some (r, env') := by
      have h : bnd (frz1 o) (fun s => bnd (fzAll os) fun ss => ret (s :: ss)) env = some (r, env') := h
      rwa [bnd_ok q1] at h
    unfold bnd at h
    cases hm : fzAll os e1 with
    | none => rw [hm] at h; cases h
    | some p =>
      obtain ⟨r2, e2⟩ := p
      rw [hm] at h
      have g3 : G ki H (zE σ e1 ++ (zO vs os ++ ((some v, s) :: L))) := g1.perm (List.Perm.append_left _ List.perm_middle.symm)
      obtain ⟨ss, rfl, n2, len, g4⟩ := fzAll_row (hl.trans n1.symm) h2 hm g3
      cases h
      exact ⟨s :: ss, rfl, n2.trans n1, by rw [List.length_cons, List.length_cons, len], g4.perm (List.Perm.append_left _ List.perm_middle)⟩
  | [], _ :: _, _, _, _, _, _, h, _, _ => h.elim
  | _ :: _, [], _, _, _, _, _, h, _, _ => h.elim
theorem rd_fnF (hn : ∀ ss, (fm ss).isSome → ss.length = n) (ha : RdA ki W tas ms) : Rd ki W (tCallS (spM ki n [] fm) (WE W) tas) (mFnF fm ms) := fun σ H env T r env' hl gd e Q post => by
  refine ha.use (E := []) hl gd e post fun os vs H1 env1 n1 g1 i1 e => ?_
  unfold bnd at e
  cases hm : fzAll os env1 with
  | none => rw [hm] at e; cases e
  | some p =>
    obtain ⟨r2, e2⟩ := p
    rw [hm] at e
    obtain ⟨ss, rfl, n2, len, g2⟩ := fzAll_row (hl.trans n1.symm) i1 hm g1
    obtain ⟨⟨r1, ss'⟩, q2, e⟩ := Option.map_eq_some_iff.mp e
    cases e
    have hss := hn ss (by rw [q2]; rfl)
    refine ⟨ss, _, r1, ss', len.trans hss, hss, front g2, q2, ?_⟩
    cases r1 with
    | ok s => exact fun v H' g3 => post v H' (n2.trans n1) (toTop g3) trivial
    | ex x => exact fun cls d H' g3 hx => post cls d H' (n2.trans n1) g3 hx
end
section
variable {env : Env}
@[simp] theorem mFnF_run (fm : FnM) (ms : Mir (List Opd)) : mFnF fm ms env = bnd ms (fun os => bnd (fzAll os) fun ss env => match fm ss with
    | some (.ok s, _) => some (.ok (.val s), env)
    | some (.ex x, _) => some (.ex x, env)
    | none => none) env := by
  unfold mFnF
  congr 1
  funext os
  congr 1
  funext ss e
  cases fm ss with
  | none => rfl
  | some q => obtain ⟨r, t⟩ := q; cases r <;> rfl
@[simp] theorem fzAll_nil : fzAll [] env = some (.ok [], env) := rfl
@[simp] theorem fzAll_cons (o : Opd) (os : List Opd) : fzAll (o :: os) env = bnd (frz1 o) (fun s => bnd (fzAll os) fun ss => MM.ret (s :: ss)) env := rfl
@[simp] theorem frz1_p (d : PyData) : frz1 (.val (.p d)) env = some (.ok (.p d), env) := rfl
@[simp] theorem frz1_ls (xs : List Slot) : frz1 (.val (.l xs)) env = some (.ok (match allP xs with
  | some ds => .p (.list ds)
  | none => .l xs), env) := by
  show some (Res.ok (Slot.l xs).fz, env) = _
  unfold Slot.fz
  rw [show (Slot.l xs).dat = (allP xs).map .list from rfl]
  cases allP xs <;> rfl
@[simp] theorem frz1_ref (i : Nat) : frz1 (.ref i) env = ((env[i]?).getD .un).dat.map fun d => (.ok (.p d), env.set i (.p d)) := rfl
@[simp] theorem mZip_run (ms : Mir (List Opd)) : mZip ms env = bnd ms own2 env := rfl
@[simp] theorem own2_run (o1 o2 : Opd) : own2 [o1, o2] env = bnd (ownD o1) (fun d1 => bnd (ownD o2) fun d2 => fun env => (zipD d1 d2).map fun zs => (.ok zs, env)) env := rfl
@[simp] theorem mSlice_run (me : ExM) (ml mh : Mir (Option Int)) : mSlice me ml mh env = bnd me (fun o => bnd ml fun lo => bnd mh fun hi => bnd (look o) fun d => ofO (gSl d lo hi)) env := rfl
@[simp] theorem mNoPart_run : mNoPart env = some (.ok none, env) := rfl
@[simp] theorem mPart_run (me : ExM) : mPart me env = bnd me (fun o => bnd (look o) intO) env := rfl
@[simp] theorem intO_run (i : Int) : intO (.int i) env = some (.ok (some i), env) := rfl
@[simp] theorem mYes_run : mYes env = some (.ok true, env) := rfl
end
end MM
/-! S13: == of texts -/
namespace L2
open PySem PySem.Spec PyProof.Rows
def rEqS (neg : Bool) : R2 := fun x y H Q => ∃ i j, x = .str i ∧ y = .str j ∧ Q (.bl (if neg then !(i == j) else i == j)) H
section
variable {X : Cx}
theorem op_eqS : OpR X (compareOp .Eq) (rEqS false) := by
  intro pins s σ H x y v u Q I rx ry h
  obtain ⟨i, j, rfl, rfl, q⟩ := h
  exact op_eq pins s σ H _ _ v u Q I rx ry ⟨rfl, by rw [dec_str]; exact q⟩
theorem op_neS : OpR X (compareOp .NotEq) (rEqS true) := by
  intro pins s σ H x y v u Q I rx ry h
  obtain ⟨i, j, rfl, rfl, q⟩ := h
  exact op_ne pins s σ H _ _ v u Q I rx ry ⟨rfl, by rw [dec_str]; exact q⟩
end
end L2
namespace MM
open PySem PySem.Spec L2
def gEqT (neg : Bool) : PyData → PyData → Option Slot
  | .str x, .str y => some (.p (.bool (if neg then !(x == y) else x == y)))
  | _, _ => none
section
variable {ki : Ki}
theorem opg_eqT {neg : Bool} : OpG ki (rEqS neg) (gEqT neg) := fun H L x y sx sy d e s g hx dx hy dy hs Q post => by
  have d1 := g.datDp hx dx
  have d2 := g.datDp hy dy
  cases d1 with
  | str i =>
    cases d2 with
    | str j => cases hs; exact ⟨i, j, rfl, rfl, post _ _ (g.push fun F => .bl _)⟩
    | _ => cases hs
  | _ => cases hs
end
@[simp] theorem gEqT_self (x : Str) : gEqT false (.str x) (.str x) = some (.p (.bool true)) := by
  show some (Slot.p (.bool (x == x))) = _
  rw [beq_self_eq_true]
end MM
/-! S14: constants of the top, part by part -/
namespace MM
open PySem PySem.Spec L2
theorem constD_tup {K : PySem.W.Frag} {a : Addr} {us : List Value} {n : Nat} {sl : Array (Option Value)} {ds : List PyData} (h : K.lookup a = some ⟨.type "tuple", none, .seq us.toArray n, sl⟩) (h2 : constAll K ds us = true) (h3 : us.length ≤ 1000000) : constD K (.tuple ds) (.ref a) = true := by
  rw [constD, h]
  show (constAll K ds us.toArray.toList && decide (us.toArray.size ≤ 1000000)) = true
  rw [List.toList_toArray, h2, List.size_toArray, decide_eq_true h3]; rfl
theorem constAll_nil {K : PySem.W.Frag} : constAll K [] [] = true := by rw [constAll]
theorem constAll_cons {K : PySem.W.Frag} {d : PyData} {ds : List PyData} {u : Value} {us : List Value} (h1 : constD K d u = true) (h2 : constAll K ds us = true) : constAll K (d :: ds) (u :: us) = true := by rw [constAll, h1, h2]; rfl
end MM
/-! S15: raise, try; texts in order, texts many times -/
namespace MM
open PySem PySem.Spec L2 MS
/-- an own class of exceptions at the top -/
structure ExH (K : PySem.W.Frag) (mg : Str → Option Value) (x : Str) where
  C : Addr
  g : mg x = some (.ref C)
  kp : PySem.W.keepIn K (.ref C) = true
  xp : PySem.W.excIn K C [.type "ValueError", .type "Exception", .type "BaseException", .type "object"] "ValueError.__new__" = true
  bp : PySem.W.subIn K (.ref C) (.type "BaseException") = some true
  tp : PySem.W.typeIn K (.ref C) = some (.type "type")
  ip : PySem.W.isClsIn K C = true
def exH_mk {K : PySem.W.Frag} {h : Heap} {mg : Str → Option Value} {x : Str} {C : Addr} (X : K.In h) (G : h.Ns mainGlobals mg) (a : PySem.W.nsIn K mainGlobals x = some (some (.ref C))) (kp : PySem.W.keepIn K (.ref C) = true)
    (xp : PySem.W.excIn K C [.type "ValueError", .type "Exception", .type "BaseException", .type "object"] "ValueError.__new__" = true) (bp : PySem.W.subIn K (.ref C) (.type "BaseException") = some true) (tp : PySem.W.typeIn K (.ref C) = some (.type "type")) (ip : PySem.W.isClsIn K C = true) : ExH K mg x :=
  ⟨C, PySem.W.mg_of X G a, kp, xp, bp, tp, ip⟩
theorem exH_sub {K : PySem.W.Frag} {h : Heap} {mg : Str → Option Value} {x y : Str} {C D : Addr} {b : Bool} (X : K.In h) (G : h.Ns mainGlobals mg) (e : ExH K mg x) (f : ExH K mg y) (a : PySem.W.nsIn K mainGlobals x = some (some (.ref C))) (c : PySem.W.nsIn K mainGlobals y = some (some (.ref D))) (s : PySem.W.subIn K (.ref C) (.ref D) = some b) : PySem.W.subIn K (.ref e.C) (.ref f.C) = some b := by
  have h1 := PySem.W.mg_of X G a
  have h2 := PySem.W.mg_of X G c
  rw [e.g] at h1
  rw [f.g] at h2
  cases h1
  cases h2
  exact s
theorem ExH.cl {K : PySem.W.Frag} {mg : Str → Option Value} {x : Str} (T : ExH K mg x) : clOf mg x = .ref T.C := by
  unfold clOf; rw [T.g]; rfl
section
variable {ki : Ki} {W : WX} {fx : FxL}
def sRaise (x : Str) : StM := fun env => some (.ex ⟨x, none⟩, env)
theorem rds_raise {x : Str} {C : Addr} (hc : ki.cl x = .ref C) : RdS ki W fx (fun _ σ H => (fun (_ : L2.St) (H : Hp) (Q : XK) => Q (.ref C) none H) σ H fun cls d H' => W cls d σ H') (sRaise x) := fun σ H env T fl env' hl hf g e D post => by
  cases e
  exact post (.ref C) none σ H hl rfl hf g ⟨hc.symm, fun pd h => nomatch h⟩
/-- try .. except c: cs tells of each class that may come whether the clause takes it -/
def sTry (cs : List (Str × Bool)) (mb ms : StM) : StM := fun env => match mb env with
  | some (.ex x, e) => (match cs.lookup x.c with
    | some true => ms e
    | some false => some (.ex x, e)
    | none => none)
  | r => r
theorem lookup_mem {α : Type} : ∀ {cs : List (Str × α)} {x : Str} {b : α}, cs.lookup x = some b → (x, b) ∈ cs
  | (y, c) :: cs, x, b, h => by
    rw [List.lookup_cons] at h
    cases q : x == y with
    | true =>
      rw [q] at h
      cases h
      rw [eq_of_beq q]
      exact List.mem_cons_self
    | false =>
      rw [q] at h
      exact List.mem_cons_of_mem _ (lookup_mem h)
theorem rds_try {c : Value} {tb : WX → TS} {ts : Addr → Value → Option Addr → TS} {cs : List (Str × Bool)} {mb ms : StM} (hb : ∀ W, RdS ki W fx (tb W) mb) (hs : ∀ a cls d, RdS ki W fx (ts a cls d) ms)
    (hc : ∀ p ∈ cs, PySem.W.exmOne ki.K (ki.cl p.1) c = some p.2) : RdS ki W fx (fun D σ H => tb (wOnly ki.K c ts W D) D σ H) (sTry cs mb ms) := fun σ H env T fl env' hl hf g e D post => by
  unfold sTry at e
  cases hm : mb env with
  | none => rw [hm] at e; cases e
  | some p =>
    obtain ⟨f1, e1⟩ := p
    rw [hm] at e
    cases f1 with
    | nx => cases e; exact hb _ σ H env T _ _ hl hf g hm D post
    | rt s => cases e; exact hb _ σ H env T _ _ hl hf g hm D post
    | bk => cases e; exact hb _ σ H env T _ _ hl hf g hm D post
    | ct => cases e; exact hb _ σ H env T _ _ hl hf g hm D post
    | ex x =>
      refine hb _ σ H env T _ _ hl hf g hm D ?_
      intro cls d σ' H' l1 l2 hf' g' hx
      have e : (match cs.lookup x.c with
        | some true => ms e1
        | some false => some (Fl.ex x, e1)
        | none => none) = some (fl, env') := e
      cases q : cs.lookup x.c with
      | none => rw [q] at e; cases e
      | some b =>
        rw [q] at e
        have k := hc _ (lookup_mem q)
        rw [← hx.1] at k
        refine ⟨b, k, fun hb1 a na => ?_, fun hb1 => ?_⟩
        · subst hb1
          exact hs a cls d σ' H' e1 T fl env' (l1.trans l2.symm) hf' g' e D (by rw [l2]; exact post)
        · subst hb1
          cases e
          exact post cls d σ' H' l1 l2 hf' g' hx
end
@[simp] theorem sRaise_run (x : Str) (env : Env) : sRaise x env = some (.ex ⟨x, none⟩, env) := rfl
@[simp] theorem sTry_run (cs : List (Str × Bool)) (mb ms : StM) (env : Env) : sTry cs mb ms env = match mb env with
  | some (.ex x, e) => (match cs.lookup x.c with
    | some true => ms e
    | some false => some (.ex x, e)
    | none => none)
  | r => r := rfl
/-! ### texts in order -/
def gLtS : PyData → PyData → Option Slot
  | .str x, .str y => some (.p (.bool (decide (x.cps.toList < y.cps.toList))))
  | _, _ => none
def gLeS : PyData → PyData → Option Slot
  | .str x, .str y => some (.p (.bool (!decide (y.cps.toList < x.cps.toList))))
  | _, _ => none
section
variable {ki : Ki}
theorem opg_ltS : OpG ki (fun x y H Q => ∃ i j, x = .str i ∧ y = .str j ∧ Q (.bl (decide (i.cps.toList < j.cps.toList))) H) gLtS := fun H L x y sx sy d e s g hx dx hy dy hs Q post => by
  have d1 := g.datDp hx dx
  have d2 := g.datDp hy dy
  cases d1 with
  | str i =>
    cases d2 with
    | str j => cases hs; exact ⟨i, j, rfl, rfl, post _ _ (g.push fun F => .bl _)⟩
    | _ => cases hs
  | _ => cases hs
theorem opg_leS : OpG ki (fun x y H Q => ∃ i j, x = .str i ∧ y = .str j ∧ Q (.bl (!decide (j.cps.toList < i.cps.toList))) H) gLeS := fun H L x y sx sy d e s g hx dx hy dy hs Q post => by
  have d1 := g.datDp hx dx
  have d2 := g.datDp hy dy
  cases d1 with
  | str i =>
    cases d2 with
    | str j => cases hs; exact ⟨i, j, rfl, rfl, post _ _ (g.push fun F => .bl _)⟩
    | _ => cases hs
  | _ => cases hs
end
end MM
namespace L2
open PySem PySem.Spec PyProof.Rows
/-- < of alike data -/
def rLtD (K : PySem.W.Frag) : R2 := fun x y H Q => ∃ d e, Dp K H x d ∧ Dp K H y e ∧ PySem.W.alike d e = true ∧ d ≠ .none ∧ d.depth ≤ 40 ∧ Q (.bl (PySem.W.dataLt d e)) H
theorem op_ltD {X : Cx} (hu : X.A.units + 64 < cLine) : OpR X (compareOp .Lt) (rLtD X.K) := by
  intro pins s σ H x y v u Q I rx ry h
  obtain ⟨d, e, hd, he, al, nn, dep, q⟩ := h
  obtain ⟨as, r1⟩ := Dp.reads I d x v hd rx
  obtain ⟨bs, r2⟩ := Dp.reads I e y u he ry
  exact PySem.W.rcLt_alike d e X.A s v u as bs r1 r2 al nn (by omega) X.prog X.w X.xe _ ⟨.bl _, H, I, rfl, q⟩
/-- a text many times -/
def rMulS : R2 := fun x y H Q => ∃ (z : Str) (n : Int), x = .str z ∧ y = .int n ∧ 0 ≤ n ∧ n ≤ 1000 ∧ z.length ≤ 1000 ∧ Q (.str ⟨((List.replicate n.toNat z.cps).foldl (· ++ ·) #[])⟩) H
end L2
namespace MM
open PySem PySem.Spec L2
def gLtD (d e : PyData) : Option Slot := if PySem.W.alike d e && !isN d && decide (d.depth ≤ 40) then some (.p (.bool (PySem.W.dataLt d e))) else none
theorem opg_ltD {ki : Ki} : OpG ki (rLtD ki.K) gLtD := fun H L x y sx sy d e s g hx dx hy dy hs Q post => by
  unfold gLtD at hs
  split at hs
  · rename_i hc
    cases hs
    simp only [Bool.and_eq_true] at hc
    exact ⟨d, e, g.datDp hx dx, g.datDp hy dy, hc.1.1, fun z => by rw [z] at hc; exact absurd hc.1.2 (by simp [isN]), of_decide_eq_true hc.2, post _ _ (g.push fun F => .bl _)⟩
  · cases hs
theorem exm_of2 {K : PySem.W.Frag} {S C : Addr} {b : Bool} (h1 : PySem.W.subIn K (.ref S) (.type "BaseException") = some true) (h2 : PySem.W.isClsIn K S = true) (h3 : PySem.W.typeIn K (.ref S) = some (.type "type")) (h4 : PySem.W.subIn K (.ref C) (.ref S) = some b) :
    PySem.W.exmOne K (.ref C) (.ref S) = some b := by
  have e1 : (PySem.W.subIn K (.ref S) (.type "BaseException") == some true) = true := by rw [h1] <;> rfl
  have e2 : ((PySem.W.clsIn K S).isSome && PySem.W.typeIn K (.ref S) == some (.type "type")) = true := by
    have h2' : (PySem.W.clsIn K S).isSome = true := h2
    rw [h2', h3] <;> rfl
  show (if (PySem.W.subIn K (.ref S) (.type "BaseException") == some true) = true then (if ((PySem.W.clsIn K S).isSome && PySem.W.typeIn K (.ref S) == some (.type "type")) = true then PySem.W.subIn K (.ref C) (.ref S) else none) else none) = some b
  rw [if_pos e1, if_pos e2]
  exact h4
/-- what a clause takes, by name -/
theorem ki_exm {K : PySem.W.Frag} {mg : Str → Option Value} {x y : Str} {b : Bool} (T : ExH K mg x) (U : ExH K mg y) (h : PySem.W.subIn K (.ref T.C) (.ref U.C) = some b) : PySem.W.exmOne K (clOf mg x) (.ref U.C) = some b := by
  rw [T.cl]
  exact exm_of2 U.bp U.ip U.tp h
end MM
/-! S16: lists of dicts of a name's own -/
namespace MM
open PySem PySem.Spec L2 MS
/-! ### simple parts: a name that holds data, a constant -/
def RdD (ki : Ki) (te : TE) (m : Env → Option PyData) : Prop := ∀ (σ : L2.St) (H : Hp) (env : Env) (T : Row) (d : PyData), σ.length = env.length → G ki H (zE σ env ++ T) → m env = some d → ∀ Q : VK, (∀ v, G ki H ((some v, .p d) :: (zE σ env ++ T)) → Q v H) → te σ H Q
def dV (i : Nat) : Env → Option PyData := fun env => match env[i]? with
  | some (.p d) => some d
  | _ => none
def dC (d : PyData) : Env → Option PyData := fun _ => some d
section
variable {ki : Ki} {W : WX} {fx : FxL}
theorem rdD_var {i : Nat} : RdD ki (tVar i) (dV i) := fun σ H env T d hl g e Q post => by
  unfold dV at e
  split at e
  · rename_i d' hd
    cases e
    obtain ⟨o, ho⟩ := lenGet hl hd
    have hm := List.mem_append_left T (zE_mem ho hd)
    obtain ⟨v, rfl, _⟩ := g.dq hm
    exact ⟨v, ho, post v (g.copy hm)⟩
  · cases e
theorem rdD_c {v : V} {d : PyData} (h : ∀ F, Dq ki.K F v d) : RdD ki (tC v) (dC d) := fun σ H env T d' hl g e Q post => by
  cases e
  exact post v (g.push h)
/-! ### one thing of a list, taken out and laid back -/
theorem perm_erase {α : Type} : ∀ (l : List α) (j : Nat) (h : j < l.length), l.Perm (l[j] :: l.eraseIdx j)
  | _ :: _, 0, _ => List.Perm.refl _
  | x :: l, j + 1, h => ((perm_erase l j (by simpa using h)).cons x).trans (List.Perm.swap _ _ _)
theorem zip_out {α β : Type} (a : List α) (b : List β) (j : Nat) {x : α} {y : β} (h1 : a[j]? = some x) (h2 : b[j]? = some y) : ∃ R, (a.zip b).Perm ((x, y) :: R) ∧ ∀ y', (a.zip (b.set j y')).Perm ((x, y') :: R) := by
  have hz : (a.zip b)[j]? = some (x, y) := List.getElem?_zip_eq_some.mpr ⟨h1, h2⟩
  obtain ⟨hj, e⟩ := List.getElem?_eq_some_iff.mp hz
  refine ⟨(a.zip b).eraseIdx j, ?_, fun y' => ?_⟩
  · rw [← e]
    exact perm_erase _ j hj
  · have es : a.zip (b.set j y') = (a.zip b).set j (x, y') := by
      apply List.ext_getElem?
      intro i
      by_cases hi : j = i
      · subst hi
        rw [List.getElem?_set_self hj]
        have hjb : j < b.length := (List.getElem?_eq_some_iff.mp h2).1
        exact List.getElem?_zip_eq_some.mpr ⟨h1, List.getElem?_set_self hjb⟩
      · rw [List.getElem?_set_ne hi]
        simp only [List.zip, List.getElem?_zipWith]
        rw [List.getElem?_set_ne hi]
    rw [es]
    have hj2 : j < ((a.zip b).set j (x, y')).length := by rw [List.length_set]; exact hj
    have p := perm_erase _ j hj2
    rw [List.getElem_set_self, List.eraseIdx_set_eq] at p
    exact p
/-- the thing at j of the list at i stands on top; the list waits -/
theorem foc {σ : L2.St} {env : Env} {i j : Nat} {xs : List Slot} {s : Slot} {H : Hp} {T : Row} (hl : σ.length = env.length) (g : G ki H (zE σ env ++ T)) (hx : env[i]? = some (.l xs)) (hs : xs[j]? = some s) :
    ∃ l vs v B, σ[i]? = some (some (V.ref l)) ∧ H l = some (.lst vs) ∧ vs.length = xs.length ∧ vs[j]? = some v ∧ Good ki.K H [l] ((some v, s) :: (B ++ T)) ∧
      ∀ H' s' A, H' l = some (.lst vs) → Good ki.K H' [l] ((some v, s') :: (A ++ (B ++ T))) → G ki H' (A ++ (zE σ (env.set i (.l (xs.set j s'))) ++ T)) := by
  obtain ⟨o, ho⟩ := lenGet hl hx
  have g1 := slotOut hl ho hx g
  obtain ⟨l, vs, e, hH, len, g2⟩ := g1.open_
  subst e
  have hjx : j < xs.length := (List.getElem?_eq_some_iff.mp hs).1
  obtain ⟨v, hv⟩ : ∃ v, vs[j]? = some v := ⟨_, List.getElem?_eq_getElem (by omega)⟩
  obtain ⟨R, p1, p2⟩ := zip_out (vs.map some) xs j (x := some v) (y := s) (by rw [List.getElem?_map, hv]; rfl) hs
  refine ⟨l, vs, v, R ++ zE (σ.set i none) (env.set i .un), ho, hH, len, hv, ?_, fun H' s' A hH' g3 => ?_⟩
  · refine g2.perm ?_
    rw [List.append_assoc]
    exact List.Perm.append_right _ p1
  · have g4 : Good ki.K H' [l] (zS vs (xs.set j s') ++ (A ++ (zE (σ.set i none) (env.set i .un) ++ T))) := by
      refine g3.perm ?_
      have q : ((some v, s') :: (A ++ ((R ++ zE (σ.set i none) (env.set i .un)) ++ T))).Perm (((some v, s') :: R) ++ (A ++ (zE (σ.set i none) (env.set i .un) ++ T))) := by
        refine List.Perm.cons _ ?_
        show (A ++ ((R ++ zE (σ.set i none) (env.set i .un)) ++ T)).Perm (R ++ (A ++ (zE (σ.set i none) (env.set i .un) ++ T)))
        rw [List.append_assoc, ← List.append_assoc, ← List.append_assoc R]
        exact List.Perm.append_right _ List.perm_append_comm
      exact q.trans (List.Perm.append_right _ (p2 s').symm)
    have g5 := g4.close hH' (by rw [List.length_set]; exact len)
    have g6 : G ki H' ((some (V.ref l), .l (xs.set j s')) :: (zE (σ.set i none) (env.set i .un) ++ (A ++ T))) := by
      refine g5.perm (List.Perm.cons _ ?_)
      rw [← List.append_assoc, ← List.append_assoc]
      exact List.Perm.append_right _ List.perm_append_comm
    have g7 := slotIn hl ho g6
    refine g7.perm ?_
    rw [← List.append_assoc, ← List.append_assoc]
    exact List.Perm.append_right _ List.perm_append_comm
theorem set_back {env : Env} {i j : Nat} {xs : List Slot} {s : Slot} (hx : env[i]? = some (.l xs)) (hs : xs[j]? = some s) : env.set i (.l (xs.set j s)) = env := by
  have e : xs.set j s = xs := by
    apply List.ext_getElem?
    intro k
    by_cases hk : j = k
    · subst hk; rw [List.getElem?_set_self (List.getElem?_eq_some_iff.mp hs).1]; exact hs.symm
    · rw [List.getElem?_set_ne hk]
  rw [e]
  apply List.ext_getElem?
  intro k
  by_cases hk : i = k
  · subst hk; rw [List.getElem?_set_self (List.getElem?_eq_some_iff.mp hx).1]; exact hx.symm
  · rw [List.getElem?_set_ne hk]
/-- the dict at place c of the list at i -/
def atLD (env : Env) (i : Nat) (c : PyData) : Option (Nat × List (Key × Slot)) := match env[i]?, c with
  | some (.l xs), .int k => (ixN xs.length k).bind fun j => match xs[j]? with
    | some (.m ks) => some (j, ks)
    | _ => none
  | _, _ => none
theorem atLD_inv {env : Env} {i : Nat} {c : PyData} {j : Nat} {ks : List (Key × Slot)} (h : atLD env i c = some (j, ks)) : ∃ xs k, env[i]? = some (.l xs) ∧ c = .int k ∧ ixN xs.length k = some j ∧ xs[j]? = some (.m ks) := by
  unfold atLD at h
  split at h
  · rename_i xs k hx
    obtain ⟨j', h1, h2⟩ := Option.bind_eq_some_iff.mp h
    split at h2
    · rename_i ks' hs
      cases h2
      exact ⟨xs, k, hx, rfl, h1, hs⟩
    · cases h2
  · cases h
/-- where the dict stands: its place is read, all is as before -/
theorem ld_use {tc : TE} {mc : Env → Option PyData} {i : Nat} (hc : RdD ki tc mc) {σ : L2.St} {H : Hp} {env : Env} {T : Row} {c : PyData} {j : Nat} {ks : List (Key × Slot)} (hl : σ.length = env.length) (g : G ki H (zE σ env ++ T)) (ec : mc env = some c) (e : atLD env i c = some (j, ks)) {Q : VK}
    (go : ∀ (l a : Addr) (vs : List V) (kvs : List (Key × V)) (B : Row), H l = some (.lst vs) → H a = some (.dK kvs) → kvs.map (·.1) = ks.map (·.1) → Good ki.K H [a, l] (zM kvs ks ++ (B ++ T)) →
      (∀ H' s' A, H' l = some (.lst vs) → Good ki.K H' [l] ((some (V.ref a), s') :: (A ++ (B ++ T))) → ∃ xs, env[i]? = some (.l xs) ∧ xs[j]? = some (.m ks) ∧ G ki H' (A ++ (zE σ (env.set i (.l (xs.set j s'))) ++ T))) → Q (.ref a) H) : tOp (rIx ki.K) (tVar i) tc σ H Q := by
  obtain ⟨xs, k, hx, rfl, hj, hs⟩ := atLD_inv e
  obtain ⟨l, vs, v, B, ho, hH, len, hv, g1, back⟩ := foc hl g hx hs
  obtain ⟨a, kvs, e1, ha, keys, g2⟩ := g1.openM
  cases e1
  refine ⟨.ref l, ho, ?_⟩
  refine hc σ H env T _ hl g ec _ fun vc gc => ?_
  have dk := gc.datDp (x := vc) (s := .p (.int k)) (d := .int k) List.mem_cons_self rfl
  cases dpInt dk
  refine .inl ⟨l, vs, k, .ref a, rfl, rfl, SqL.of hH, ?_, go l a vs kvs B hH ha keys g2 fun H' s' A h1 h2 => ⟨xs, hx, hs, back H' s' A h1 h2⟩⟩
  unfold atI
  rw [len, hj]
  exact hv
/-- x[c].get(k, d) -/
def mLDGet (i : Nat) (mc mk md : Env → Option PyData) : ExM := fun env => (mc env).bind fun c => (mk env).bind fun k => (md env).bind fun d => (atLD env i c).bind fun p => (keyD k).bind fun ky => match valS p.2 ky with
  | some (.p e) => some (.ok (.val (.p e)), env)
  | none => some (.ok (.val (.p d)), env)
  | _ => none
theorem rd_ldget {i : Nat} {tc ty tx : TE} {mc mk md : Env → Option PyData} (hc : RdD ki tc mc) (hk : RdD ki ty mk) (hd : RdD ki tx md) : Rd ki W (tDGet2 (tOp (rIx ki.K) (tVar i) tc) ty tx) (mLDGet i mc mk md) := fun σ H env T r env' hl g e Q post => by
  unfold mLDGet at e
  obtain ⟨c, ec, e⟩ := Option.bind_eq_some_iff.mp e
  obtain ⟨k, ek, e⟩ := Option.bind_eq_some_iff.mp e
  obtain ⟨d, ed, e⟩ := Option.bind_eq_some_iff.mp e
  obtain ⟨⟨j, ks⟩, el, e⟩ := Option.bind_eq_some_iff.mp e
  obtain ⟨ky, ey, e⟩ := Option.bind_eq_some_iff.mp e
  refine ld_use hc hl g ec el fun l a vs kvs B hH ha keys g1 back => ?_
  refine ⟨a, rfl, .inl ⟨kvs, .inl ha⟩, ?_⟩
  refine hk σ H env T k hl g ek _ fun vk gk => ?_
  have hkv := keyD_V (gk.datDp (x := vk) (s := .p k) (d := k) List.mem_cons_self rfl) ey
  subst hkv
  refine hd σ H env T d hl g ed _ fun vd gd => ?_
  refine ⟨valV kvs ky, .inl ⟨kvs, ky, .inl ha, rfl, rfl⟩, ?_⟩
  obtain ⟨q1, q2⟩ := valS_at (k := ky) keys
  split at e
  · rename_i d2 hd2
    cases e
    obtain ⟨v, ev, hm⟩ := q1 _ hd2
    rw [ev]
    have g2 := (g1.copy (o := some v) (d := d2) (List.mem_append_left _ hm))
    have g3 : Good ki.K H (a :: [l]) (zM kvs ks ++ ([(some v, .p d2)] ++ (B ++ T))) := g2.perm (by
      show ((some v, Slot.p d2) :: (zM kvs ks ++ (B ++ T))).Perm (zM kvs ks ++ ((some v, .p d2) :: (B ++ T)))
      exact List.perm_middle.symm)
    have g4 := g3.closeM ha keys
    obtain ⟨xs, hx, hs, g5⟩ := back H (.m ks) [(some v, .p d2)] hH g4
    rw [set_back hx hs] at g5
    exact post v H rfl (toTop g5) trivial
  · rename_i hd2
    cases e
    rw [q2 hd2]
    exact post vd H rfl (toTop gd) trivial
  · cases e
/-- x[c][k] -/
def mLDIx (i : Nat) (mc mk : Env → Option PyData) : ExM := fun env => (mc env).bind fun c => (mk env).bind fun k => (atLD env i c).bind fun p => (keyD k).bind fun ky => match valS p.2 ky with
  | some (.p e) => some (.ok (.val (.p e)), env)
  | _ => none
theorem rd_ldix {i : Nat} {tc ty : TE} {mc mk : Env → Option PyData} (hc : RdD ki tc mc) (hk : RdD ki ty mk) : Rd ki W (tDGet (tOp (rIx ki.K) (tVar i) tc) ty) (mLDIx i mc mk) := fun σ H env T r env' hl g e Q post => by
  unfold mLDIx at e
  obtain ⟨c, ec, e⟩ := Option.bind_eq_some_iff.mp e
  obtain ⟨k, ek, e⟩ := Option.bind_eq_some_iff.mp e
  obtain ⟨⟨j, ks⟩, el, e⟩ := Option.bind_eq_some_iff.mp e
  obtain ⟨ky, ey, e⟩ := Option.bind_eq_some_iff.mp e
  refine ld_use hc hl g ec el fun l a vs kvs B hH ha keys g1 back => ?_
  refine hk σ H env T k hl g ek _ fun vk gk => ?_
  have hkv := keyD_V (gk.datDp (x := vk) (s := .p k) (d := k) List.mem_cons_self rfl) ey
  subst hkv
  obtain ⟨q1, q2⟩ := valS_at (k := ky) keys
  split at e
  · rename_i d2 hd2
    cases e
    obtain ⟨v, ev, hm⟩ := q1 _ hd2
    refine ⟨a, v, rfl, .inl ⟨kvs, ky, .inl ha, rfl, ev.symm⟩, ?_⟩
    have g2 := (g1.copy (o := some v) (d := d2) (List.mem_append_left _ hm))
    have g3 : Good ki.K H (a :: [l]) (zM kvs ks ++ ([(some v, .p d2)] ++ (B ++ T))) := g2.perm (by
      show ((some v, Slot.p d2) :: (zM kvs ks ++ (B ++ T))).Perm (zM kvs ks ++ ((some v, .p d2) :: (B ++ T)))
      exact List.perm_middle.symm)
    have g4 := g3.closeM ha keys
    obtain ⟨xs, hx, hs, g5⟩ := back H (.m ks) [(some v, .p d2)] hH g4
    rw [set_back hx hs] at g5
    exact post v H rfl (toTop g5) trivial
  · cases e
/-- list(x[c]): the keys -/
def keyD' : Key → PyData := L2.keyP
def rListD : List V → Hp → VK → Prop := fun xs H Q => ∃ (a : Addr) (kvs : List (Key × V)), xs = [.ref a] ∧ L2.Rd H a (.dK kvs) ∧ ∀ p, H p = none → Q (.ref p) (upd H p (.lst (kvs.map fun kv => kV kv.1)))
def mLDKeys (i : Nat) (mc : Env → Option PyData) : ExM := fun env => (mc env).bind fun c => (atLD env i c).map fun p => (.ok (.val (.l (p.2.map fun q => .p (L2.keyP q.1)))), env)
theorem rd_ldkeys {i : Nat} {tc : TE} {mc : Env → Option PyData} (hc : RdD ki tc mc) : Rd ki W (tCB rListD (tCons (tOp (rIx ki.K) (tVar i) tc) tNil)) (mLDKeys i mc) := fun σ H env T r env' hl g e Q post => by
  unfold mLDKeys at e
  obtain ⟨c, ec, e⟩ := Option.bind_eq_some_iff.mp e
  obtain ⟨⟨j, ks⟩, el, e⟩ := Option.map_eq_some_iff.mp e
  cases e
  show tOp (rIx ki.K) (tVar i) tc σ H fun v H1 => rListD [v] H1 Q
  refine ld_use hc hl g ec el fun l a vs kvs B hH ha keys g1 back => ?_
  refine ⟨a, kvs, rfl, .inl ha, fun p np => ?_⟩
  have row : ∀ kv : List (Key × V), G ki H (zP (kv.map fun q => kV q.1) (kv.map fun q => L2.keyP q.1) ++ (zE σ env ++ T)) := fun kv => by
    induction kv with
    | nil => exact g
    | cons q kv ih => exact ih.push fun F => keyP_dq q.1
  have g2 := (row kvs).newList np (by rw [List.length_map, List.length_map])
  have ek : (kvs.map fun q => L2.keyP q.1).map Slot.p = ks.map fun q => .p (L2.keyP q.1) := by
    have e1 : (kvs.map fun q => L2.keyP q.1) = (kvs.map (·.1)).map L2.keyP := by rw [List.map_map]; rfl
    have e2 : (ks.map fun q => Slot.p (L2.keyP q.1)) = ((ks.map (·.1)).map L2.keyP).map .p := by rw [List.map_map, List.map_map]; rfl
    rw [e1, e2, keys]
  rw [ek] at g2
  exact post _ _ rfl (toTop g2) trivial
/-- x[c][k] = e -/
def sLDSet (i : Nat) (mv : ExM) (mc mk : Env → Option PyData) : StM := bndS mv fun ov env => ov.own.bind fun e => (mc env).bind fun c => (mk env).bind fun k => (atLD env i c).bind fun p => (keyD k).bind fun ky => match env[i]? with
  | some (.l xs) => if smallL p.2.length then some (.nx, env.set i (.l (xs.set p.1 (.m (putS p.2 ky (.p e)))))) else none
  | _ => none
theorem rds_ldput {i : Nat} {tv tc ty : TE} {mv : ExM} {mc mk : Env → Option PyData} (hv : Rd ki W tv mv) (hc : RdD ki tc mc) (hk : RdD ki ty mk) : RdS ki W fx (sDPut (tOp (rIx ki.K) (tVar i) tc) ty tv) (sLDSet i mv mc mk) := fun σ H env T fl env' hl hf gd e D post => by
  refine hv.useS hl hf gd e post fun o v H1 env1 n1 g1 i1 e => ?_
  obtain ⟨dv, ed, x1⟩ := Option.bind_eq_some_iff.mp e
  obtain ⟨c, ec, x2⟩ := Option.bind_eq_some_iff.mp x1
  obtain ⟨k, ek, x3⟩ := Option.bind_eq_some_iff.mp x2
  obtain ⟨⟨j, ks⟩, el, x4⟩ := Option.bind_eq_some_iff.mp x3
  obtain ⟨ky, ey, x5⟩ := Option.bind_eq_some_iff.mp x4
  clear e x1 x2 x3 x4
  cases o with
  | ref _ => cases ed
  | val s =>
    have hl1 : σ.length = env1.length := hl.trans n1.symm
    have gz : G ki H1 (zE σ env1 ++ ((some v, .p dv) :: T)) := toTop ((g1.perm List.perm_middle).frz ed)
    refine ld_use hc hl1 gz ec el fun l a vs kvs B hH ha keys g2 back => ?_
    refine hk σ H1 env1 ((some v, .p dv) :: T) k hl1 gz ek _ fun vk gk => ?_
    have hkv := keyD_V (gk.datDp (x := vk) (s := .p k) (d := k) List.mem_cons_self rfl) ey
    subst hkv
    split at x5
    · rename_i xs hx
      split at x5
      · rename_i hz
        cases x5
        have hz := of_decide_eq_true hz
        have g3 : Good ki.K H1 (a :: [l]) (zM kvs ks ++ ((some v, .p dv) :: (B ++ ((some v, .p dv) :: T)))) :=
          (g2.copy (o := some v) (d := dv) (List.mem_append_right _ (List.mem_append_right _ List.mem_cons_self))).perm List.perm_middle.symm
        have g4 := g3.closeM ha keys
        obtain ⟨kvs2, hk2, len2, g5⟩ := g4.putTop (k := ky)
        rw [ha] at hk2
        cases hk2
        have ne : l ≠ a := fun q => by rw [q, ha] at hH; cases hH
        obtain ⟨xs2, hx2, hs2, g6⟩ := back (upd H1 a (.dK (putK kvs ky v))) (.m (putS ks ky (.p dv))) [] (by rw [upd_ne ne]; exact hH) g5
        rw [hx] at hx2
        cases hx2
        refine ⟨a, _, rfl, .inl ⟨kvs, ky, ha, rfl, Nat.lt_of_lt_of_le (show kvs.length < 1000001 by have : (j, ks).2.length = ks.length := rfl; omega) (by decide), rfl⟩, ?_⟩
        exact post σ _ hl (by rw [List.length_set]; exact n1) hf (dropTop g6)
      · cases x5
    · cases x5
end
end MM
/-! S17: sorted(x[c].items()); comprehensions whose things are dicts, lists -/
namespace MM
open PySem PySem.Spec L2 MS
section
variable {ki : Ki} {W : WX}
theorem sortIt_go {H : Hp} {L : Row} {a p : Addr} {kvs : List (Key × V)} {kds : List (Key × PyData)} (gA : G ki H (zP (kvs.map (·.2)) (kds.map (·.2)) ++ L)) (ha : H a = some (.dK kvs)) (keys' : kvs.map (·.1) = kds.map (·.1)) (hc1 : sortB (kds.map prD) = true) (hc2 : (kds.all fun z => decide (z.2.depth ≤ 40)) = true)
    (np : H p = none) {Q : VK} (post : ∀ l H', G ki H' ((some (V.ref l), .l ((srt (kds.map prD)).map .p)) :: L) → Q (.ref l) H') : rSortIt ki.K [.ref p] (upd H p (L2.DX.itemsO p a)) Q := by
  have len : kvs.length = kds.length := by have := congrArg List.length keys'; simpa using this
  have ne : a ≠ p := fun z => by rw [z, np] at ha; cases ha
  have dp2 : DpAll ki.K (upd H p (L2.DX.itemsO p a)) (kvs.map (·.2)) (kds.map (·.2)) := by
    have g3 := (Good.ext gA (H' := upd H p (L2.DX.itemsO p a)) (fun b u q => by rw [upd_ne (fun z => by rw [z, np] at q; cases q)]; exact q))
    exact g3.dpAll (by rw [List.length_map, List.length_map]; exact len)
  refine ⟨p, a, kvs, kds.map (·.2), rfl, upd_same, by rw [upd_ne ne]; exact ha, dp2, ?_, ?_, ?_⟩
  · have := zip3_map (as := kvs.map fun _ => 0) (by rw [List.length_map]) keys'
    rw [zip3_prP (by rw [List.length_map]) (by rw [List.length_map]; exact len)] at this
    rw [this]
    exact sortB_all hc1
  · intro d hd
    obtain ⟨z, hz, rfl⟩ := List.mem_map.mp hd
    have := List.all_eq_true.mp hc2 z hz
    exact of_decide_eq_true this
  · intro H' l as hex hl0 hnl nd hnew las htup hlst
    have hex0 : Ex H H' := fun b u q => hex b u (by rw [upd_ne (fun z => by rw [z, np] at q; cases q)]; exact q)
    have hnone : ∀ t, upd H p (L2.DX.itemsO p a) t = none → H t = none := fun t q => by
      by_cases z : t = p
      · rw [z, upd_same] at q; cases q
      · rw [upd_ne z] at q; exact q
    have lz := zip3_len las (show kvs.length = (kds.map (·.2)).length by rw [List.length_map]; exact len)
    have e1 : (zip3 as kvs (kds.map (·.2))).map (·.1) = as := by
      unfold zip3
      exact List.map_fst_zip (by rw [List.length_zip, List.length_map]; omega)
    have inRow : ∀ z ∈ zip3 as kvs (kds.map (·.2)), H z.1 = none ∧ H' z.1 = some (.tup [kV z.2.1.1, z.2.1.2]) ∧ (some z.2.1.2, Slot.p z.2.2) ∈ zP (kvs.map (·.2)) (kds.map (·.2)) ++ L := by
      intro z hz
      obtain ⟨j, hj⟩ := List.mem_iff_getElem?.mp hz
      obtain ⟨z1, z2, z3⟩ := zip3_at hj
      refine ⟨hnone _ (hnew _ (List.mem_of_getElem? z1)), htup (z.1, z.2.1) (List.mem_of_getElem? (List.getElem?_zip_eq_some.mpr ⟨z1, z2⟩)), List.mem_append_left _ (zP_at (i := j) ?_ z3)⟩
      rw [List.getElem?_map, z2]; rfl
    obtain ⟨H1, x1, x2, gB⟩ := layRow (H' := H') (zip3 as kvs (kds.map (·.2))) H _ gA hex0 (by rw [e1]; exact nd) inRow
    have gC : G ki H1 (tupRow (zip3 as kvs (kds.map (·.2))) ++ L) := dropMid gB
    have hs : (zip3 as kvs (kds.map (·.2))).mergeSort (PySem.W.dataLe false prP) |>.Perm (zip3 as kvs (kds.map (·.2))) := List.mergeSort_perm _ _
    have gD : G ki H1 (tupRow ((zip3 as kvs (kds.map (·.2))).mergeSort (PySem.W.dataLe false prP)) ++ L) := gC.perm (List.Perm.append_right _ (hs.symm.map _))
    have hsrt : ((zip3 as kvs (kds.map (·.2))).mergeSort (PySem.W.dataLe false prP)).map prP = srt (kds.map prD) := by
      unfold srt
      rw [← zip3_map las keys']
      exact List.map_mergeSort fun a _ b _ => rfl
    have hz : tupRow ((zip3 as kvs (kds.map (·.2))).mergeSort (PySem.W.dataLe false prP)) = zP (((zip3 as kvs (kds.map (·.2))).mergeSort (PySem.W.dataLe false prP)).map fun z => V.ref z.1) (srt (kds.map prD)) := by
      rw [← hsrt]
      unfold tupRow zP
      rw [List.map_map, List.map_map]
      generalize (zip3 as kvs (kds.map (·.2))).mergeSort (PySem.W.dataLe false prP) = ys
      induction ys with
      | nil => rfl
      | cons y ys ih => rw [List.map_cons, List.map_cons, List.map_cons, List.zip_cons_cons, ih]; rfl
    rw [hz] at gD
    have hl1 : H1 l = none := by
      rw [x2 l (by rw [e1]; exact hnl)]
      exact hnone _ hl0
    have gE := gD.newList hl1 (by rw [← hsrt, List.length_map, List.length_map])
    have x3 : Ex (upd H1 l (.lst (((zip3 as kvs (kds.map (·.2))).mergeSort (PySem.W.dataLe false prP)).map fun z => V.ref z.1))) H' := fun b u q => by
      by_cases hb : b = l
      · subst hb; rw [upd_same] at q; rw [hlst]; exact q
      · rw [upd_ne hb] at q; exact x1 b u q
    exact post _ _ (gE.ext x3)
/-- sorted(x[c].items()) -/
def mLDSort (i : Nat) (mc : Env → Option PyData) : ExM := fun env => (mc env).bind fun c => (atLD env i c).bind fun p => (kdsS p.2).bind fun kds => if sortB (kds.map prD) = true ∧ (kds.all fun z => decide (z.2.depth ≤ 40)) = true then some (.ok (.val (.l ((srt (kds.map prD)).map .p))), env) else none
theorem rd_ldsort {i : Nat} {tc : TE} {mc : Env → Option PyData} (hc : RdD ki tc mc) : Rd ki W (tCB (rSortIt ki.K) (tCons (tBM0 ki.K "dict" rItemsV (tOp (rIx ki.K) (tVar i) tc)) tNil)) (mLDSort i mc) := fun σ H env T r env' hl g e Q post => by
  unfold mLDSort at e
  obtain ⟨c, ec, x1⟩ := Option.bind_eq_some_iff.mp e
  obtain ⟨⟨j, ks⟩, el, x2⟩ := Option.bind_eq_some_iff.mp x1
  obtain ⟨kds, ek, x3⟩ := Option.bind_eq_some_iff.mp x2
  clear e x1 x2
  have hks := kdsS_eq ek
  simp only at hks
  subst hks
  split at x3
  · rename_i hcc
    cases x3
    show tOp (rIx ki.K) (tVar i) tc σ H fun v H1 => tyV ki.K "dict" v H1 ∧ rItemsV v [] H1 fun x H2 => rSortIt ki.K [x] H2 Q
    refine ld_use hc hl g ec el fun l a vs kvs B hH ha keys g2 back => ?_
    refine ⟨ty_dict ha, a, kvs, rfl, rfl, ha, fun p np => ?_⟩
    have keys' : kvs.map (·.1) = kds.map (·.1) := by
      rw [keys]; unfold kS; rw [List.map_map]; rfl
    rw [zM_kS] at g2
    have g3 := Good.elems (A := []) g2 (zP (kvs.map (·.2)) (kds.map (·.2))) fun _ h => h
    have g4 : Good ki.K H (a :: [l]) (zM kvs (kS kds) ++ (zP (kvs.map (·.2)) (kds.map (·.2)) ++ (B ++ T))) := by rw [zM_kS]; exact g3
    have g5 := g4.closeM ha keys
    obtain ⟨xs, hx, hs, g6⟩ := back H (.m (kS kds)) (zP (kvs.map (·.2)) (kds.map (·.2))) hH g5
    rw [set_back hx hs] at g6
    exact sortIt_go g6 ha keys' hcc.1 hcc.2 np fun l H' g => post _ _ rfl (toTop g) trivial
  · cases x3
end
/-! ### comprehensions that gather anything of its own -/
def compS {α : Type} (own : List Nat) (tg : α → Env → Option Env) (mt : Mir Bool) (me : ExM) : List α → List Slot → Env → Option (List Slot × Env)
  | [], acc, env => some (acc, env)
  | x :: xs, acc, env => (tg x env).bind fun e1 => match mt e1 with
    | some (.ok true, e2) => (match me e2 with
      | some (.ok (.val s), e3) => compS own tg mt me xs (acc ++ [s.fz]) (wipeE e3 own)
      | _ => none)
    | some (.ok false, e2) => compS own tg mt me xs acc (wipeE e2 own)
    | _ => none
def mCompS {α : Type} (own : List Nat) (mi : Mir (List α)) (tg : α → Env → Option Env) (mt : Mir Bool) (me : ExM) : ExM := bnd mi fun ds => fun env =>
  if ds.length ≤ 1000000 then (compS own tg mt me ds [] (wipeE env own)).map fun p => (.ok (.val (.l p.1)), resE env p.2 own) else none
theorem rd_compS {α : Type} {Y : Yl α} {ki : Ki} {W : WX} {wi : TI} {g : TG} {tt : TT} {te : TE} {own ws : List Nat} {mi : Mir (List α)} {tg : α → Env → Option Env} {mt : Mir Bool} {me : ExM}
    (hi : RdI ki W wi mi Y) (hg : RdGA ki g ws Y tg) (hws : ∀ j ∈ ws, j ∈ own) (ht : RdT ki W0 tt mt) (he : Rd ki W0 te me) : Rd ki W (tLc wi g tt te own) (mCompS own mi tg mt me) := fun σ H env T r env' hl gd e Q post => by
  refine hi.use (E := []) hl gd e post fun ds J H1 env1 x0 n1 wk g1 e => ?_
  by_cases hz : ds.length ≤ 1000000
  case neg => rw [if_neg hz] at e; cases e
  rw [if_pos hz] at e
  obtain ⟨⟨accF, envF⟩, q1, q2⟩ := Option.map_eq_some_iff.mp e
  cases q2
  intro D hD
  have g1' : G ki H1 (zE σ env1 ++ (x0 ++ T)) := g1
  have g2 := Good.newList (vs := []) (ds := []) g1' hD rfl
  have hl1 : σ.length = env1.length := hl.trans n1.symm
  have g3 : G ki (upd H1 D (.lst [])) (zE σ env1 ++ ((some (.ref D), .l []) :: (x0 ++ T))) := toTop g2
  have g4 := saveAll hl1 own g3
  have g5 : G ki (upd H1 D (.lst [])) (zE (wipe σ own) (wipeE env1 own) ++ ((some (.ref D), .l []) :: (x0 ++ (svR σ env1 own ++ T)))) := by
    refine g4.perm (List.Perm.append_left _ ?_)
    refine List.perm_middle.trans (List.Perm.cons _ ?_)
    rw [← List.append_assoc, ← List.append_assoc]
    exact List.Perm.append_right _ List.perm_append_comm
  refine ⟨fun i m H => m = ds.length - i ∧ i ≤ ds.length ∧ ∃ (acc : List Slot) (en : Env), en.length = env1.length ∧ acc.length ≤ i ∧ G ki H (zE (wipe σ own) en ++ ((some (.ref D), .l acc) :: (x0 ++ (svR σ env1 own ++ T)))) ∧ compS own tg mt me (ds.drop i) acc en = some (accF, envF),
    ⟨ds.length, by simp, Nat.zero_le _, [], wipeE env1 own, wipeE_length _ _, Nat.le_refl _, g5, q1⟩, ?_⟩
  rintro i m Hi ⟨rfl, hile, acc, en, hen, hacc, gi, qi⟩
  have gx : G ki Hi (x0 ++ (zE (wipe σ own) en ++ ((some (.ref D), .l acc) :: (svR σ env1 own ++ T)))) := by
    refine gi.perm ?_
    refine (List.Perm.append_left _ List.perm_middle.symm).trans ?_
    rw [← List.append_assoc, ← List.append_assoc]
    exact List.Perm.append_right _ List.perm_append_comm
  by_cases hlt : i < ds.length
  case neg =>
    have ei : i = ds.length := by omega
    subst ei
    refine .inl ⟨wk.stops _ _ gx, ?_⟩
    rw [List.drop_length] at qi
    cases qi
    have g6 : G ki Hi (zE (wipe σ own) envF ++ (svR σ env1 own ++ ((some (.ref D), .l accF) :: T))) := by
      have g7 : G ki Hi ((zE (wipe σ own) envF ++ [(some (V.ref D), Slot.l accF)]) ++ (x0 ++ (svR σ env1 own ++ T))) := by
        rw [List.append_assoc]; exact gi
      have g8 := dropMid g7
      rw [List.append_assoc] at g8
      refine g8.perm (List.Perm.append_left _ ?_)
      show ((some (V.ref D), Slot.l accF) :: (svR σ env1 own ++ T)).Perm _
      exact List.perm_middle.symm
    exact post _ _ (by rw [resE_length]; exact hen.trans n1) (putBack hl1 own _ hen g6) trivial
  obtain ⟨d, hd⟩ : ∃ d, ds[i]? = some d := ⟨ds[i], List.getElem?_eq_getElem hlt⟩
  have hdrop : ds.drop i = d :: ds.drop (i + 1) := by
    rw [List.drop_eq_getElem_cons hlt]
    rw [List.getElem?_eq_getElem hlt] at hd
    rw [Option.some.inj hd]
  rw [hdrop] at qi
  obtain ⟨e1, p1, p2⟩ := Option.bind_eq_some_iff.mp (show (tg d en).bind _ = some (accF, envF) from qi)
  refine .inr ⟨wk.goes i _ _ hlt gx, fun H' => ∃ (acc' : List Slot) (en' : Env), en'.length = env1.length ∧ acc'.length ≤ i + 1 ∧ G ki H' (zE (wipe σ own) en' ++ ((some (.ref D), .l acc') :: (x0 ++ (svR σ env1 own ++ T)))) ∧ compS own tg mt me (ds.drop (i + 1)) acc' en' = some (accF, envF),
    fun H' ⟨acc', en', a1, a2, a3, a4⟩ => ⟨ds.length - (i + 1), by omega, rfl, hlt, acc', en', a1, a2, a3, a4⟩, fun x H' y => ?_⟩
  have gy := wk.yields i _ x H' _ d hd gx y
  obtain ⟨E, hy, gy⟩ := gy
  have gy2 : G ki H' (zE (wipe σ own) en ++ (E ++ ((some (.ref D), .l acc) :: (x0 ++ (svR σ env1 own ++ T))))) := by
    rw [← List.append_assoc] at gy
    refine gy.perm ?_
    refine List.Perm.trans (l₂ := zE (wipe σ own) en ++ ((E ++ x0) ++ ((some (V.ref D), Slot.l acc) :: (svR σ env1 own ++ T)))) ?_ (List.Perm.append_left _ ?_)
    · rw [← List.append_assoc, ← List.append_assoc (zE (wipe σ own) en)]
      exact List.Perm.append_right _ List.perm_append_comm
    · rw [List.append_assoc]
      exact List.Perm.append_left _ List.perm_middle
  have hlw : (wipe σ own).length = en.length := by rw [wipe_length]; omega
  refine hg _ H' en e1 x d E _ hlw hy gy2 p1 _ fun σ2 H2 l2 le k2 g6 => ⟨?_, ?_⟩
  · exact wipe_back l2 fun j hj => k2 j fun z => hj (hws j z)
  have hw2 : wipe σ2 own = wipe σ own := wipe_back l2 fun j hj => k2 j fun z => hj (hws j z)
  have hl2 : σ2.length = e1.length := by rw [l2, le, hlw]
  have fin : ∀ {H' : Hp} {e2 : Env} {B : Row}, e2.length = e1.length → G ki H' (zE σ2 e2 ++ B) → G ki H' (zE (wipe σ own) (wipeE e2 own) ++ B) := fun {H' e2 B} hn g => by
    have g9 := saveAll (hl2.trans hn.symm) own g
    rw [hw2] at g9
    exact dropMid g9
  cases hmt : mt e1 with
  | none => simp only [hmt] at p2; cases p2
  | some pr =>
    obtain ⟨rb, e2⟩ := pr
    simp only [hmt] at p2
    cases rb with
    | ex x => cases p2
    | ok b =>
      refine ht σ2 H2 e1 _ _ _ hl2 g6 hmt _ fun H3 n3 g7 => ?_
      cases b with
      | false =>
        rw [if_neg Bool.false_ne_true]
        exact ⟨acc, wipeE e2 own, by rw [wipeE_length]; omega, by omega, fin n3 g7, p2⟩
      | true =>
        rw [if_pos rfl]
        simp only at p2
        cases hme : me e2 with
        | none => simp only [hme] at p2; cases p2
        | some pr =>
          obtain ⟨ro, e3⟩ := pr
          simp only [hme] at p2
          cases ro with
          | ex x => cases p2
          | ok o =>
            cases o with
            | ref j => cases p2
            | val s =>
              refine he σ2 H3 e2 _ _ _ (hl2.trans n3.symm) g7 hme _ fun yv H4 n4 g8 ho => ?_
              have g9 : G ki H4 ((some yv, s) :: (zE σ2 e3 ++ ((some (.ref D), .l acc) :: (x0 ++ (svR σ env1 own ++ T))))) := g8.perm List.perm_middle
              have g10 := g9.fz
              have g11 : G ki H4 ((some (.ref D), .l acc) :: (some yv, s.fz) :: (zE σ2 e3 ++ (x0 ++ (svR σ env1 own ++ T)))) := by
                refine g10.perm ?_
                refine (List.Perm.cons _ List.perm_middle).trans (List.Perm.swap _ _ _)
              obtain ⟨vs, hvs, len, g12⟩ := g11.addTop
              refine ⟨vs, hvs, Nat.lt_of_lt_of_le (show vs.length < 1000001 by omega) (by decide), acc ++ [s.fz], wipeE e3 own, by rw [wipeE_length]; omega, by rw [List.length_append]; show acc.length + 1 ≤ i + 1; omega, ?_, p2⟩
              exact fin (n4.trans n3) (toTop g12)
section
variable {env : Env}
@[simp] theorem dV_run (i : Nat) : dV i env = match env[i]? with
  | some (.p d) => some d
  | _ => none := rfl
@[simp] theorem dC_run (d : PyData) : dC d env = some d := rfl
@[simp] theorem mLDGet_run (i : Nat) (mc mk md : Env → Option PyData) : mLDGet i mc mk md env = (mc env).bind fun c => (mk env).bind fun k => (md env).bind fun d => (atLD env i c).bind fun p => (keyD k).bind fun ky => match valS p.2 ky with
  | some (.p e) => some (.ok (.val (.p e)), env)
  | none => some (.ok (.val (.p d)), env)
  | _ => none := rfl
@[simp] theorem mLDIx_run (i : Nat) (mc mk : Env → Option PyData) : mLDIx i mc mk env = (mc env).bind fun c => (mk env).bind fun k => (atLD env i c).bind fun p => (keyD k).bind fun ky => match valS p.2 ky with
  | some (.p e) => some (.ok (.val (.p e)), env)
  | _ => none := rfl
@[simp] theorem mLDKeys_run (i : Nat) (mc : Env → Option PyData) : mLDKeys i mc env = (mc env).bind fun c => (atLD env i c).map fun p => (.ok (.val (.l (p.2.map fun q => .p (L2.keyP q.1)))), env) := rfl
@[simp] theorem mLDSort_run (i : Nat) (mc : Env → Option PyData) : mLDSort i mc env = (mc env).bind fun c => (atLD env i c).bind fun p => (kdsS p.2).bind fun kds => if sortB (kds.map prD) = true ∧ (kds.all fun z => decide (z.2.depth ≤ 40)) = true then some (.ok (.val (.l ((srt (kds.map prD)).map .p))), env) else none := rfl
@[simp] theorem sLDSet_run (i : Nat) (mv : ExM) (mc mk : Env → Option PyData) : sLDSet i mv mc mk env = bndS mv (fun ov env => ov.own.bind fun e => (mc env).bind fun c => (mk env).bind fun k => (atLD env i c).bind fun p => (keyD k).bind fun ky => match env[i]? with
  | some (.l xs) => if smallL p.2.length then some (.nx, env.set i (.l (xs.set p.1 (.m (putS p.2 ky (.p e)))))) else none
  | _ => none) env := rfl
@[simp] theorem mCompS_run {γ : Type} (own : List Nat) (mi : Mir (List γ)) (tg : γ → Env → Option Env) (mt : Mir Bool) (me : ExM) : mCompS own mi tg mt me env = match mi env with
  | some (.ok ds, e) => if ds.length ≤ 1000000 then (match compS own tg mt me ds [] (wipeE e own) with
    | some (acc, e2) => some (.ok (.val (.l acc)), resE e e2 own)
    | none => none) else none
  | some (.ex x, e) => some (.ex x, e)
  | none => none := by
  unfold mCompS bnd
  cases mi env with
  | none => rfl
  | some p => obtain ⟨r, e⟩ := p; cases r with
    | ex x => rfl
    | ok ds =>
      simp only
      split
      · cases compS own tg mt me ds [] (wipeE e own) with
        | none => rfl
        | some q => rfl
      · rfl
end
end MM
/-! S18: max, min of a list of numbers; xs[::-1]; names' lists handed on -/
namespace MM
open PySem PySem.Spec L2 MS
section
variable {ki : Ki} {W : WX} {te : TE} {me : ExM}
def maxL : List Int → Option Int
  | [] => none
  | n :: ns => some (ns.foldl max n)
def minL : List Int → Option Int
  | [] => none
  | n :: ns => some (ns.foldl min n)
def gMaxL : List PyData → Option Slot
  | [.list ds] => (ints? ds).bind fun ns => (maxL ns).map fun m => .p (.int m)
  | _ => none
def gMinL : List PyData → Option Slot
  | [.list ds] => (ints? ds).bind fun ns => (minL ns).map fun m => .p (.int m)
  | _ => none
theorem foldl_max_spec : ∀ (ns : List Int) (n : Int), (ns.foldl max n ∈ n :: ns) ∧ ∀ x ∈ n :: ns, x ≤ ns.foldl max n
  | [], n => ⟨List.mem_cons_self, fun x hx => by rw [List.mem_singleton.mp hx]; exact Int.le_refl _⟩
  | m :: ns, n => by
    obtain ⟨a, b⟩ := foldl_max_spec ns (max n m)
    refine ⟨?_, fun x hx => ?_⟩
    · show ns.foldl max (max n m) ∈ n :: m :: ns
      rcases List.mem_cons.mp a with z | z
      · rw [z]
        by_cases q : n ≤ m
        · rw [Int.max_eq_right q]; exact List.mem_cons_of_mem _ List.mem_cons_self
        · rw [Int.max_eq_left (by omega)]; exact List.mem_cons_self
      · exact List.mem_cons_of_mem _ (List.mem_cons_of_mem _ z)
    · show x ≤ ns.foldl max (max n m)
      have c := b (max n m) List.mem_cons_self
      rcases List.mem_cons.mp hx with z | z
      · subst z; omega
      · rcases List.mem_cons.mp z with z | z
        · subst z; omega
        · exact b x (List.mem_cons_of_mem _ z)
theorem foldl_min_spec : ∀ (ns : List Int) (n : Int), (ns.foldl min n ∈ n :: ns) ∧ ∀ x ∈ n :: ns, ns.foldl min n ≤ x
  | [], n => ⟨List.mem_cons_self, fun x hx => by rw [List.mem_singleton.mp hx]; exact Int.le_refl _⟩
  | m :: ns, n => by
    obtain ⟨a, b⟩ := foldl_min_spec ns (min n m)
    refine ⟨?_, fun x hx => ?_⟩
    · show ns.foldl min (min n m) ∈ n :: m :: ns
      rcases List.mem_cons.mp a with z | z
      · rw [z]
        by_cases q : n ≤ m
        · rw [Int.min_eq_left q]; exact List.mem_cons_self
        · rw [Int.min_eq_right (by omega)]; exact List.mem_cons_of_mem _ List.mem_cons_self
      · exact List.mem_cons_of_mem _ (List.mem_cons_of_mem _ z)
    · show ns.foldl min (min n m) ≤ x
      have c := b (min n m) List.mem_cons_self
      rcases List.mem_cons.mp hx with z | z
      · subst z; omega
      · rcases List.mem_cons.mp z with z | z
        · subst z; omega
        · exact b x (List.mem_cons_of_mem _ z)
theorem cg_maxL : CallG ki (rMax ki.K) gMaxL := fun H L vs ds s g a hs Q post => by
  unfold gMaxL at hs
  split at hs
  · obtain ⟨ns, q1, hs⟩ := Option.bind_eq_some_iff.mp hs
    obtain ⟨m, q2, rfl⟩ := Option.map_eq_some_iff.mp hs
    obtain ⟨v, sv, rfl, hm, hd, h⟩ := args1 g a
    cases h with
    | lst hq ha =>
      refine ⟨_, ns, rfl, by rw [← dp_ints ha q1]; exact hq, by cases ns with
        | nil => cases q2
        | cons n ns => exact Nat.succ_pos _, fun m' h1 h2 => ?_⟩
      cases ns with
      | nil => cases q2
      | cons n ns =>
        cases q2
        obtain ⟨c, d⟩ := foldl_max_spec ns n
        have : m' = ns.foldl max n := by
          have e1 := d m' h1
          have e2 := h2 _ c
          omega
        rw [this]
        exact post _ _ (g.push fun F => .int _)
  · cases hs
theorem cg_minL : CallG ki (rMin ki.K) gMinL := fun H L vs ds s g a hs Q post => by
  unfold gMinL at hs
  split at hs
  · obtain ⟨ns, q1, hs⟩ := Option.bind_eq_some_iff.mp hs
    obtain ⟨m, q2, rfl⟩ := Option.map_eq_some_iff.mp hs
    obtain ⟨v, sv, rfl, hm, hd, h⟩ := args1 g a
    cases h with
    | lst hq ha =>
      refine ⟨_, ns, rfl, by rw [← dp_ints ha q1]; exact hq, by cases ns with
        | nil => cases q2
        | cons n ns => exact Nat.succ_pos _, fun m' h1 h2 => ?_⟩
      cases ns with
      | nil => cases q2
      | cons n ns =>
        cases q2
        obtain ⟨c, d⟩ := foldl_min_spec ns n
        have : m' = ns.foldl min n := by
          have e1 := d m' h1
          have e2 := h2 _ c
          omega
        rw [this]
        exact post _ _ (g.push fun F => .int _)
  · cases hs
def gRev : PyData → Option Slot
  | .list ds => some (.l (ds.reverse.map .p))
  | _ => none
theorem zip_rev {vs : List V} {ds : List PyData} (len : vs.length = ds.length) : ∀ z ∈ vs.reverse.zip ds.reverse, z ∈ vs.zip ds := fun z hz => by
  obtain ⟨i, hi⟩ := List.mem_iff_getElem?.mp hz
  have h := List.getElem?_zip_eq_some.mp hi
  have l1 := (List.getElem?_eq_some_iff.mp h.1).1
  rw [List.length_reverse] at l1
  rw [List.getElem?_reverse l1, List.getElem?_reverse (by omega), len] at h
  exact List.mem_of_getElem? (List.getElem?_zip_eq_some.mpr h)
theorem rd_rev (h : Rd ki W te me) : Rd ki W (tRevL ki.K te) (mUn gRev me) := fun σ H env T r env' hl gd e Q post => by
  refine h.use (E := []) hl gd e post fun o1 v1 H1 env1 n1 g1 i1 e => ?_
  obtain ⟨d, q, e⟩ := look_inv e
  obtain ⟨s, hs, rfl, rfl⟩ := ofO_inv e
  unfold gRev at hs
  split at hs
  · rename_i ds
    cases hs
    obtain ⟨p, vs, rfl, _, hl', len, g4⟩ := g1.view (Opd.memD (A := []) (B := T) i1 q) q (.inr rfl)
    refine ⟨p, vs, rfl, hl' rfl, fun l nl => ?_⟩
    have g5 := (rowOf g4 vs.reverse ds.reverse (by rw [List.length_reverse, List.length_reverse]; exact len) (zip_rev len)).newList nl (by rw [List.length_reverse, List.length_reverse]; exact len)
    exact post _ _ n1 (settle (E := [(some (.ref p), o1.slot)]) (dropMid (A := [_]) g5)) trivial
  · cases hs
/-- a name's own thing, handed on: it stays as it is from here on -/
def frzO (o : Opd) : ExM := match o with
  | .val s => ret (.val s)
  | .ref i => fun env => ((env[i]?).getD .un).dat.map fun d => (.ok (.val (.p d)), env.set i (.p d))
def mFrz (me : ExM) : ExM := bnd me frzO
theorem rd_frz (h : Rd ki W te me) : Rd ki W te (mFrz me) := fun σ H env T r env' hl gd e Q post => by
  refine h.use (E := []) hl gd e post fun o1 v1 H1 env1 n1 g1 i1 e => ?_
  cases o1 with
  | val s =>
    cases e
    exact post v1 H1 n1 g1 trivial
  | ref i =>
    obtain ⟨d, q, e2⟩ := Option.map_eq_some_iff.mp (show ((env1[i]?).getD .un).dat.map _ = some (r, env') from e)
    cases e2
    obtain ⟨g2, n2⟩ := own_top (o := .ref i) (hl.trans n1.symm) g1 i1 q
    exact post v1 H1 (n2.trans n1) g2 trivial
end
section
variable {env : Env}
@[simp] theorem mFrz_run (me : ExM) : mFrz me env = bnd me frzO env := rfl
@[simp] theorem frzO_val (s : Slot) : frzO (.val s) env = some (.ok (.val s), env) := rfl
@[simp] theorem frzO_ref (i : Nat) : frzO (.ref i) env = ((env[i]?).getD .un).dat.map fun d => (.ok (.val (.p d)), env.set i (.p d)) := rfl
end
end MM
namespace MM
open PySem PySem.Spec L2
theorem ct_nil {ki : Ki} {c : Value} : ∀ p ∈ ([] : List (Str × Bool)), PySem.W.exmOne ki.K (ki.cl p.1) c = some p.2 := fun _ h => nomatch h
theorem ct_cons {ki : Ki} {c : Value} {x : Str} {b : Bool} {cs : List (Str × Bool)} (h : PySem.W.exmOne ki.K (ki.cl x) c = some b) (t : ∀ p ∈ cs, PySem.W.exmOne ki.K (ki.cl p.1) c = some p.2) : ∀ p ∈ (x, b) :: cs, PySem.W.exmOne ki.K (ki.cl p.1) c = some p.2 :=
  fun q hq => (List.mem_cons.mp hq).elim (fun e => e ▸ h) (t q)
end MM
/-! S19: comprehensions over a name's own list, which goes on; a, b = x, y with a tuple; a lent first argument beside names -/
namespace MM
open PySem PySem.Spec L2 MS
section
variable {ki : Ki} {W : WX}
theorem wk_own {a : Addr} {ds : List PyData} : Wk ki (Itl ki.K a) ds [(some (.ref a), .l (ds.map .p))] Yp := by
  refine ⟨fun i H L hi g => ?_, fun H L g => ?_, fun i H x H' L d hd g y => ?_⟩
  · obtain ⟨b, vs, e, _, h2, len, _⟩ := g.view (x := .ref a) (ds := ds) (d := .list ds) List.mem_cons_self (by show (allP _).map _ = _; rw [allP_map]; rfl) (.inr rfl)
    cases e
    exact ⟨vs, vs[i]'(by omega), h2 rfl, by simp [show i < vs.length by omega]⟩
  · obtain ⟨b, vs, e, _, h2, len, _⟩ := g.view (x := .ref a) (ds := ds) (d := .list ds) List.mem_cons_self (by show (allP _).map _ = _; rw [allP_map]; rfl) (.inr rfl)
    cases e
    exact ⟨vs, h2 rfl, by omega⟩
  · obtain ⟨b, vs, e, _, h2, len, g2⟩ := g.view (x := .ref a) (ds := ds) (d := .list ds) List.mem_cons_self (by show (allP _).map _ = _; rw [allP_map]; rfl) (.inr rfl)
    cases e
    obtain ⟨e1, e2⟩ := y
    subst e1
    have hx := e2 vs (h2 rfl)
    have g3 := g2.copy (o := some x) (d := d) (List.mem_append_left _ (zP_at hx hd))
    exact ⟨_, rfl, dropMid (ki := ki) (A := [(some x, .p d)]) g3⟩
def mCompB (own : List Nat) (i : Nat) (tg : PyData → Env → Option Env) (mt : Mir Bool) (me : ExM) : ExM := fun env => match env[i]? with
  | some (.l xs) => (allP xs).bind fun ds => if ds.length ≤ 1000000 ∧ i ∉ own then (compM own tg mt me ds [] (wipeE (env.set i .un) own)).map fun p => (.ok (.val (.l (p.1.map .p))), (resE (env.set i .un) p.2 own).set i (.l xs)) else none
  | _ => mComp own (mSeq (mVar i)) tg mt me env
theorem rd_compB {i : Nat} {g : TG} {tt : TT} {te : TE} {own ws : List Nat} {tg : PyData → Env → Option Env} {mt : Mir Bool} {me : ExM}
    (hg : RdGA ki g ws Yp tg) (hws : ∀ j ∈ ws, j ∈ own) (ht : RdT ki W0 tt mt) (he : Rd ki W0 te me) : Rd ki W (tLc (iSeq ki.K (tVar i)) g tt te own) (mCompB own i tg mt me) := fun σ H env T r env' hl gd e Q post => by
  unfold mCompB at e
  split at e
  case h_2 => exact rd_comp (rdi_seq rd_var) hg hws ht he σ H env T r env' hl gd e Q post
  rename_i xs hei
  obtain ⟨ds, hxs, e⟩ := Option.bind_eq_some_iff.mp e
  have hx := allP_eq hxs
  subst hx
  split at e
  case isFalse => cases e
  rename_i hc
  obtain ⟨hz, hio⟩ := hc
  obtain ⟨⟨accF, envF⟩, q1, q2⟩ := Option.map_eq_some_iff.mp e
  cases q2
  have hi : i < env.length := (List.getElem?_eq_some_iff.mp hei).1
  have hiσ : i < σ.length := by omega
  -- what stands at i
  have gt := takeOut hl i gd
  rw [hei] at gt
  have gt0 : G ki H ((((σ[i]?).getD none), .l (ds.map .p)) :: (zE (σ.set i none) (env.set i .un) ++ T)) := gt.perm List.perm_middle
  obtain ⟨a, vs0, ea, ha, lena, gva⟩ := gt0.open_
  have eσ : σ[i]? = some (some (V.ref a)) := by
    rw [List.getElem?_eq_getElem hiσ] at ea ⊢
    exact congrArg some ea
  have hSq : SqL ki.K H a vs0 := .inl (.inl ha)
  show tLc (iSeq ki.K (tVar i)) g tt te own σ H Q
  unfold tLc
  refine ⟨.ref a, eσ, .inl ⟨a, rfl, ⟨vs0, hSq⟩, ?_⟩⟩
  have wk := wk_own (ki := ki) (a := a) (ds := ds)
  generalize Itl ki.K a = J at wk
  have eset : σ.set i (some (V.ref a)) = σ := by
    apply List.ext_getElem?
    intro j
    by_cases hj : i = j
    · subst hj; rw [List.getElem?_set_self hiσ]; exact eσ.symm
    · rw [List.getElem?_set_ne hj]
  -- the row with the thing laid aside
  have hun : ∀ {H : Hp} {B : Row}, G ki H (zE (σ.set i none) (env.set i .un) ++ B) → G ki H (zE σ (env.set i .un) ++ B) := fun {H B} g => unSet hl g
  have g1 : G ki H (zE σ (env.set i .un) ++ ([(some (V.ref a), Slot.l (ds.map .p))] ++ T)) := by
    have := hun gt
    rw [eσ] at this
    exact this
  clear gt gt0 gva hSq ha lena
  generalize hx0 : [(some (V.ref a), Slot.l (ds.map .p))] = x0 at g1 wk
  generalize he1 : env.set i Slot.un = env1 at g1 q1
  have n1 : env1.length = env.length := by rw [← he1, List.length_set]
  intro D hD
  have g1' : G ki H (zE σ env1 ++ (x0 ++ T)) := g1
  have g2 := Good.newList (vs := []) (ds := []) g1' hD rfl
  have hl1 : σ.length = env1.length := hl.trans n1.symm
  have g3 : G ki (upd H D (.lst [])) (zE σ env1 ++ ((some (.ref D), .l (([] : List PyData).map .p)) :: (x0 ++ T))) := toTop g2
  have g4 := saveAll hl1 own g3
  have g5 : G ki (upd H D (.lst [])) (zE (wipe σ own) (wipeE env1 own) ++ ((some (.ref D), .l (([] : List PyData).map .p)) :: (x0 ++ (svR σ env1 own ++ T)))) := by
    refine g4.perm (List.Perm.append_left _ ?_)
    refine List.perm_middle.trans (List.Perm.cons _ ?_)
    rw [← List.append_assoc, ← List.append_assoc]
    exact List.Perm.append_right _ List.perm_append_comm
  refine ⟨fun i m H => m = ds.length - i ∧ i ≤ ds.length ∧ ∃ (acc : List PyData) (en : Env), en.length = env1.length ∧ acc.length ≤ i ∧ G ki H (zE (wipe σ own) en ++ ((some (.ref D), .l (acc.map .p)) :: (x0 ++ (svR σ env1 own ++ T)))) ∧ compM own tg mt me (ds.drop i) acc en = some (accF, envF),
    ⟨ds.length, by simp, Nat.zero_le _, [], wipeE env1 own, wipeE_length _ _, Nat.le_refl _, g5, q1⟩, ?_⟩
  rintro k m Hi ⟨rfl, hile, acc, en, hen, hacc, gi, qi⟩
  have gx : G ki Hi (x0 ++ (zE (wipe σ own) en ++ ((some (.ref D), .l (acc.map .p)) :: (svR σ env1 own ++ T)))) := by
    refine gi.perm ?_
    refine (List.Perm.append_left _ List.perm_middle.symm).trans ?_
    rw [← List.append_assoc, ← List.append_assoc]
    exact List.Perm.append_right _ List.perm_append_comm
  by_cases hlt : k < ds.length
  case neg =>
    have ei : k = ds.length := by omega
    subst ei
    refine .inl ⟨wk.stops _ _ gx, ?_⟩
    rw [List.drop_length] at qi
    cases qi
    have g6 : G ki Hi (zE (wipe σ own) envF ++ (svR σ env1 own ++ (x0 ++ ((some (.ref D), .l (accF.map .p)) :: T)))) := by
      refine gi.perm (List.Perm.append_left _ ?_)
      refine (List.Perm.trans (l₂ := x0 ++ ((some (V.ref D), Slot.l (accF.map .p)) :: (svR σ env1 own ++ T))) List.perm_middle.symm ?_)
      refine (List.Perm.append_left _ List.perm_middle.symm).trans ?_
      rw [← List.append_assoc, ← List.append_assoc]
      exact List.Perm.append_right _ List.perm_append_comm
    have g7 := putBack hl1 own _ hen g6
    rw [← hx0] at g7
    have hlr : (resE env1 envF own).length = env.length := by rw [resE_length]; exact hen.trans n1
    have g8 : G ki Hi (zE σ ((resE env1 envF own).set i (.l (ds.map .p))) ++ ((some (.ref D), .l (accF.map .p)) :: T)) := by
      have := zE_set (i := i) (by rw [hlr]; exact hl) (by rw [hlr]; exact hi) g7
      rw [eset] at this
      exact this
    refine post _ _ ?_ ?_ trivial
    · rw [List.length_set, ← he1] at *; exact hlr
    · rw [he1]; exact g8
  obtain ⟨d, hd⟩ : ∃ d, ds[k]? = some d := ⟨ds[k], List.getElem?_eq_getElem hlt⟩
  have hdrop : ds.drop k = d :: ds.drop (k + 1) := by
    rw [List.drop_eq_getElem_cons hlt]
    rw [List.getElem?_eq_getElem hlt] at hd
    rw [Option.some.inj hd]
  rw [hdrop] at qi
  obtain ⟨e1, p1, p2⟩ := Option.bind_eq_some_iff.mp (show (tg d en).bind _ = some (accF, envF) from qi)
  refine .inr ⟨wk.goes k _ _ hlt gx, fun H' => ∃ (acc' : List PyData) (en' : Env), en'.length = env1.length ∧ acc'.length ≤ k + 1 ∧ G ki H' (zE (wipe σ own) en' ++ ((some (.ref D), .l (acc'.map .p)) :: (x0 ++ (svR σ env1 own ++ T)))) ∧ compM own tg mt me (ds.drop (k + 1)) acc' en' = some (accF, envF),
    fun H' ⟨acc', en', a1, a2, a3, a4⟩ => ⟨ds.length - (k + 1), by omega, rfl, hlt, acc', en', a1, a2, a3, a4⟩, fun x H' y => ?_⟩
  have gy := wk.yields k _ x H' _ d hd gx y
  obtain ⟨E, hy, gy⟩ := gy
  have gy2 : G ki H' (zE (wipe σ own) en ++ (E ++ ((some (.ref D), .l (acc.map .p)) :: (x0 ++ (svR σ env1 own ++ T))))) := by
    rw [← List.append_assoc] at gy
    refine gy.perm ?_
    refine List.Perm.trans (l₂ := zE (wipe σ own) en ++ ((E ++ x0) ++ ((some (V.ref D), Slot.l (acc.map .p)) :: (svR σ env1 own ++ T)))) ?_ (List.Perm.append_left _ ?_)
    · rw [← List.append_assoc, ← List.append_assoc (zE (wipe σ own) en)]
      exact List.Perm.append_right _ List.perm_append_comm
    · rw [List.append_assoc]
      exact List.Perm.append_left _ List.perm_middle
  have hlw : (wipe σ own).length = en.length := by rw [wipe_length]; omega
  refine hg _ H' en e1 x d E _ hlw hy gy2 p1 _ fun σ2 H2 l2 le k2 g6 => ⟨?_, ?_⟩
  · exact wipe_back l2 fun j hj => k2 j fun z => hj (hws j z)
  have hw2 : wipe σ2 own = wipe σ own := wipe_back l2 fun j hj => k2 j fun z => hj (hws j z)
  have hl2 : σ2.length = e1.length := by rw [l2, le, hlw]
  have fin : ∀ {H' : Hp} {e2 : Env} {B : Row}, e2.length = e1.length → G ki H' (zE σ2 e2 ++ B) → G ki H' (zE (wipe σ own) (wipeE e2 own) ++ B) := fun {H' e2 B} hn g => by
    have g9 := saveAll (hl2.trans hn.symm) own g
    rw [hw2] at g9
    exact dropMid g9
  cases hmt : mt e1 with
  | none => simp only [hmt] at p2; cases p2
  | some pr =>
    obtain ⟨rb, e2⟩ := pr
    simp only [hmt] at p2
    cases rb with
    | ex x => cases p2
    | ok b =>
      refine ht σ2 H2 e1 _ _ _ hl2 g6 hmt _ fun H3 n3 g7 => ?_
      cases b with
      | false =>
        rw [if_neg Bool.false_ne_true]
        exact ⟨acc, wipeE e2 own, by rw [wipeE_length]; omega, by omega, fin n3 g7, p2⟩
      | true =>
        rw [if_pos rfl]
        simp only at p2
        cases hme : me e2 with
        | none => simp only [hme] at p2; cases p2
        | some pr =>
          obtain ⟨ro, e3⟩ := pr
          simp only [hme] at p2
          cases ro with
          | ex x => cases p2
          | ok o =>
            obtain ⟨dd, o1, o2⟩ := Option.bind_eq_some_iff.mp p2
            refine he σ2 H3 e2 _ _ _ (hl2.trans n3.symm) g7 hme _ fun yv H4 n4 g8 ho => ?_
            cases o with
            | ref j => cases o1
            | val s =>
              have g9 : G ki H4 ((some yv, s) :: (zE σ2 e3 ++ ((some (.ref D), .l (acc.map .p)) :: (x0 ++ (svR σ env1 own ++ T))))) := g8.perm List.perm_middle
              have g10 := g9.frz o1
              have g11 : G ki H4 ((some (.ref D), .l (acc.map .p)) :: (some yv, .p dd) :: (zE σ2 e3 ++ (x0 ++ (svR σ env1 own ++ T)))) := by
                refine g10.perm ?_
                refine (List.Perm.cons _ List.perm_middle).trans (List.Perm.swap _ _ _)
              obtain ⟨vs, hvs, len, g12⟩ := g11.appendTop
              refine ⟨vs, hvs, Nat.lt_of_lt_of_le (show vs.length < 1000001 by omega) (by decide), acc ++ [dd], wipeE e3 own, by rw [wipeE_length]; omega, by rw [List.length_append]; show acc.length + 1 ≤ k + 1; omega, ?_, o2⟩
              exact fin (n4.trans n3) (toTop g12)
end
section
variable {ki : Ki} {W : WX} {fx : FxL} {tas : TA} {ms : Mir (List Opd)}
/-- a, b = x, y where a tuple is made -/
def sParT (i j : Nat) (ms : Mir (List Opd)) : StM := sPar i j ms
theorem rds_parT {i j : Nat} (h : RdA ki W tas ms) (hw : ∀ p ∈ fx, p.1 ∉ [i, j]) : RdS ki W fx (tAsg (tTupC tas) (gTup ki.K 2 (gCons (gName i) (gCons (gName j) gNil)))) (sParT i j ms) := fun σ H env T fl env' hl hf gd e D post => by
  refine h.useS hl hf gd e post fun os vs H1 env1 n1 g1 i1 e => ?_
  obtain ⟨⟨a, b⟩, hp, e2⟩ := Option.bind_eq_some_iff.mp e
  clear e
  have e : (if i < env1.length ∧ j < env1.length then some (Fl.nx, (env1.set i a).set j b) else none) = some (fl, env') := e2
  clear e2
  have ho := parK_inv hp
  subst ho
  match vs, i1, g1 with
  | [v, w], _, g1 =>
    by_cases hi : i < env1.length ∧ j < env1.length
    · rw [if_pos hi] at e
      cases e
      refine ⟨by show 2 ≤ _; decide, fun p np => ⟨false, fun ob hob => ?_⟩⟩
      have gx : G ki (upd H1 p (hoT false ob [v, w])) (zE σ env1 ++ (zO [v, w] [.val a, .val b] ++ T)) := g1.ext (upd_ex np)
      refine ⟨p, [v, w], rfl, .inl (.inl upd_same), rfl, v, [w], rfl, w, [], rfl, rfl, ?_⟩
      have hl1 : σ.length = env1.length := hl.trans n1.symm
      have g2 : G ki (upd H1 p (hoT false ob [v, w])) (zE σ env1 ++ (some v, a) :: ((some w, b) :: T)) := gx
      have g3 := zE_set hl1 hi.1 g2
      have g4 := zE_set (i := j) (by rw [List.length_set, List.length_set]; exact hl1) (by rw [List.length_set]; exact hi.2) g3
      refine post _ _ (by rw [List.length_set, List.length_set]; exact hl) (by rw [List.length_set, List.length_set]; exact n1) (hf.keep (ws := [i, j]) (fun k hk => ?_) hw) g4
      have h1 : i ≠ k := fun z => hk (by rw [z]; exact List.mem_cons_self)
      have h2 : j ≠ k := fun z => hk (by rw [z]; exact List.mem_cons_of_mem _ List.mem_cons_self)
      rw [List.getElem?_set_ne h2, List.getElem?_set_ne h1]
    · rw [if_neg hi] at e; cases e
  | [], i1, _ => exact i1.elim
  | [_], i1, _ => exact i1.2.elim
  | _ :: _ :: _ :: _, i1, _ => exact i1.2.2.elim
/-- the first argument is lent; others may be names' lists, which stay from then on -/
def mFnLF (fm : FnM) (ms : Mir (List Opd)) : ExM := bnd ms fun os env => match os with
  | .ref i :: os' => match fzAll os' env with
    | some (.ok ss, env2) => (fm (((env2[i]?).getD .un) :: ss)).map fun p => (fnRes .val p.1, env2.set i ((p.2[0]?).getD .un))
    | _ => none
  | _ => none
variable {fm : FnM} {n : Nat}
theorem rd_fnLF (hn : ∀ s ss, (fm (s :: ss)).isSome → ss.length + 1 = n) (ha : RdA ki W tas ms) : Rd ki W (tCallS (spM ki n [0] fm) (WE W) tas) (mFnLF fm ms) := fun σ H env T r env' hl gd e Q post => by
  refine ha.use (E := []) hl gd e post fun os vs H1 env1 n1 g1 i1 e => ?_
  match os, vs, i1, g1, e with
  | [], _, _, _, e => cases e
  | .val _ :: _, _, _, _, e => cases e
  | .ref i :: os', [], i1, _, _ => exact i1.elim
  | .ref i :: os', v0 :: vs, ⟨h0, i1⟩, g1, e =>
    have e : (match fzAll os' env1 with
      | some (.ok ss, env2) => (fm (((env2[i]?).getD .un) :: ss)).map fun p => (fnRes Opd.val p.1, env2.set i ((p.2[0]?).getD .un))
      | _ => none) = some (r, env') := e
    have hl1 : σ.length = env1.length := hl.trans n1.symm
    have g2 : G ki H1 (zE σ env1 ++ (zO vs os' ++ T)) := dropTop (x := (some v0, .un)) g1
    cases hm : fzAll os' env1 with
    | none => rw [hm] at e; cases e
    | some p =>
      obtain ⟨r2, env2⟩ := p
      obtain ⟨ss, rfl, n2, len, g3⟩ := fzAll_row hl1 i1 hm g2
      rw [hm] at e
      obtain ⟨⟨r1, ss'⟩, q2, e⟩ := Option.map_eq_some_iff.mp (show (fm (((env2[i]?).getD .un) :: ss)).map _ = some (r, env') from e)
      cases e
      have hl2 : σ.length = env2.length := hl1.trans n2.symm
      have h0 : σ[i]? = some (some v0) := h0
      have hi : i < env2.length := by
        have := (List.getElem?_eq_some_iff.mp h0).1
        omega
      have g4 := takeOut hl2 i g3
      rw [h0] at g4
      have hss := hn _ ss (by rw [q2]; rfl)
      have g6 : G ki H1 (zE ((v0 :: vs).map some) (((env2[i]?).getD .un) :: ss) ++ (zE (σ.set i none) (env2.set i .un) ++ T)) := by
        refine g4.perm ?_
        refine (List.perm_middle).trans ?_
        show (((some v0), ((env2[i]?).getD Slot.un)) :: (zE (σ.set i none) (env2.set i Slot.un) ++ (zE (vs.map some) ss ++ T))).Perm (((some v0), ((env2[i]?).getD Slot.un)) :: (zE (vs.map some) ss ++ (zE (σ.set i none) (env2.set i Slot.un) ++ T)))
        refine List.Perm.cons _ ?_
        rw [← List.append_assoc, ← List.append_assoc]
        exact List.Perm.append_right _ List.perm_append_comm
      refine ⟨((env2[i]?).getD .un) :: ss, _, r1, ss', by rw [List.length_cons]; omega, by rw [List.length_cons]; omega, g6, q2, ?_⟩
      have put : ∀ {H' : Hp} {B : Row} {s : Slot}, G ki H' ((some v0, s) :: (zE (σ.set i none) (env2.set i .un) ++ B)) → G ki H' (zE σ (env2.set i s) ++ B) := fun {H' B s} g => by
        have g7 := zE_set (i := i) (by rw [List.length_set, List.length_set]; exact hl2) (by rw [List.length_set]; exact hi) (toTop g)
        rw [List.set_set, List.set_set] at g7
        have ez : σ.set i (some v0) = σ := by
          apply List.ext_getElem?
          intro j
          by_cases hj : i = j
          · subst hj; rw [List.getElem?_set_self (by omega)]; exact h0.symm
          · rw [List.getElem?_set_ne hj]
        rw [ez] at g7
        exact g7
      cases r1 with
      | ok s =>
        intro v H' g7
        have g8 : G ki H' ((some v0, (ss'[0]?).getD .un) :: ((some v, s) :: (zE (σ.set i none) (env2.set i .un) ++ T))) := g7
        have g9 : G ki H' ((some v0, (ss'[0]?).getD .un) :: (zE (σ.set i none) (env2.set i .un) ++ ((some v, s) :: T))) := g8.perm (List.Perm.cons _ List.perm_middle.symm)
        exact post v H' (by rw [List.length_set]; exact n2.trans n1) (put g9) trivial
      | ex x =>
        intro cls d H' g7 hx
        exact post cls d H' (by rw [List.length_set]; exact n2.trans n1) (put g7) hx
end
section
variable {env : Env}
@[simp] theorem sParT_run (i j : Nat) (ms : Mir (List Opd)) : sParT i j ms env = bndS ms (fun os env => (parK os).bind fun p => if i < env.length ∧ j < env.length then some (.nx, (env.set i p.1).set j p.2) else none) env := rfl
@[simp] theorem mFnLF_run (fm : FnM) (ms : Mir (List Opd)) : mFnLF fm ms env = bnd ms (fun os env => match os with
  | .ref i :: os' => match fzAll os' env with
    | some (.ok ss, env2) => (match fm (((env2[i]?).getD .un) :: ss) with
      | some (.ok s, t) => some (.ok (.val s), env2.set i ((t[0]?).getD .un))
      | some (.ex x, t) => some (.ex x, env2.set i ((t[0]?).getD .un))
      | none => none)
    | _ => none
  | _ => none) env := by
  unfold mFnLF
  congr 1
  funext os e
  cases os with
  | nil => rfl
  | cons o os =>
    cases o with
    | val s => rfl
    | ref i =>
      dsimp only
      cases fzAll os e with
      | none => rfl
      | some q =>
        obtain ⟨r, e2⟩ := q
        cases r with
        | ex x => rfl
        | ok ss =>
          dsimp only
          cases fm (((e2[i]?).getD .un) :: ss) with
          | none => rfl
          | some q => obtain ⟨r, t⟩ := q; cases r <;> rfl
end
end MM
/-! S20: dicts whose keys are pairs of numbers: dict(list of pairs), x[k] -/
namespace MM
open PySem PySem.Spec PyProof.Rows L2
def prK (p : Int × Int) : List Key := [.inl p.1, .inl p.2]
theorem prK_inj {p q : Int × Int} (h : prK p = prK q) : p = q := by
  unfold prK at h
  simp at h
  exact Prod.ext h.1 h.2
theorem hash_prK (P : Program) (w : World) (p : Int × Int) : (tupleKind (mixKind P w)).hash (prK p) = hashP p := rfl
abbrev xK (x : (Int × Int) × Addr × Value) : List Key × Addr × Value := (prK x.1, x.2.1, x.2.2)
theorem ent_xK (P : Program) (w : World) (xs : List ((Int × Int) × Addr × Value)) : (xs.map xK).map (entryOfKey (tupleKind (mixKind P w))) = xs.map (fun x => (⟨hashP x.1, .ref x.2.1, x.2.2⟩ : DictEntry)) := by
  rw [List.map_map]; rfl
/-- later pairs win, the place and the key's object are the first one's -/
def putP {α β : Type} (zs : List ((Int × Int) × α × β)) (k : Int × Int) (a : α) (v : β) : List ((Int × Int) × α × β) :=
  if (zs.any fun z => decide (z.1 = k)) = true then zs.map (fun z => if z.1 = k then (z.1, z.2.1, v) else z) else zs ++ [(k, a, v)]
def mergeP {α β : Type} (zs more : List ((Int × Int) × α × β)) : List ((Int × Int) × α × β) := more.foldl (fun acc z => putP acc z.1 z.2.1 z.2.2) zs
theorem stored_xK (xs : List ((Int × Int) × Addr × Value)) (k : Int × Int) (a : Addr) (v : Value) : storedH (xs.map xK) (prK k) a v = (putP xs k a v).map xK := by
  unfold storedH putP
  have h1 : (atKey (xs.map xK) (prK k)).isSome = xs.any fun z => decide (z.1 = k) := by
    unfold atKey
    rw [Option.isSome_map]
    induction xs with
    | nil => rfl
    | cons x xs ih =>
      rw [List.map_cons, List.find?_cons, List.any_cons]
      by_cases q : x.1 = k
      · have e1 : decide ((xK x).1 = prK k) = true := decide_eq_true (by show prK x.1 = prK k; rw [q])
        rw [e1, decide_eq_true q]; rfl
      · have e1 : decide ((xK x).1 = prK k) = false := decide_eq_false (fun z => q (prK_inj z))
        rw [e1, decide_eq_false q, Bool.false_or]; exact ih
  rw [h1]
  split
  · rw [List.map_map, List.map_map]
    apply List.map_congr_left
    intro x _
    show putAt (prK k) v (xK x) = xK (if x.1 = k then (x.1, x.2.1, v) else x)
    unfold putAt
    by_cases q : x.1 = k
    · rw [if_pos q, if_pos (by show prK x.1 = prK k; rw [q])]
    · rw [if_neg q, if_neg (fun z => q (prK_inj z))]
  · rw [List.map_append]; rfl
theorem keys_xK (xs : List ((Int × Int) × Addr × Value)) : ((xs.map xK).map (·.1)).Nodup ↔ (xs.map (·.1)).Nodup := by
  have : (xs.map xK).map (·.1) = (xs.map (·.1)).map prK := by rw [List.map_map, List.map_map]; rfl
  rw [this]
  unfold List.Nodup
  rw [List.pairwise_map (f := prK)]
  constructor
  · exact fun h => h.imp fun {a b} h z => h (by rw [z])
  · exact fun h => h.imp fun {a b} h z => h (prK_inj z)
/-! ### dict(list of pairs) -/
section
variable {prog : Program} {w : World} {A : Around} {E : Value → Shared → Prop}
abbrev pK (prog : Program) (w : World) : HeapKind prog w (List Key) := tupleKind (mixKind prog w)
theorem isKeep {h h' : Heap} {k : List Key} {b : Addr} (x : (pK prog w).is h k b) (e : ∀ o, h.get? b = some o → h'.get? b = some o) : (pK prog w).is h' k b := by
  obtain ⟨o, its, n, h1, h2, h3, h4⟩ := x
  exact ⟨o, its, n, e o h1, h2, h3, h4⟩
theorem neIter {h : Heap} {k : List Key} {b I l : Addr} {i : Nat} (x : (pK prog w).is h k b) (y : h.IsListIter I l i) : b ≠ I := fun z => by
  subst z
  obtain ⟨o, its, n, h1, h2, h3, h4⟩ := x
  obtain ⟨o2, h5, h6, _⟩ := y
  rw [h1] at h5
  cases h5
  rw [h2] at h6
  exact absurd h6 (by decide)
theorem his_of {h : Heap} {S : Addr} {xs : List (List Key × Addr × Value)} (hm : h.DictOfH (pK prog w) S xs) : ∀ y ∈ xs, (pK prog w).is h y.1 y.2.1 := by
  obtain ⟨_, _, _, _, _, _, _, his, _⟩ := hm
  exact his
theorem putP_len {α β : Type} (zs : List ((Int × Int) × α × β)) (k : Int × Int) (a : α) (v : β) : (putP zs k a v).length ≤ zs.length + 1 := by
  unfold putP
  split
  · rw [List.length_map]; omega
  · rw [List.length_append]; exact Nat.le_refl _
theorem upd_loopP {R : Result → Shared → Prop} {S I l : Addr} {items : Array Value} {res : Value} (hh : A.handled = none) (hu : A.in1.units < cLine) (hlI : l ≠ I) (hSI : S ≠ I) (hSl : S ≠ l) :
    ∀ (rest : List ((Int × Int) × Addr × Value)) (i : Nat) (acc : List ((Int × Int) × Addr × Value)) (ix : Int) (t : Tok) (s : Shared), items.size = i + rest.length → acc.length + rest.length ≤ sizeLine →
      (∀ (j : Nat) (q : (Int × Int) × Addr × Value), rest[j]? = some q → ∃ (b : Addr), items[i + j]? = some (.ref b) ∧ b ≠ S ∧ b ≠ I ∧ IsTup s.heap b #[.ref q.2.1, q.2.2] ∧ q.2.1 ≠ S ∧ q.2.1 ≠ I ∧ (pK prog w).is s.heap (prK q.1) q.2.1) →
      s.heap.IsListIter I l i → s.heap.IsList l items → s.heap.DictOfH (pK prog w) S (acc.map xK) →
      (∀ h' tk, h'.DictOfH (pK prog w) S ((mergeP acc rest).map xK) → (∀ b o, b ≠ S → b ≠ I → s.heap.get? b = some o → h'.get? b = some o) → R (.ok (.ret res)) { s with heap := h', toks := tk }) →
      codeAny (model prog w) A (.builtin "dict.update.loop" ⟨[.ref S, .ref I, .int ix t, res], []⟩) R s
  | [], i, acc, ix, t, s, hsz, hln, ht, hit, hl, hm, hR => by
    refine codeAny_builtin ud_entry ?_
    rw [Around.under_plainId ud_plain _]
    show wpAny _ A.in1 (pyNext (.ref I) >>= _) _ _ s
    refine wpAny_bind (wpAny_pyNext_list_end (A := A.in1) hh hit hl (by first | exact Array.getElem?_eq_none (Nat.le_of_eq hsz) | (simp at hsz; simp; omega)) fun h' he => ?_)
    show wpAny _ A.in1 (Builtin.Dict.addKeywords S [] >>= _) _ _ _
    refine wpAny_bind (wpAny_pure (wpAny_pure ?_))
    refine hR h' s.toks (hm.at' (fun o e => ?_) fun y hy => ?_) fun b o _ hb e => he b o hb e
    · exact he S o hSI e
    · exact isKeep (his_of hm y hy) fun o e => he _ o (neIter (his_of hm y hy) hit) e
  | q :: rest, i, acc, ix, t, s, hsz, hln, ht, hit, hl, hm, hR => by
    obtain ⟨b, hb, hbS, hbI, htup, hqS, hqI, hk⟩ := ht 0 q rfl
    rw [List.length_cons] at hsz hln
    refine codeAny_builtin ud_entry ?_
    rw [Around.under_plainId ud_plain _]
    show wpAny _ A.in1 (pyNext (.ref I) >>= _) _ _ s
    refine wpAny_bind (wpAny_pyNext_list_item (x := .ref b) hit hl (by simpa using hb) fun h1 hit1 hs1 => ?_)
    have ht1 : IsTup h1 b #[.ref q.2.1, q.2.2] := htup.extBut hs1.extBut hbI
    have hl1 : h1.IsList l items := hl.extBut hs1.extBut hlI
    have hm1 : h1.DictOfH (pK prog w) S (acc.map xK) := hm.at' (fun o e => hs1.extBut S o hSI e) fun y hy => isKeep (his_of hm y hy) fun o e => hs1.extBut _ o (neIter (his_of hm y hy) hit) e
    have hk1 : (pK prog w).is h1 (prK q.1) q.2.1 := isKeep hk fun o e => hs1.extBut _ o hqI e
    obtain ⟨o, ho, hc, n, hd⟩ := id ht1
    show wpAny _ A.in1 (holding [Value.ref b] _ >>= _) _ _ _
    refine wpAny_bind (wpAny_holding ?_)
    refine wpAny_bind (wpAny_tryCatch ?_)
    unfold Builtin.Dict.pairItems
    refine wpAny_bind (wpAny_typeOf (T := "tuple") ⟨o, ho, hc⟩ ?_)
    rw [if_pos (by first | decide | rfl | simp)]
    refine wpAny_bind (wpAny_seqItems ho hd (wpAny_pure ?_))
    show wpAny _ A.in1 (holding [Value.ref q.2.1, q.2.2] (dictSet S (.ref q.2.1) q.2.2)) _ _ _
    refine wpAny_holding (wpAny_dictSet_heap (knd := pK prog w) (k := prK q.1) (xs := acc.map xK) hu hk1 hm1 (fun h2 hm2 hs2 => ?_) (by rw [List.length_map]; omega))
    rw [stored_xK] at hm2
    refine wpAny_pure ⟨plainId_quiet ud_plain _, upd_loopP (items := items) hh hu hlI hSI hSl rest (i + 1) (putP acc q.1 q.2.1 q.2.2) (ix + 1) 0 _ (show items.size = i + 1 + rest.length by omega) ?_ (fun j q' e => ?_) ?_ ?_ hm2 fun h' tk hd' k => ?_⟩
    · have := putP_len acc q.1 q.2.1 q.2.2
      omega
    · obtain ⟨b', hb', hbS', hbI', htup', z1, z2, hk'⟩ := ht (j + 1) q' (by simpa using e)
      refine ⟨b', ?_, hbS', hbI', (htup'.extBut hs1.extBut hbI').extBut hs2.extBut hbS', z1, z2, ?_⟩
      · rw [show i + 1 + j = i + (j + 1) by omega]
        exact hb'
      · exact isKeep (isKeep hk' fun o e => hs1.extBut _ o z2 e) fun o e => hs2.extBut _ o z1 e
    · exact hit1.at fun o' e => hs2.extBut I o' (Ne.symm hSI) e
    · exact hl1.extBut hs2.extBut (Ne.symm hSl)
    · exact hR h' tk hd' fun c oc h3 h4 e => k c oc h3 h4 (hs2.extBut c oc h3 (hs1.extBut c oc h4 e))
/-- dict(l) of a list of pairs whose first things are pairs of numbers -/
theorem call_dict_pairsP {s : Shared} {l : Addr} {ol : Obj} {items : Array Value} {n : Nat} {prs : List ((Int × Int) × Addr × Value)} {Q : Value → Shared → Prop} (hh : A.handled = none) (hu : A.units + 64 < cLine) (hl : s.heap.get? l = some ol) (hc : ol.cls = .type "list") (hd : ol.dict = none)
    (hdat : ol.data = .seq items n) (hsz : items.size = prs.length) (hln : prs.length ≤ sizeLine)
    (ht : ∀ (j : Nat) (q : (Int × Int) × Addr × Value), prs[j]? = some q → ∃ (b : Addr), items[j]? = some (.ref b) ∧ IsTup s.heap b #[.ref q.2.1, q.2.2] ∧ (pK prog w).is s.heap (prK q.1) q.2.1)
    (h : ∀ h' tk, h'.DictOfH (pK prog w) s.heap.objs.size ((mergeP [] prs).map xK) → (∀ b o, s.heap.get? b = some o → h'.get? b = some o) → Q (.ref s.heap.objs.size) { s with heap := h', toks := tk }) :
    wpAny (model prog w) A (call (.type "dict") [.ref l]) Q E s := by
  refine callType_codes (Q₁ := fun obj s₁ => obj = .ref s.heap.objs.size ∧ s₁ = { s with heap := s.heap.push { cls := .type "dict", data := .dict #[] } }) PySem.F.kt_called_dict (PySem.F.kt_typeCall_dict_1 _) PySem.F.entry_dict_init (kt_code_dict_new _ ⟨rfl, rfl⟩) ?_
  rintro obj s₁ ⟨rfl, rfl⟩
  have hnew : (s.heap.push { cls := .type "dict", data := .dict #[] }).DictOfH (pK prog w) s.heap.objs.size [] := Heap.DictOfH.new s.heap
  have k0 : ∀ b o, s.heap.get? b = some o → (s.heap.push { cls := .type "dict", data := .dict #[] }).get? b = some o := fun b o e => Heap.get?_push_of_some _ e
  have htyp : Shared.TypeIs { s with heap := s.heap.push { cls := .type "dict", data := .dict #[] } } (.ref s.heap.objs.size) "dict" := hnew.typeIs (s := { s with heap := s.heap.push { cls := .type "dict", data := .dict #[] } })
  refine ⟨htyp, PySem.F.args_dict_init_2 _ _, ?_⟩
  unfold Builtin.«dict.__init__»
  refine wpAny_bind ?_
  unfold Builtin.Dict.selfAndRest
  refine wpAny_bind (wpAny_notOrdered_dict htyp ?_)
  show wpAny _ _ (pure (s.heap.objs.size, [Value.ref l])) _ _ _
  refine wpAny_pure ?_
  show wpAny _ _ (Builtin.Dict.updateFrom "dict.__init__" s.heap.objs.size (.ref l) [] .none) _ _ _
  unfold Builtin.Dict.updateFrom
  refine wpAny_bind (wpAny_typeOf (T := "list") ⟨ol, k0 _ _ hl, hc⟩ ?_)
  rw [if_pos (by first | decide | rfl | simp)]
  refine wpAny_bind (miss_list (k0 _ _ hl) hc hdat hd hh fun h1 tk1 hk1 => ?_)
  rw [if_pos (show (none : Option Value).isNone = true from rfl)]
  refine wpAny_bind (wpAny_rule ?_)
  have hl1 : h1.IsList l items := ⟨ol, hk1 _ _ (k0 _ _ hl), hc, n, hdat⟩
  have hS1 : s.heap.objs.size < h1.objs.size := by
    have e : (s.heap.push { cls := .type "dict", data := .dict #[] }).get? s.heap.objs.size = some { cls := .type "dict", data := .dict #[] } := Heap.get?_push_size _ rfl
    exact Heap.lt_size (hk1 _ _ e)
  refine wpAny_bind (wpAny_pyIter_list hl1 ?_)
  have k2 : ∀ b o, h1.get? b = some o → (h1.push { cls := .type "list_iterator", data := .fields #[.ref l, .int 0 0] }).get? b = some o := fun b o e => Heap.get?_push_of_some _ e
  have hlt : l < s.heap.objs.size := Heap.lt_size hl
  have hu2 : A.in1.in1.units < cLine := by
    have z1 : A.in1.in1.units ≤ A.units + 2 := Nat.le_refl _
    omega
  have key := upd_loopP (prog := prog) (w := w) (A := A.in1) (R := wants (fun r s₂ => r = .none ∧ Q (.ref s.heap.objs.size) s₂) E) (S := s.heap.objs.size) (I := h1.objs.size) (l := l) (items := items) (res := Value.none) hh hu2
    (Nat.ne_of_lt (Nat.lt_trans hlt hS1)) (Nat.ne_of_lt hS1) (Nat.ne_of_gt hlt) prs 0 [] 0 0
    { s with heap := h1.push { cls := .type "list_iterator", data := .fields #[.ref l, .int 0 0] }, toks := tk1 } (by rw [hsz, Nat.zero_add]) (by rw [List.length_nil, Nat.zero_add]; exact hln)
    (fun j q e => by
      obtain ⟨b, e1, e2, e3⟩ := ht j q e
      have hb : b < s.heap.objs.size := e2.lt
      have hq : q.2.1 < s.heap.objs.size := by obtain ⟨o, _, _, h1, _⟩ := e3; exact Heap.lt_size h1
      exact ⟨b, by rw [Nat.zero_add]; exact e1, Nat.ne_of_lt hb, Nat.ne_of_lt (Nat.lt_trans hb hS1), e2.keeps fun c o z => k2 _ _ (hk1 _ _ (k0 _ _ z)), Nat.ne_of_lt hq, Nat.ne_of_lt (Nat.lt_trans hq hS1), isKeep e3 fun o z => k2 _ _ (hk1 _ _ (k0 _ _ z))⟩)
    ⟨_, Heap.get?_push_size _ rfl, rfl, rfl⟩ (hl1.at fun o e => k2 _ _ e) ((hnew.at' (fun o e => hk1 _ _ e) fun y hy => (nomatch hy)).at' (fun o e => k2 _ _ e) fun y hy => (nomatch hy))
    (fun h' tk hd' k => ⟨rfl, h h' tk hd' fun b o e => k b o (Nat.ne_of_lt (Heap.lt_size e)) (Nat.ne_of_lt (Nat.lt_trans (Heap.lt_size e) hS1)) (k2 _ _ (hk1 _ _ (k0 _ _ e)))⟩)
  first
    | exact wpAny_pure ⟨plainId_quiet ud_plain _, key⟩
    | exact wpAny_bind (wpAny_pure (wpAny_pure ⟨plainId_quiet ud_plain _, key⟩))
end
/-! ### by things -/
theorem mergeP_new {α β : Type} : ∀ (more zs : List ((Int × Int) × α × β)), ((zs ++ more).map (·.1)).Nodup → mergeP zs more = zs ++ more
  | [], zs, _ => by rw [List.append_nil]; rfl
  | z :: more, zs, h => by
    have hz : (zs.any fun y => decide (y.1 = z.1)) = false := by
      rw [List.any_eq_false]
      intro y hy q
      rw [decide_eq_true_eq] at q
      rw [List.map_append, List.nodup_append] at h
      exact h.2.2 y.1 (List.mem_map.mpr ⟨y, hy, rfl⟩) z.1 (by rw [List.map_cons]; exact List.mem_cons_self) q
    show mergeP (putP zs z.1 z.2.1 z.2.2) more = _
    have e : putP zs z.1 z.2.1 z.2.2 = zs ++ [z] := by unfold putP; rw [hz]; rfl
    rw [e, mergeP_new more (zs ++ [z]) (by rw [List.append_assoc]; exact h), List.append_assoc]
    rfl
abbrev ZX (p : (Int × Int) × V × V) (q : (Int × Int) × Addr × Value) : Prop := p.1 = q.1 ∧ p.2.1 = V.ref q.2.1 ∧ RelV p.2.2 q.2.2
theorem zx_keys : ∀ {zs : List ((Int × Int) × V × V)} {xs : List ((Int × Int) × Addr × Value)}, Paired ZX zs xs → zs.map (·.1) = xs.map (·.1)
  | _, _, .nil => rfl
  | _, _, .cons h t => by rw [List.map_cons, List.map_cons, h.1, zx_keys t]
theorem zx_at : ∀ {zs : List ((Int × Int) × V × V)} {xs : List ((Int × Int) × Addr × Value)}, Paired ZX zs xs → ∀ z ∈ zs, ∃ x ∈ xs, ZX z x
  | _, _, .nil => fun _ q => nomatch q
  | _, _, .cons (b := x) h t => fun z q => by
    rcases List.mem_cons.mp q with rfl | q
    · exact ⟨x, List.mem_cons_self, h⟩
    · obtain ⟨x, h1, h2⟩ := zx_at t z q
      exact ⟨x, List.mem_cons_of_mem _ h1, h2⟩
theorem zx_len : ∀ {zs : List ((Int × Int) × V × V)} {xs : List ((Int × Int) × Addr × Value)}, Paired ZX zs xs → zs.length = xs.length
  | _, _, .nil => rfl
  | _, _, .cons _ t => by rw [List.length_cons, List.length_cons, zx_len t]
section
variable {X : Cx}
/-- a pair of numbers is a key -/
theorem key_pr {pins : List (Addr × Obj)} {σ : L2.St} {H : Hp} {s : Shared} (I : Inv X pins σ H s) {v : V} {k : Int × Int} (h : Dp X.K H v (kPr k)) : ∃ b, v = .ref b ∧ (pK X.prog X.w).is s.heap (prK k) b := by
  cases h with
  | @tup a xs ds hq ha =>
    obtain ⟨its, rv, ht, _⟩ := I.tuple hq
    obtain ⟨o, n, ho, hc, hd⟩ : ∃ o n, s.heap.get? a = some o ∧ o.cls = .type "tuple" ∧ o.data = .seq its.toArray n := by
      obtain ⟨o, h1, h2, n, h3⟩ := (show s.heap.IsTuple a its.toArray from ht)
      exact ⟨o, n, h1, h2, h3⟩
    refine ⟨a, rfl, o, its.toArray, n, ho, hc, hd, ?_⟩
    cases ha with
    | cons h1 t =>
      cases h1
      cases t with
      | cons h2 t =>
        cases h2
        cases t
        have : Vals (([.inl k.1, .inl k.2] : List Key).map kV) its := rv
        simpa [prK] using items_are this
def rDictPr (K : PySem.W.Frag) : List V → Hp → VK → Prop := fun xs H Q => ∃ (a : Addr) (ps : List Addr) (zs : List ((Int × Int) × V × V)), xs = [.ref a] ∧ SqL K H a (ps.map V.ref) ∧ Paired (fun p (z : (Int × Int) × V × V) => SqT K H p [z.2.1, z.2.2]) ps zs ∧ (∀ z ∈ zs, Dp K H z.2.1 (kPr z.1)) ∧ (zs.map (·.1)).Nodup ∧
  ∀ p, H p = none → Q (.ref p) (upd H p (PrO p zs))
theorem prs_of {pins : List (Addr × Obj)} {σ : L2.St} {H : Hp} {s : Shared} (I : Inv X pins σ H s) : ∀ {ps : List Addr} {zs : List ((Int × Int) × V × V)}, Paired (fun p (z : (Int × Int) × V × V) => SqT X.K H p [z.2.1, z.2.2]) ps zs → (∀ z ∈ zs, Dp X.K H z.2.1 (kPr z.1)) →
    ∃ prs : List ((Int × Int) × Addr × Value), Paired ZX zs prs ∧ prs.length = ps.length ∧ ∀ (j : Nat) (q : (Int × Int) × Addr × Value), prs[j]? = some q → ∃ (b : Addr), ps[j]? = some b ∧ IsTup s.heap b #[.ref q.2.1, q.2.2] ∧ (pK X.prog X.w).is s.heap (prK q.1) q.2.1
  | _, _, .nil, _ => ⟨[], .nil, rfl, fun j q e => by simp at e⟩
  | _, _, .cons (a := p) (b := z) h t, hk => by
    obtain ⟨prs, r, hl, hp⟩ := prs_of I t fun z hz => hk z (List.mem_cons_of_mem _ hz)
    obtain ⟨its, rv, ht, _⟩ := I.tuple h
    obtain ⟨u, y, ei, ru, ry⟩ := vals2 rv
    subst ei
    obtain ⟨b, e1, e2⟩ := key_pr I (hk z List.mem_cons_self)
    rw [e1] at ru
    cases ru
    refine ⟨(z.1, b, y) :: prs, .cons ⟨rfl, e1, ry⟩ r, by rw [List.length_cons, List.length_cons, hl], fun j q e => ?_⟩
    cases j with
    | zero =>
      have e' : (z.1, b, y) = q := Option.some.inj e
      subst e'
      exact ⟨p, rfl, ht, e2⟩
    | succ j =>
      obtain ⟨b', e1, e2, e3⟩ := hp j q (by simpa using e)
      exact ⟨b', by simpa using e1, e2, e3⟩
theorem pr_ok {H : Hp} {h : Heap} {a : Addr} {zs : List ((Int × Int) × V × V)} {xs : List ((Int × Int) × Addr × Value)} (hm : h.DictOfH (pK X.prog X.w) a (xs.map xK)) (hs : (a == sysModules) = false) (r : Paired ZX zs xs) : ObjOk X.prog X.w H h a (PrO a zs) := by
  obtain ⟨o, es, ep, ho, hc, hd, he, _, hn⟩ := hm
  rw [ent_xK] at he
  refine ⟨⟨o, es, ep, xs, ho, hc, hd, he, (keys_xK xs).mp hn, hs, r⟩, ⟨o, ho⟩, fun h1 h2 x k => ?_⟩
  obtain ⟨o, es, ep, xs, ho, rest⟩ := x
  exact ⟨o, es, ep, xs, k o ho, rest⟩
theorem call_dictPr (hcalm : X.calm = true) (hu : X.A.units + 64 < cLine) : CallR X (.type "dict") (rDictPr X.K) := by
  intro pins s σ H xs us Q I r q
  obtain ⟨a, ps, zs, ex, hq, hp, hk, hn, q⟩ := q
  subst ex
  obtain ⟨u, eu, rx⟩ := vals1 r
  subst eu
  cases rx
  obtain ⟨its, rv, pl, hz⟩ := I.list hq
  have ei := refs_at rv
  subst ei
  rw [List.length_map] at hz
  obtain ⟨prs, rel, hl, hpr⟩ := prs_of I hp hk
  obtain ⟨o, n, ho, hc, hd, hdat⟩ := pl
  refine call_dict_pairsP (prs := prs) (I.ok.hd hcalm) hu ho hc hd hdat (by simp [hl]) (by rw [hl]; exact hz) (fun j q' e => ?_) fun h' tk hd' k => ?_
  · obtain ⟨b, e1, e2, e3⟩ := hpr j q' e
    exact ⟨b, by simp [e1], e2, e3⟩
  · have hm : (s.heap.objs.size == sysModules) = false := beq_eq_false_iff_ne.mpr (Nat.ne_of_gt I.big)
    rw [mergeP_new prs [] (by rw [List.nil_append, ← zx_keys rel]; exact hn), List.nil_append] at hd'
    exact ⟨.ref s.heap.objs.size, upd H s.heap.objs.size (PrO s.heap.objs.size zs), I.laid (t' := tk) k (Nat.le_refl _) (pr_ok hd' hm rel), rfl, q _ (I.hok.fresh (Nat.le_refl _))⟩
/-- x[k] -/
def rIxPr (K : PySem.W.Frag) : R2 := fun x y H Q => ∃ (a : Addr) (zs : List ((Int × Int) × V × V)) (z : (Int × Int) × V × V), x = .ref a ∧ H a = some (PrO a zs) ∧ z ∈ zs ∧ Dp K H y (kPr z.1) ∧ (∀ z' ∈ zs, Dp K H z'.2.1 (kPr z'.1)) ∧ Q z.2.2 H
theorem ix_pr (hu : X.A.units + 64 < cLine) : IxR X (rIxPr X.K) := by
  intro value slice pins s σ H x y v u Q I rx ry h hs
  obtain ⟨a, zs, z, rfl, ha, hz, hy, hk, q⟩ := h
  cases rx
  obtain ⟨b, rfl, hb⟩ := key_pr I hy
  cases ry
  obtain ⟨⟨o, es, ep, xs, ho, hc, hd, he, hn, hsys, rel⟩, _⟩ := (show ObjOk X.prog X.w H s.heap a (PrO a zs) from I.hok a _ ha)
  have his : ∀ y ∈ xs.map xK, (pK X.prog X.w).is s.heap y.1 y.2.1 := fun y hy => by
    obtain ⟨x, hx, rfl⟩ := List.mem_map.mp hy
    have back : ∀ {zs : List ((Int × Int) × V × V)} {xs : List ((Int × Int) × Addr × Value)}, Paired ZX zs xs → ∀ x ∈ xs, ∃ z ∈ zs, ZX z x := fun {zs xs} r => by
      induction r with
      | nil => exact fun _ q => nomatch q
      | @cons z x zs xs h t ih =>
        intro x' q
        rcases List.mem_cons.mp q with rfl | q
        · exact ⟨z, List.mem_cons_self, h⟩
        · obtain ⟨z, h1, h2⟩ := ih x' q
          exact ⟨z, List.mem_cons_of_mem _ h1, h2⟩
    obtain ⟨z', hz', h1, h2, h3⟩ := back rel x hx
    obtain ⟨b', e1, e2⟩ := key_pr I (hk z' hz')
    rw [h2] at e1
    cases e1
    rw [h1] at e2
    exact e2
  have hm : s.heap.DictOfH (pK X.prog X.w) a (xs.map xK) := ⟨o, es, ep, ho, hc, hd, by rw [he, ent_xK], his, (keys_xK xs).mpr hn⟩
  obtain ⟨x, hx, h1, h2, h3⟩ := zx_at rel z hz
  have hat : atKey (xs.map xK) (prK z.1) = some (x.2.1, x.2.2) := by
    unfold atKey
    rw [h1]
    have hn' := (keys_xK xs).mpr hn
    clear his hm he rel h1 h2 h3
    induction xs with
    | nil => cases hx
    | cons x0 xs ih =>
      rw [List.map_cons, List.find?_cons]
      rcases List.mem_cons.mp hx with rfl | hx
      · rw [decide_eq_true (by rfl)]; rfl
      · have ne : ¬ (xK x0).1 = prK x.1 := fun z => by
          have hn2 := (List.nodup_cons.mp hn).1
          exact hn2 (List.mem_map.mpr ⟨x, hx, (prK_inj z).symm⟩)
        rw [decide_eq_false ne]
        exact ih (List.nodup_cons.mp hn).2 hx ((keys_xK xs).mpr (List.nodup_cons.mp hn).2)
  have fin : ∀ t, EP X pins σ Q x.2.2 { s with toks := t } := fun t => ⟨z.2.2, H, I.tok _, h3, q⟩
  refine subscriptTail_builtinR (x := x.2.2) hm.typeIs slot_dict_getitem.lookup ?_ hs
  exact wpAny_getItem_heap (Q := fun r s' => r = x.2.2 ∧ EP X pins σ Q r s') (by show X.A.in1.units < cLine; have : X.A.in1.units ≤ X.A.units + 1 := Nat.le_refl _; omega) hb hm hat ⟨rfl, fin _⟩
end
end MM
/-! S21: dicts by dots: mirrors -/
namespace MM
open PySem PySem.Spec L2 MS
section
variable {K : PySem.W.Frag} {H : Hp} {R : List Addr} {L : Row}
theorem Good.copyT {o : Option V} {ks : List ((Int × Int) × PyData)} (g : Good K H R L) (h : (o, Slot.t ks) ∈ L) : Good K H R ((o, .t ks) :: L) := by
  obtain ⟨F, fp, e, w, nd, fn, rt⟩ := g
  obtain ⟨a, zs, rfl, h1, h2, h3, h4⟩ := w.memT h
  exact ⟨F, fp, e, .cons (f := []) (.t h1 h2 h3 h4) w, nd, fn, rt⟩
def prP : PyData → Option ((Int × Int) × PyData)
  | .tuple [.tuple [.int a, .int b], d] => some ((a, b), d)
  | _ => none
def prPs : List PyData → Option (List ((Int × Int) × PyData))
  | [] => some []
  | d :: ds => (prP d).bind fun z => (prPs ds).map (z :: ·)
theorem prP_inv {d : PyData} {z : (Int × Int) × PyData} (h : prP d = some z) : d = .tuple [kPr z.1, z.2] := by
  unfold prP at h
  split at h
  · cases h; rfl
  · cases h
theorem prsRow : ∀ {ds : List PyData} {vs : List V} {ks : List ((Int × Int) × PyData)} {L : Row}, vs.length = ds.length → prPs ds = some ks → Good K H R (zP vs ds ++ L) →
    ∃ (ps : List Addr) (zs : List ((Int × Int) × V × V)), vs = ps.map V.ref ∧ Paired (fun p (z : (Int × Int) × V × V) => SqT K H p [z.2.1, z.2.2]) ps zs ∧ zs.map (·.1) = ks.map (·.1) ∧ (∀ z ∈ zs, Dp K H z.2.1 (kPr z.1)) ∧ Good K H R (zP (zs.map (·.2.1)) (ks.map fun k => kPr k.1) ++ (zP (zs.map (·.2.2)) (ks.map (·.2)) ++ L))
  | [], [], ks, L, _, h, g => by
    cases h
    exact ⟨[], [], rfl, .nil, rfl, fun _ q => (nomatch q), g⟩
  | d :: ds, v :: vs, ks, L, hn, h, g => by
    obtain ⟨z, h1, h2⟩ := Option.bind_eq_some_iff.mp (show (prP d).bind _ = some ks from h)
    obtain ⟨ks', h3, rfl⟩ := Option.map_eq_some_iff.mp h2
    have hd := prP_inv h1
    subst hd
    have g0 : Good K H R ((some v, .p (.tuple [kPr z.1, z.2])) :: (zP vs ds ++ L)) := g
    obtain ⟨p, ws, e, hs, _, len, g1⟩ := g0.items (ds := [kPr z.1, z.2]) List.mem_cons_self (.inl rfl)
    cases e
    match ws, len with
    | [w1, w2], _ =>
      have g2 : Good K H R ((some w1, .p (kPr z.1)) :: (some w2, .p z.2) :: (some (.ref p), .p (.tuple [kPr z.1, z.2])) :: (zP vs ds ++ L)) := g1
      obtain ⟨x, ex, dx⟩ := g2.dp (o := some w1) (d := kPr z.1) List.mem_cons_self
      cases ex
      have g3 : Good K H R ((some w1, .p (kPr z.1)) :: (some w2, .p z.2) :: (zP vs ds ++ L)) := by
        have p1 : ((some w1, Slot.p (kPr z.1)) :: (some w2, .p z.2) :: (some (.ref p), .p (.tuple [kPr z.1, z.2])) :: (zP vs ds ++ L)).Perm ((some (.ref p), .p (.tuple [kPr z.1, z.2])) :: (some w1, .p (kPr z.1)) :: (some w2, .p z.2) :: (zP vs ds ++ L)) :=
          (List.Perm.cons _ (List.Perm.swap _ _ _)).trans (List.Perm.swap _ _ _)
        exact (g2.perm p1).drop
      have g5 : Good K H R (zP vs ds ++ ((some w1, .p (kPr z.1)) :: (some w2, .p z.2) :: L)) := by
        refine g3.perm ?_
        refine (List.Perm.cons _ List.perm_middle.symm).trans ?_
        exact List.perm_middle.symm
      obtain ⟨ps, zs, rfl, q1, q2, q3, g6⟩ := prsRow (by simpa using hn) h3 g5
      refine ⟨p :: ps, (z.1, w1, w2) :: zs, rfl, .cons (hs rfl) q1, by rw [List.map_cons, List.map_cons, q2], fun z' hz' => ?_, ?_⟩
      · rcases List.mem_cons.mp hz' with rfl | hz'
        · exact dx
        · exact q3 z' hz'
      · show Good K H R ((some w1, .p (kPr z.1)) :: (zP (zs.map (·.2.1)) (ks'.map fun k => kPr k.1) ++ ((some w2, .p z.2) :: (zP (zs.map (·.2.2)) (ks'.map (·.2)) ++ L))))
        refine g6.perm ?_
        have p1 : (zP (zs.map (·.2.2)) (ks'.map (·.2)) ++ ((some w1, .p (kPr z.1)) :: (some w2, .p z.2) :: L)).Perm ((some w1, .p (kPr z.1)) :: (some w2, .p z.2) :: (zP (zs.map (·.2.2)) (ks'.map (·.2)) ++ L)) :=
          List.perm_middle.trans (List.Perm.cons _ List.perm_middle)
        refine (List.Perm.append_left _ p1).trans ?_
        exact List.perm_middle
  | [], _ :: _, _, _, hn, _, _ => by simp at hn
  | _ :: _, [], _, _, hn, _, _ => by simp at hn
end
section
variable {ki : Ki} {W : WX} {te : TE} {me : ExM}
def gDictP : List PyData → Option Slot
  | [.list ds] => (prPs ds).bind fun ks => if (ks.map (·.1)).Nodup then some (.t ks) else none
  | _ => none
theorem cg_dictP : CallG ki (rDictPr ki.K) gDictP := fun H L vs ds s g a hs Q post => by
  unfold gDictP at hs
  split at hs
  · rename_i es
    obtain ⟨ks, h1, h2⟩ := Option.bind_eq_some_iff.mp hs
    split at h2
    · rename_i hnd
      cases h2
      obtain ⟨v, sv, rfl, hm, hd, h⟩ := args1 g a
      obtain ⟨p, vs, rfl, _, hl, len, g1⟩ := g.view hm hd (.inr rfl)
      obtain ⟨ps, zs, rfl, q1, q2, q3, g2⟩ := prsRow len h1 g1
      exact ⟨p, ps, zs, rfl, hl rfl, q1, q3, by rw [q2]; exact hnd, fun l nl => post _ _ (g2.newT nl q2)⟩
    · cases h2
  · cases hs
/-- x[k], x a name's dict by dots -/
def mTIx (i : Nat) (mk : ExM) : ExM := fun env => match env[i]? with
  | some (.t ks) => bnd mk (fun o => bnd (look o) fun d env2 => (match d with
    | .tuple [.int a, .int b] => (ks.find? fun q => decide (q.1 = (a, b))).map fun q => (.ok (.val (.p q.2)), env2)
    | _ => none)) env
  | _ => none
theorem find_zip {ks : List ((Int × Int) × PyData)} {zs : List ((Int × Int) × V × V)} {k : Int × Int} {q : (Int × Int) × PyData} (e : zs.map (·.1) = ks.map (·.1)) (h : ks.find? (fun q => decide (q.1 = k)) = some q) : ∃ z ∈ zs, z.1 = k ∧ (some z.2.2, Slot.p q.2) ∈ zP (zs.map (·.2.2)) (ks.map (·.2)) := by
  have h1 : q.1 = k := by have z := List.find?_some h; exact of_decide_eq_true z
  obtain ⟨j, hj⟩ := List.mem_iff_getElem?.mp (List.mem_of_find?_eq_some h)
  have len : zs.length = ks.length := by have := congrArg List.length e; simpa using this
  have hlt : j < ks.length := (List.getElem?_eq_some_iff.mp hj).1
  have hz : zs[j]? = some (zs[j]'(by omega)) := List.getElem?_eq_getElem (by omega)
  refine ⟨zs[j]'(by omega), List.getElem_mem _, ?_, zP_at (i := j) (by rw [List.getElem?_map, hz]; rfl) (by rw [List.getElem?_map, hj]; rfl)⟩
  have e1 : (zs.map (·.1))[j]? = (ks.map (·.1))[j]? := by rw [e]
  rw [List.getElem?_map, List.getElem?_map, hz, hj] at e1
  exact (Option.some.inj e1).trans h1
theorem rd_tix {i : Nat} {tk : TE} {mk : ExM} (h : Rd ki W tk mk) : Rd ki W (tOp (rIxPr ki.K) (tVar i) tk) (mTIx i mk) := fun σ H env T r env' hl g e Q post => by
  unfold mTIx at e
  split at e
  case h_2 => cases e
  rename_i ks hi
  have hlt : i < env.length := (List.getElem?_eq_some_iff.mp hi).1
  have hσ : σ[i]? = some (σ[i]'(by omega)) := List.getElem?_eq_getElem (by omega)
  have hm : (σ[i]'(by omega), Slot.t ks) ∈ zE σ env ++ T := List.mem_append_left _ (zE_mem hσ hi)
  obtain ⟨a, zs, ea, ha, hk, _⟩ := g.openT hm
  refine ⟨.ref a, by rw [hσ, ea], ?_⟩
  have g1 := g.copyT hm
  rw [ea] at g1
  have g2 : G ki H (zE σ env ++ ([(some (V.ref a), Slot.t ks)] ++ T)) := toTop g1
  refine h.use (E := [(some (V.ref a), Slot.t ks)]) hl g2 e post fun o v H1 env1 n1 g3 i1 e => ?_
  obtain ⟨d, q, e⟩ := look_inv e
  split at e
  case h_2 => cases e
  rename_i x y
  obtain ⟨qq, hf, e2⟩ := Option.map_eq_some_iff.mp e
  cases e2
  have dy : Dp ki.K H1 v (kPr (x, y)) := g3.datDp (Opd.memD (A := []) i1 q) q
  have hm2 : (some (V.ref a), Slot.t ks) ∈ zE σ env' ++ ((some v, o.slot) :: ([(some (V.ref a), Slot.t ks)] ++ T)) := List.mem_append_right _ (List.mem_cons_of_mem _ List.mem_cons_self)
  obtain ⟨a', zs', ea', ha', hk', g4⟩ := g3.openT hm2
  cases ea'
  obtain ⟨z, hz, hz1, hz2⟩ := find_zip hk' hf
  have len : zs'.length = ks.length := by have := congrArg List.length hk'; simpa using this
  have keys : ∀ z ∈ zs', Dp ki.K H1 z.2.1 (kPr z.1) := fun z' hz' => by
    obtain ⟨j, hj⟩ := List.mem_iff_getElem?.mp hz'
    have hlt' : j < ks.length := by have := (List.getElem?_eq_some_iff.mp hj).1; omega
    have e1 : (zs'.map (·.1))[j]? = (ks.map (·.1))[j]? := by rw [hk']
    rw [List.getElem?_map, List.getElem?_map, hj, List.getElem?_eq_getElem hlt'] at e1
    have e1 : z'.1 = (ks[j]).1 := Option.some.inj e1
    have hmem : (some z'.2.1, Slot.p (kPr z'.1)) ∈ zP (zs'.map (·.2.1)) (ks.map fun k => kPr k.1) := zP_at (i := j) (by rw [List.getElem?_map, hj]; rfl) (by rw [List.getElem?_map, List.getElem?_eq_getElem hlt', e1]; rfl)
    obtain ⟨w, ew, hw⟩ := g4.dp (List.mem_append_left _ hmem)
    cases ew
    exact hw
  refine ⟨a, zs', z, rfl, ha', hz, by rw [hz1]; exact dy, keys, ?_⟩
  have g5 : G ki H1 ((some z.2.2, .p qq.2) :: (zE σ env' ++ ((some v, o.slot) :: ([(some (V.ref a), Slot.t ks)] ++ T)))) := by
    have g6 := Good.dropApp g4
    have g7 := g6.copy (List.mem_append_left _ hz2)
    have g8 : G ki H1 ([(some z.2.2, .p qq.2)] ++ (zP (zs'.map (·.2.2)) (ks.map (·.2)) ++ (zE σ env' ++ ((some v, o.slot) :: ([(some (V.ref a), Slot.t ks)] ++ T))))) := g7
    exact dropMid g8
  exact post _ _ n1 (settle (E := [(some v, o.slot), (some (V.ref a), Slot.t ks)]) g5) trivial
end
section
variable {env : Env}
@[simp] theorem mTIx_run (i : Nat) (mk : ExM) : mTIx i mk env = match env[i]? with
  | some (.t ks) => bnd mk (fun o => bnd (look o) fun d env2 => (match d with
    | .tuple [.int a, .int b] => (ks.find? fun q => decide (q.1 = (a, b))).map fun q => (.ok (.val (.p q.2)), env2)
    | _ => none)) env
  | _ => none := rfl
end
end MM
/-! S22: text * n; dict(..).get(..), sorted(dict(..).items()), {..: ..}[k] -/
namespace MM
open PySem PySem.Spec L2 MS
def repS (z : Str) (n : Int) : Str := ⟨(List.replicate n.toNat z.cps).foldl (· ++ ·) #[]⟩
def rMulT : R2 := fun x y H Q => ∃ (z : Str) (n : Int), x = .str z ∧ y = .int n ∧ 0 ≤ n ∧ n ≤ 1000 ∧ 0 < z.length ∧ z.length ≤ 1000 ∧ Q (.str (repS z n)) H
theorem op_mulT {X : L2.Cx} : OpR X (binaryOp .Mult) rMulT := by
  intro pins s σ H x y v u Q I rx ry h
  obtain ⟨z, n, rfl, rfl, h0, h1, h2, h3, q⟩ := h
  obtain ⟨t, rfl⟩ := rx
  obtain ⟨t', rfl⟩ := ry
  have fin : ∀ t k, EP X pins σ Q (.str (repS z n) t) { s with toks := k } := fun t k => ⟨.str (repS z n), H, I.tok _, ⟨t, rfl⟩, q⟩
  have line : (1000000 : Nat) < sizeLine := by rw [sizeLine_eq]; decide
  have hm : ∀ {a b : Nat}, a ≤ 1000 → b ≤ 1000 → a * b ≤ 1000000 := fun {a b} h1 h2 => Nat.le_trans (Nat.mul_le_mul h1 h2) (by decide)
  refine P.mul_str ?_ (fun a b => ?_) (fun a b => ?_) ?_
  · rw [decide_eq_false (by omega), decide_eq_false (by omega)]; rfl
  · have h4 : (1000 : Int) ≤ (2 ^ 63 - 1) / n := by
      have h5 : (2 ^ 63 - 1) / 1000 ≤ ((2 ^ 63 - 1) / n : Int) := by
        refine Int.le_ediv_of_mul_le (by omega) ?_
        have : (2 ^ 63 - 1 : Int) / 1000 * n ≤ (2 ^ 63 - 1 : Int) / 1000 * 1000 := Int.mul_le_mul_of_nonneg_left h1 (by decide)
        omega
      omega
    have : (z.length : Int) ≤ 1000 := by omega
    omega
  · show decide (_ > sizeLine) = false
    rw [decide_eq_false]
    have := hm h3 (show n.toNat ≤ 1000 by omega)
    omega
  · by_cases hn : n < 1
    · rw [if_pos hn]
      have e : repS z n = Str.empty := by
        have : n = 0 := by omega
        subst this; rfl
      refine ⟨by decide, ?_⟩
      rw [← e]
      exact fin _ _
    · rw [if_neg hn]
      by_cases h1' : n = 1
      · subst h1'
        rw [if_pos (by rfl)]
        have e : repS z 1 = z := by
          unfold repS
          show (⟨#[] ++ z.cps⟩ : Str) = z
          rw [Array.empty_append]
        have := fin t s.toks
        rw [e] at this
        exact this
      · rw [if_neg (by
          rw [Bool.or_eq_true, beq_iff_eq, beq_iff_eq]
          omega)]
        refine ⟨?_, fin _ _⟩
        have hlen : ∀ (k : Nat) (a : Array Nat), ((List.replicate k z.cps).foldl (· ++ ·) a).size = a.size + k * z.cps.size := by
          intro k
          induction k with
          | zero => intro a; simp
          | succ k ih =>
            intro a
            rw [List.replicate_succ, List.foldl_cons, ih, Array.size_append, Nat.succ_mul]
            omega
        have h4 := hm (show n.toNat ≤ 1000 by omega) h3
        have h5 := hlen n.toNat #[]
        show (repS z n).cps.size ≤ sizeLine
        unfold repS
        rw [h5]
        show 0 + n.toNat * z.length ≤ sizeLine
        omega
section
variable {ki : Ki} {W : WX}
def gMulS : PyData → PyData → Option Slot
  | .str z, .int n => if 0 ≤ n ∧ n ≤ 1000 ∧ 0 < z.length ∧ z.length ≤ 1000 then some (.p (.str (repS z n))) else none
  | _, _ => none
theorem opg_mulS : OpG ki rMulT gMulS := fun H L x y sx sy d e s g hx dx hy dy hs Q post => by
  have d1 := g.datDp hx dx
  have d2 := g.datDp hy dy
  unfold gMulS at hs
  split at hs
  · split at hs
    · rename_i h
      cases hs
      cases d1
      cases d2
      exact ⟨_, _, rfl, rfl, h.1, h.2.1, h.2.2.1, h.2.2.2, post _ _ (g.push fun F => .str _)⟩
    · cases hs
  · cases hs
/-- E.get(k, d), E a new dict -/
def mDGetE (me : ExM) (mk md : Env → Option PyData) : ExM := bnd me fun o env => match o with
  | .val (.m ks) => (mk env).bind fun k => (md env).bind fun d => (keyD k).bind fun ky => (match valS ks ky with
    | some (.p e) => some (.ok (.val (.p e)), env)
    | none => some (.ok (.val (.p d)), env)
    | _ => none)
  | _ => none
theorem rd_dgetE {te ty tx : TE} {me : ExM} {mk md : Env → Option PyData} (h : Rd ki W te me) (hk : RdD ki ty mk) (hd : RdD ki tx md) : Rd ki W (tDGet2 te ty tx) (mDGetE me mk md) := fun σ H env T r env' hl g e Q post => by
  refine h.use (E := []) hl g e post fun o1 v1 H1 env1 n1 g1 i1 e => ?_
  cases o1 with
  | ref i => cases e
  | val s =>
    cases s with
    | m ks =>
      obtain ⟨k, ek, e⟩ := Option.bind_eq_some_iff.mp (show (mk env1).bind _ = some (r, env') from e)
      obtain ⟨d, ed, e⟩ := Option.bind_eq_some_iff.mp e
      obtain ⟨ky, ey, e⟩ := Option.bind_eq_some_iff.mp e
      have g2 : G ki H1 ((some v1, .m ks) :: (zE σ env1 ++ T)) := g1.perm List.perm_middle
      obtain ⟨a, kvs, ea, ha, keys, g3⟩ := g2.openM
      cases ea
      have hl1 := hl.trans n1.symm
      refine ⟨a, rfl, .inl ⟨kvs, .inl ha⟩, ?_⟩
      refine hk σ H1 env1 _ k hl1 g1 ek _ fun vk gk => ?_
      have hkv := keyD_V (gk.datDp (x := vk) (s := .p k) (d := k) List.mem_cons_self rfl) ey
      subst hkv
      refine hd σ H1 env1 _ d hl1 g1 ed _ fun vd gd => ?_
      refine ⟨valV kvs ky, .inl ⟨kvs, ky, .inl ha, rfl, rfl⟩, ?_⟩
      obtain ⟨q1, q2⟩ := valS_at (k := ky) keys
      split at e
      · rename_i d2 hd2
        cases e
        obtain ⟨v, ev, hm⟩ := q1 _ hd2
        rw [ev]
        have g4 := g3.copy (o := some v) (d := d2) (List.mem_append_left _ hm)
        have g5 : Good ki.K H1 [a] ([(some v, .p d2)] ++ (zM kvs ks ++ (zE σ env' ++ T))) := g4
        have g6 : Good ki.K H1 [] ([(some v, .p d2)] ++ (zM kvs ks ++ (zE σ env' ++ T))) := g5.free
        have g7 : G ki H1 ((some v, .p d2) :: (zE σ env' ++ T)) := dropMid (A := [(some v, .p d2)]) g6
        exact post v H1 n1 (toTop g7) trivial
      · rename_i hd2
        cases e
        rw [q2 hd2]
        have g7 : G ki H1 ((some vd, .p d) :: (zE σ env' ++ T)) := by
          have g8 : G ki H1 (((some vd, .p d) :: zE σ env') ++ ([(some (V.ref a), .m ks)] ++ T)) := gd
          exact dropMid g8
        exact post vd H1 n1 (toTop g7) trivial
      · cases e
    | _ => cases e
/-- sorted(E.items()), E a new dict -/
def mSortE (me : ExM) : ExM := bnd me fun o env => match o with
  | .val (.m ks) => (kdsS ks).bind fun kds => if sortB (kds.map prD) = true ∧ (kds.all fun z => decide (z.2.depth ≤ 40)) = true then some (.ok (.val (.l ((srt (kds.map prD)).map .p))), env) else none
  | _ => none
theorem rd_sortE {te : TE} {me : ExM} (h : Rd ki W te me) : Rd ki W (tCB (rSortIt ki.K) (tCons (tBM0 ki.K "dict" rItemsV te) tNil)) (mSortE me) := fun σ H env T r env' hl g e Q post => by
  show tBM0 ki.K "dict" rItemsV te σ H fun x H2 => rSortIt ki.K [x] H2 Q
  refine h.use (E := []) hl g e post fun o1 v1 H1 env1 n1 g1 i1 e => ?_
  cases o1 with
  | ref i => cases e
  | val s =>
    cases s with
    | m ks =>
      obtain ⟨kds, ek, e⟩ := Option.bind_eq_some_iff.mp (show (kdsS ks).bind _ = some (r, env') from e)
      split at e
      · rename_i hcc
        cases e
        have hks := kdsS_eq ek
        subst hks
        have g2 : G ki H1 ((some v1, .m (kS kds)) :: (zE σ env' ++ T)) := g1.perm List.perm_middle
        obtain ⟨a, kvs, ea, ha, keys, g3⟩ := g2.openM
        cases ea
        have keys' : kvs.map (·.1) = kds.map (·.1) := by
          rw [keys]; unfold kS; rw [List.map_map]; rfl
        rw [zM_kS] at g3
        refine ⟨ty_dict ha, a, kvs, rfl, rfl, ha, fun p np => ?_⟩
        exact sortIt_go g3.free ha keys' hcc.1 hcc.2 np fun l H' g => post _ _ n1 (toTop g) trivial
      · cases e
    | _ => cases e
/-! ### displays of dicts -/
abbrev PrM := Env → Option (List (Key × PyData) × Env)
def RdP (ki : Ki) (W : WX) (trs : List (TE × TE)) (m : PrM) : Prop := ∀ (σ : L2.St) (H : Hp) (env : Env) (T : Row) (kds : List (Key × PyData)) (env' : Env), σ.length = env.length → G ki H (zE σ env ++ T) → m env = some (kds, env') →
  ∀ Q : List (V × V) → Hp → Prop, (∀ (kvs : List (Key × V)) (H' : Hp), env'.length = env.length → kvs.map (·.1) = kds.map (·.1) → G ki H' (zE σ env' ++ (zM kvs (kS kds) ++ T)) → Q (kvs.map fun kv => (kV kv.1, kv.2)) H') → tPairs trs σ H Q
def mpNil : PrM := fun env => some ([], env)
def mpCons (k : Key) (mv : ExM) (ms : PrM) : PrM := fun env => match mv env with
  | some (.ok o, e1) => o.own.bind fun d => (ms e1).map fun p => ((k, d) :: p.1, p.2)
  | _ => none
theorem rdp_nil : RdP ki W [] mpNil := fun σ H env T kds env' hl g e Q post => by
  cases e
  exact post [] H rfl rfl g
theorem rdp_cons {k : Key} {tv : TE} {mv : ExM} {trs : List (TE × TE)} {ms : PrM} (h : Rd ki W tv mv) (hs : RdP ki W trs ms) : RdP ki W ((tC (kV k), tv) :: trs) (mpCons k mv ms) := fun σ H env T kds env' hl g e Q post => by
  unfold mpCons at e
  cases hm : mv env with
  | none => rw [hm] at e; cases e
  | some p =>
    obtain ⟨r1, e1⟩ := p
    rw [hm] at e
    cases r1 with
    | ex x => cases e
    | ok o =>
      obtain ⟨d, ho, e⟩ := Option.bind_eq_some_iff.mp (show o.own.bind _ = some (kds, env') from e)
      obtain ⟨⟨kds2, e2⟩, hm2, e⟩ := Option.map_eq_some_iff.mp e
      cases e
      cases o with
      | ref j => cases ho
      | val s =>
        show tv σ H fun y H2 => tPairs trs σ H2 fun ps H3 => Q ((kV k, y) :: ps) H3
        refine h σ H env T _ _ hl g hm _ fun v H1 n1 g1 _ => ?_
        have g2 : G ki H1 ((some v, s) :: (zE σ e1 ++ T)) := g1.perm List.perm_middle
        have g3 := toTop (g2.frz ho)
        refine hs σ H1 e1 _ kds2 e2 (hl.trans n1.symm) g3 hm2 _ fun kvs H2 n2 hk g4 => ?_
        refine post ((k, v) :: kvs) H2 (n2.trans n1) (by rw [List.map_cons, List.map_cons, hk]) (g4.perm (List.Perm.append_left _ ?_))
        show (zM kvs (kS kds2) ++ (some v, Slot.p d) :: T).Perm ((some v, Slot.p d) :: (zM kvs (kS kds2) ++ T))
        exact List.perm_middle
def mDisp (ms : PrM) : ExM := fun env => (ms env).bind fun p => if p.1.length ≤ 15 then some (.ok (.val (.m (mergeS [] p.1))), p.2) else none
theorem rd_disp {trs : List (TE × TE)} {ms : PrM} (h : RdP ki W trs ms) : Rd ki W (tDisp trs) (mDisp ms) := fun σ H env T r e1 hl g e Q post => by
  obtain ⟨⟨kds, e1⟩, hm, e⟩ := Option.bind_eq_some_iff.mp (show (ms env).bind _ = some (r, e1) from e)
  split at e
  · rename_i hlen
    cases e
    intro p np
    have g1 := Good.reserve (u := .dK []) g np
    have g2 : Good ki.K (upd H p (.dK [])) [p] (zM [] [] ++ (zE σ env ++ T)) := g1
    have g3 := g2.closeM (vs := []) (ks := []) upd_same rfl
    have g4 : G ki (upd H p (.dK [])) (zE σ env ++ ((some (.ref p), .m []) :: T)) := toTop g3
    refine h σ _ env _ kds e1 hl g4 hm _ fun kvs H2 n2 hk g5 => ?_
    have g6 : G ki H2 ((some (.ref p), .m []) :: (zM kvs (kS kds) ++ (zE σ e1 ++ T))) := by
      refine g5.perm ?_
      have p1 : (zM kvs (kS kds) ++ (some (V.ref p), Slot.m []) :: T).Perm ((some (V.ref p), Slot.m []) :: (zM kvs (kS kds) ++ T)) := List.perm_middle
      refine (List.Perm.append_left _ p1).trans (List.perm_middle.trans (List.Perm.cons _ ?_))
      rw [← List.append_assoc, ← List.append_assoc]
      exact List.Perm.append_right _ List.perm_append_comm
    obtain ⟨a, vs, ea, ha, ek, _⟩ := g6.openM
    cases ea
    have hv : vs = [] := by simpa using ek
    subst hv
    have hl2 : kvs.length = kds.length := by have := congrArg List.length hk; simpa using this
    have hlen : kds.length ≤ 15 := hlen
    refine ⟨ha, kvs, rfl, by omega, ?_⟩
    have g7 : G ki (upd H2 p (.dK [])) ((some (.ref p), .m []) :: (zM kvs (kS kds) ++ (zE σ e1 ++ T))) := by
      have : upd H2 p (.dK []) = H2 := by
        funext b
        by_cases hb : b = p
        · subst hb; rw [upd_same, ha]
        · rw [upd_ne hb]
      rw [this]; exact g6
    have g8 := mergeRow hk g7
    exact post _ _ n2 (toTop g8) trivial
  · cases e
/-- E[k], E a new dict -/
def mDIxE (me mk : ExM) : ExM := bnd me fun o => bnd mk fun ok => bnd (look ok) fun k env => match o with
  | .val (.m ks) => (keyD k).bind fun ky => (match valS ks ky with
    | some (.p e) => some (.ok (.val (.p e)), env)
    | _ => none)
  | _ => none
theorem rd_dixE {te ty : TE} {me mk : ExM} (h : Rd ki W te me) (hk : Rd ki W ty mk) : Rd ki W (tDGet te ty) (mDIxE me mk) := fun σ H env T r env' hl g e Q post => by
  refine h.use (E := []) hl g e post fun o1 v1 H1 env1 n1 g1 i1 e => ?_
  refine hk.use (E := [(some v1, o1.slot)]) (hl.trans n1.symm) g1 e (by rw [n1]; exact post) fun o2 v2 H2 env2 n2 g2 i2 e => ?_
  obtain ⟨k, q2, e⟩ := look_inv e
  have dk := g2.datDp (Opd.memD (A := []) i2 q2) q2
  cases o1 with
  | ref i => cases e
  | val s =>
    cases s with
    | m ks =>
      obtain ⟨ky, ey, e⟩ := Option.bind_eq_some_iff.mp (show (keyD k).bind _ = some (r, env') from e)
      have hkv := keyD_V dk ey
      subst hkv
      split at e
      · rename_i d2 hd2
        cases e
        have g3 : G ki H2 ((some v1, .m ks) :: (zE σ env' ++ ((some (kV ky), o2.slot) :: T))) := by
          refine g2.perm ?_
          show (zE σ env' ++ ((some (kV ky), o2.slot) :: ((some v1, Slot.m ks) :: T))).Perm _
          refine (List.Perm.append_left _ (List.Perm.swap _ _ _)).trans ?_
          exact List.perm_middle
        obtain ⟨a, kvs, ea, ha, keys, g4⟩ := g3.openM
        cases ea
        obtain ⟨q1, _⟩ := valS_at (k := ky) keys
        obtain ⟨v, ev, hm⟩ := q1 _ hd2
        refine ⟨a, v, rfl, .inl ⟨kvs, ky, .inl ha, rfl, ev.symm⟩, ?_⟩
        have g5 := g4.copy (o := some v) (d := d2) (List.mem_append_left _ hm)
        have g6 : G ki H2 ([(some v, .p d2)] ++ (zM kvs ks ++ (zE σ env' ++ ((some (kV ky), o2.slot) :: T)))) := Good.free g5
        have g7 : G ki H2 ([(some v, .p d2)] ++ (zE σ env' ++ ((some (kV ky), o2.slot) :: T))) := dropMid g6
        have g8 : G ki H2 (([(some v, .p d2)] ++ zE σ env') ++ ([(some (kV ky), o2.slot)] ++ T)) := by rw [List.append_assoc]; exact g7
        have g9 := dropMid g8
        exact post v H2 (n2.trans n1) (toTop g9) trivial
      · cases e
    | _ => cases e
end
section
variable {env : Env}
@[simp] theorem mDGetE_run (me : ExM) (mk md : Env → Option PyData) : mDGetE me mk md env = bnd me (fun o env => match o with
  | .val (.m ks) => (mk env).bind fun k => (md env).bind fun d => (keyD k).bind fun ky => (match valS ks ky with
    | some (.p e) => some (.ok (.val (.p e)), env)
    | none => some (.ok (.val (.p d)), env)
    | _ => none)
  | _ => none) env := rfl
@[simp] theorem mSortE_run (me : ExM) : mSortE me env = bnd me (fun o env => match o with
  | .val (.m ks) => (kdsS ks).bind fun kds => if sortB (kds.map prD) = true ∧ (kds.all fun z => decide (z.2.depth ≤ 40)) = true then some (.ok (.val (.l ((srt (kds.map prD)).map .p))), env) else none
  | _ => none) env := rfl
@[simp] theorem mDIxE_run (me mk : ExM) : mDIxE me mk env = bnd me (fun o => bnd mk fun ok => bnd (look ok) fun k env => match o with
  | .val (.m ks) => (keyD k).bind fun ky => (match valS ks ky with
    | some (.p e) => some (.ok (.val (.p e)), env)
    | _ => none)
  | _ => none) env := rfl
end
end MM
/-! VM: vectors and sets of pairs, in plain words -/
namespace MM
open PySem PySem.Spec L2
abbrev Pr := Int × Int
abbrev ks (v : List Pr) : List Int := v.map (·.1)
def cnt (v : List Pr) (c : Int) : Int := ((v.filter fun p => p.1 == c).map (·.2)).sum
def ltI (p q : Pr) : Prop := p.1 < q.1 ∨ (p.1 = q.1 ∧ p.2 < q.2)
theorem ltI_trans {p q r : Pr} (h1 : ltI p q) (h2 : ltI q r) : ltI p r := by
  unfold ltI at *; omega
theorem ltI_irrefl {p : Pr} (h : ltI p p) : False := by
  unfold ltI at h; omega
theorem ltI_total (p q : Pr) : ltI p q ∨ p = q ∨ ltI q p := by
  obtain ⟨a, b⟩ := p
  obtain ⟨c, d⟩ := q
  unfold ltI
  simp only [Prod.mk.injEq]
  omega
/-- strictly rising rows are known by their members -/
theorem strict_ext : ∀ {a b : List Pr}, a.Pairwise ltI → b.Pairwise ltI → (∀ d, d ∈ a ↔ d ∈ b) → a = b
  | [], [], _, _, _ => rfl
  | [], y :: b, _, _, h => absurd ((h y).mpr List.mem_cons_self) (by simp)
  | x :: a, [], _, _, h => absurd ((h x).mp List.mem_cons_self) (by simp)
  | x :: a, y :: b, ha, hb, h => by
    obtain ⟨a1, a2⟩ := List.pairwise_cons.mp ha
    obtain ⟨b1, b2⟩ := List.pairwise_cons.mp hb
    have e : x = y := by
      rcases List.mem_cons.mp ((h x).mp List.mem_cons_self) with z | z
      · exact z
      · rcases List.mem_cons.mp ((h y).mpr List.mem_cons_self) with z' | z'
        · exact z'.symm
        · exact (ltI_irrefl (ltI_trans (a1 y z') (b1 x z))).elim
    subst e
    rw [strict_ext a2 b2 fun d => ?_]
    constructor
    · intro hd
      rcases List.mem_cons.mp ((h d).mp (List.mem_cons_of_mem _ hd)) with z | z
      · subst z; exact (ltI_irrefl (a1 _ hd)).elim
      · exact z
    · intro hd
      rcases List.mem_cons.mp ((h d).mpr (List.mem_cons_of_mem _ hd)) with z | z
      · subst z; exact (ltI_irrefl (b1 _ hd)).elim
      · exact z
theorem leI_iff (p q : Pr) : leI p q = true ↔ ltI p q ∨ p = q := by
  obtain ⟨a, b⟩ := p
  obtain ⟨c, d⟩ := q
  unfold leI ltI
  simp only [decide_eq_true_eq, Prod.mk.injEq]
  omega
theorem sortI_perm (l : List Pr) : (sortI l).Perm l := List.mergeSort_perm _ _
theorem sortI_pw (l : List Pr) : (sortI l).Pairwise fun a b => leI a b = true := by
  refine List.pairwise_mergeSort (fun a b c h1 h2 => ?_) (fun a b => ?_) l
  · rw [leI_iff] at *
    rcases h1 with h1 | rfl
    · rcases h2 with h2 | rfl
      · exact .inl (ltI_trans h1 h2)
      · exact .inl h1
    · exact h2
  · rw [Bool.or_eq_true, leI_iff, leI_iff]
    rcases ltI_total a b with h | h | h
    · exact .inl (.inl h)
    · exact .inl (.inr h)
    · exact .inr (.inl h)
theorem sortI_mem {l : List Pr} {d : Pr} : d ∈ sortI l ↔ d ∈ l := (sortI_perm l).mem_iff
theorem sortI_strict {l : List Pr} (h : l.Nodup) : (sortI l).Pairwise ltI := by
  have n := (sortI_perm l).nodup_iff.mpr h
  refine List.Pairwise.imp (fun {a b} h => ?_) (List.Pairwise.and (sortI_pw l) n)
  rcases (leI_iff a b).mp h.1 with z | z
  · exact z
  · exact absurd z h.2
theorem strict_nodup {l : List Pr} (h : l.Pairwise ltI) : l.Nodup := h.imp fun {a b} h e => by subst e; exact ltI_irrefl h
theorem sortI_id {l : List Pr} (h : l.Pairwise ltI) : sortI l = l := strict_ext (sortI_strict (strict_nodup h)) h fun d => sortI_mem
/-- a set, in order -/
def ddT {α : Type} [DecidableEq α] : List α → List α
  | [] => []
  | d :: ds => if d ∈ ds then ddT ds else d :: ddT ds
theorem ddT_mem {α : Type} [DecidableEq α] : ∀ {l : List α} {d : α}, d ∈ ddT l ↔ d ∈ l
  | [], d => Iff.rfl
  | e :: l, d => by
    unfold ddT
    split
    · rename_i h
      rw [ddT_mem, List.mem_cons]
      exact ⟨.inr, fun z => z.elim (fun z => z ▸ h) id⟩
    · rw [List.mem_cons, List.mem_cons, ddT_mem]
theorem ddT_nodup {α : Type} [DecidableEq α] : ∀ (l : List α), (ddT l).Nodup
  | [] => List.nodup_nil
  | e :: l => by
    unfold ddT
    split
    · exact ddT_nodup l
    · rename_i h
      exact List.nodup_cons.mpr ⟨fun z => h (ddT_mem.mp z), ddT_nodup l⟩
theorem ddT_len {α : Type} [DecidableEq α] : ∀ (l : List α), (ddT l).length ≤ l.length
  | [] => Nat.le_refl _
  | e :: l => by
    have := ddT_len l
    unfold ddT
    split
    · rw [List.length_cons]; omega
    · rw [List.length_cons, List.length_cons]; omega
def sset (l : List Pr) : List Pr := sortI (ddT l)
theorem sset_mem {l : List Pr} {d : Pr} : d ∈ sset l ↔ d ∈ l := sortI_mem.trans ddT_mem
theorem sset_strict (l : List Pr) : (sset l).Pairwise ltI := sortI_strict (ddT_nodup l)
theorem sset_len (l : List Pr) : (sset l).length ≤ l.length := by
  unfold sset
  rw [(sortI_perm _).length_eq]
  exact ddT_len l
theorem sset_id {l : List Pr} (h : l.Pairwise ltI) : sset l = l := strict_ext (sset_strict l) h fun d => sset_mem
theorem toks_prI (p : Pr) : PySem.W.keyToks (prI p) = [.inl 1, .inl p.1, .inl 1, .inl p.2, .inl 0] := by
  simp [prI, PySem.W.keyToks, PySem.W.keyToksAll]
theorem dd_prI : ∀ l : List Pr, MS.dd (l.map prI) = (ddT l).map prI
  | [] => rfl
  | e :: l => by
    rw [List.map_cons]
    unfold MS.dd ddT
    have h : ((l.map prI).any fun x => decide (PySem.W.keyToks x = PySem.W.keyToks (prI e))) = decide (e ∈ l) := by
      rw [List.any_map, Bool.eq_iff_iff, List.any_eq_true, decide_eq_true_eq]
      constructor
      · rintro ⟨x, hx, q⟩
        have q := of_decide_eq_true q
        rw [toks_prI, toks_prI] at q
        simp only [List.cons.injEq, Sum.inl.injEq, and_true, true_and] at q
        have : x = e := Prod.ext q.1 q.2
        exact this ▸ hx
      · intro hx
        exact ⟨e, hx, decide_eq_true rfl⟩
    rw [h, dd_prI l]
    by_cases q : e ∈ l
    · rw [if_pos (decide_eq_true q), if_pos q]
    · rw [if_neg (by simpa using q), if_neg q]; rfl
theorem nk_prI : ∀ l : List Pr, MS.nksOf (l.map prI) = some (l.map fun p => .tup [.num p.1, .num p.2])
  | [] => rfl
  | e :: l => by
    rw [List.map_cons, MS.nksOf, nk_prI l]
    rfl
theorem keysOk_prI {l : List Pr} (h : l.length ≤ 63) : keysOk (l.map prI) = true := by
  unfold keysOk
  rw [nk_prI]
  have h1 : MS.okN false (l.map fun p => NestedKey.tup [.num p.1, .num p.2]) = true := by
    unfold MS.okN
    rw [List.all_map, List.all_eq_true]
    intro p _
    simp [MS.modeK, NestedKey.depth, NestedKey.depthAll]
  simp only [h1, List.length_map, h, decide_true, Bool.and_self, Bool.or_true]
theorem sortable_prI (l : List Pr) : MS.sortable (l.map prI) = true := by
  unfold MS.sortable
  rw [Bool.or_eq_true]
  refine .inl ?_
  rw [List.all_map, List.all_eq_true]
  intro p _; rfl
theorem dep_prI (l : List Pr) : dep40 (l.map prI) = true := by
  unfold dep40
  rw [List.all_map, List.all_eq_true]
  intro p _
  simp [prI, PyData.depth, PyData.depthAll]
theorem gSortSet_prI {l : List Pr} (h : l.length ≤ 63) : gSortSet (.list (l.map prI)) = some (.l (((sset l).map prI).map .p)) := by
  show (if keysOk (l.map prI) && sortB (l.map prI) && MS.sortable (l.map prI) && dep40 (l.map prI) then _ else _) = _
  rw [keysOk_prI h, sortB_prI, sortable_prI, dep_prI, dd_prI, srt_prI]; rfl
theorem gSortSet_tup {l : List Pr} (h : l.length ≤ 63) : gSortSet (vD l) = some (.l (((sset l).map prI).map .p)) := by
  show (if keysOk (l.map prI) && sortB (l.map prI) && MS.sortable (l.map prI) && dep40 (l.map prI) then _ else _) = _
  rw [keysOk_prI h, sortB_prI, sortable_prI, dep_prI, dd_prI, srt_prI]; rfl
theorem gLenSet_prI {l : List Pr} (h : l.length ≤ 63) : gLenSet (.list (l.map prI)) = some (.p (.int (ddT l).length)) := by
  show (if keysOk (l.map prI) && sortB (l.map prI) then _ else _) = _
  rw [keysOk_prI h, sortB_prI, dd_prI, List.length_map]; rfl
theorem gSorted_prI (l : List Pr) : gSorted [.list (l.map prI)] = some (.l (((sortI l).map prI).map .p)) := by
  show (if sortB (l.map prI) && MS.sortable (l.map prI) && dep40 (l.map prI) then _ else _) = _
  rw [sortB_prI, sortable_prI, dep_prI, srt_prI]; rfl
/-! ### counts -/
theorem cnt_cons (p : Pr) (v : List Pr) (c : Int) : cnt (p :: v) c = (if p.1 = c then p.2 else 0) + cnt v c := by
  unfold cnt
  rw [List.filter_cons]
  by_cases h : p.1 = c
  · rw [if_pos (beq_iff_eq.mpr h), if_pos h, List.map_cons, List.sum_cons]
  · rw [if_neg (by simpa using h), if_neg h, Int.zero_add]
theorem cnt_nil (c : Int) : cnt [] c = 0 := rfl
theorem cnt_perm {a b : List Pr} (h : a.Perm b) (c : Int) : cnt a c = cnt b c := by
  induction h with
  | nil => rfl
  | cons x _ ih => rw [cnt_cons, cnt_cons, ih]
  | swap x y l => rw [cnt_cons, cnt_cons, cnt_cons, cnt_cons]; omega
  | trans _ _ ih1 ih2 => rw [ih1, ih2]
theorem cnt_no {v : List Pr} {c : Int} (h : c ∉ ks v) : cnt v c = 0 := by
  induction v with
  | nil => rfl
  | cons p v ih =>
    rw [cnt_cons, ih fun z => h (List.mem_cons_of_mem _ z), if_neg (fun e => h (by rw [← e]; exact List.mem_cons_self))]; rfl
theorem cnt_at : ∀ {v : List Pr} {p : Pr}, (ks v).Nodup → p ∈ v → cnt v p.1 = p.2
  | q :: v, p, n, h => by
    obtain ⟨n1, n2⟩ := List.nodup_cons.mp n
    rw [cnt_cons]
    rcases List.mem_cons.mp h with rfl | h
    · rw [if_pos rfl, cnt_no n1, Int.add_zero]
    · rw [if_neg (fun e => n1 (by show q.1 ∈ ks v; rw [e]; exact List.mem_map_of_mem h)), cnt_at n2 h, Int.zero_add]
theorem cnt_get : ∀ {v : List Pr} (c : Int), (ks v).Nodup → (getI v c).getD 0 = cnt v c
  | [], c, _ => rfl
  | p :: v, c, n => by
    obtain ⟨n1, n2⟩ := List.nodup_cons.mp n
    have ih := cnt_get (v := v) c n2
    unfold getI at *
    rw [List.find?_cons, cnt_cons]
    by_cases h : p.1 = c
    · rw [beq_iff_eq.mpr h, if_pos h, cnt_no (by rw [← h]; exact n1), Int.add_zero]; rfl
    · rw [show (p.1 == c) = false from beq_eq_false_iff_ne.mpr h, if_neg h, Int.zero_add, ← ih]
theorem any_iff (l : List Pr) (c : Int) : (l.any fun p => p.1 == c) = true ↔ c ∈ ks l := by
  rw [List.any_eq_true]
  constructor
  · rintro ⟨p, hp, e⟩
    exact List.mem_map.mpr ⟨p, hp, eq_of_beq e⟩
  · intro h
    obtain ⟨p, hp, e⟩ := List.mem_map.mp h
    exact ⟨p, hp, beq_iff_eq.mpr e⟩
theorem put_keys (l : List Pr) (c n : Int) : ks (putI l c n) = if c ∈ ks l then ks l else ks l ++ [c] := by
  unfold putI
  by_cases h : c ∈ ks l
  · rw [if_pos ((any_iff l c).mpr h), if_pos h]
    show ((l.map _).map _) = _
    rw [List.map_map]
    apply List.map_congr_left
    intro p _
    show (if p.1 = c then (p.1, n) else p).1 = p.1
    split <;> rfl
  · rw [if_neg (fun z => h ((any_iff l c).mp z)), if_neg h]
    show (l ++ [(c, n)]).map _ = _
    rw [List.map_append]; rfl
theorem put_nodup {l : List Pr} (c n : Int) (h : (ks l).Nodup) : (ks (putI l c n)).Nodup := by
  rw [put_keys]
  split
  · exact h
  · rename_i q
    refine List.nodup_append.mpr ⟨h, by simp, fun a ha b hb e => ?_⟩
    rw [List.mem_singleton.mp hb] at e
    exact q (e ▸ ha)
theorem put_cnt {l : List Pr} (c n c' : Int) (h : (ks l).Nodup) : cnt (putI l c n) c' = if c' = c then n else cnt l c' := by
  induction l with
  | nil =>
    show cnt [(c, n)] c' = _
    rw [cnt_cons, cnt_nil]
    by_cases q : c = c'
    · rw [if_pos q, if_pos q.symm]; omega
    · rw [if_neg q, if_neg (Ne.symm q)]; rfl
  | cons p l ih =>
    obtain ⟨n1, n2⟩ := List.nodup_cons.mp h
    have ih := ih n2
    by_cases hp : p.1 = c
    · have e : putI (p :: l) c n = (p.1, n) :: l := by
        unfold putI
        rw [if_pos ((any_iff _ c).mpr (by rw [← hp]; exact List.mem_cons_self)), List.map_cons, if_pos hp]
        congr 1
        rw [List.map_congr_left (g := id)]
        · simp
        · intro q hq
          rw [if_neg (fun e => n1 (by show p.1 ∈ ks l; rw [hp, ← e]; exact List.mem_map_of_mem hq))]; rfl
      rw [e, cnt_cons, cnt_cons]
      by_cases q : c' = c
      · rw [if_pos (by rw [q, ← hp]), if_pos q, cnt_no (by rw [q, ← hp]; exact n1), Int.add_zero]
      · rw [if_neg (by rw [hp]; exact Ne.symm q), if_neg q, if_neg (by rw [hp]; exact Ne.symm q)]
    · have e : putI (p :: l) c n = p :: putI l c n := by
        unfold putI
        by_cases q : c ∈ ks l
        · rw [if_pos ((any_iff (p :: l) c).mpr (List.mem_cons_of_mem _ q)), if_pos ((any_iff _ c).mpr q), List.map_cons, if_neg hp]
        · rw [if_neg (fun z => (List.mem_cons.mp ((any_iff (p :: l) c).mp z)).elim (fun z => hp z.symm) q), if_neg (fun z => q ((any_iff _ c).mp z))]; rfl
      rw [e, cnt_cons, cnt_cons, ih]
      by_cases q : c' = c
      · rw [if_pos q, if_neg (by rw [q]; exact hp)]; simp [q]
      · rw [if_neg q, if_neg q]
theorem put_mem {l : List Pr} {c n : Int} {p : Pr} (h : p ∈ putI l c n) : p ∈ l ∨ p = (c, n) := by
  unfold putI at h
  split at h
  · obtain ⟨q, hq, e⟩ := List.mem_map.mp h
    split at e
    · rename_i z
      exact .inr (by rw [← e, ← z])
    · exact .inl (e ▸ hq)
  · rcases List.mem_append.mp h with h | h
    · exact .inl h
    · exact .inr (List.mem_singleton.mp h)
theorem sort_keys {l : List Pr} (h : (ks l).Nodup) : (ks (sortI l)).Pairwise (· < ·) := by
  have n : (ks (sortI l)).Nodup := ((sortI_perm l).map _).nodup_iff.mpr h
  refine List.pairwise_map.mpr ?_
  have n' : (sortI l).Pairwise fun a b => a.1 ≠ b.1 := List.pairwise_map.mp n
  refine List.Pairwise.imp (fun {a b} h => ?_) (List.Pairwise.and (sortI_pw l) n')
  rcases (leI_iff a b).mp h.1 with z | z
  · rcases z with z | z
    · exact z
    · exact absurd z.1 h.2
  · exact absurd (by rw [z]) h.2
theorem lt_nodup {l : List Int} (h : l.Pairwise (· < ·)) : l.Nodup := h.imp fun h => Int.ne_of_lt h
/-- vectors are known by their counts -/
theorem asc_ext : ∀ {a b : List Pr}, (ks a).Pairwise (· < ·) → (ks b).Pairwise (· < ·) → (∀ p ∈ a, 1 ≤ p.2) → (∀ p ∈ b, 1 ≤ p.2) → (∀ c, cnt a c = cnt b c) → a = b := by
  intro a b ha hb pa pb h
  have key : ∀ {a b : List Pr}, (ks a).Nodup → (ks b).Nodup → (∀ p ∈ a, 1 ≤ p.2) → (∀ c, cnt a c = cnt b c) → ∀ d ∈ a, d ∈ b := by
    intro a b na nb pa h d hd
    have e := h d.1
    rw [cnt_at na hd] at e
    by_cases q : d.1 ∈ ks b
    · obtain ⟨p, hp, e2⟩ := List.mem_map.mp q
      have e3 := cnt_at nb hp
      rw [e2, ← e] at e3
      have : p = d := Prod.ext e2 e3.symm
      exact this ▸ hp
    · rw [cnt_no q] at e
      have := pa d hd
      omega
  have st : ∀ {a : List Pr}, (ks a).Pairwise (· < ·) → a.Pairwise ltI := fun h => (List.pairwise_map.mp h).imp fun h => .inl h
  exact strict_ext (st ha) (st hb) fun d => ⟨key (lt_nodup ha) (lt_nodup hb) pa h d, key (lt_nodup hb) (lt_nodup ha) pb (fun c => (h c).symm) d⟩
theorem asc_strict {a : List Pr} (h : (ks a).Pairwise (· < ·)) : a.Pairwise ltI := (List.pairwise_map.mp h).imp fun h => .inl h
theorem merge_new : ∀ (v acc : List Pr), (ks v).Nodup → (∀ c ∈ ks v, c ∉ ks acc) → mergeI acc v = acc ++ v
  | [], acc, _, _ => (List.append_nil _).symm
  | p :: v, acc, n, h => by
    obtain ⟨n1, n2⟩ := List.nodup_cons.mp n
    show mergeI (putI acc p.1 p.2) v = _
    have e : putI acc p.1 p.2 = acc ++ [p] := by
      unfold putI
      rw [if_neg (fun z => h p.1 List.mem_cons_self ((any_iff _ _).mp z))]
    rw [e, merge_new v _ n2, List.append_assoc]; rfl
    intro c hc z
    rw [show ks (acc ++ [p]) = ks acc ++ [p.1] from List.map_append] at z
    rcases List.mem_append.mp z with z | z
    · exact h c (List.mem_cons_of_mem _ hc) z
    · rw [List.mem_singleton.mp z] at hc
      exact n1 hc
theorem merge_id {v : List Pr} (n : (ks v).Nodup) : mergeI [] v = v := merge_new v [] n fun _ _ q => nomatch q
end MM
/-! VN: sets, sorting, greatest of whole numbers -/
open PySem PySem.Spec L2 MM MS
def sortZ (l : List Int) : List Int := l.mergeSort fun a b => decide (a ≤ b)
theorem sortZ_perm (l : List Int) : (sortZ l).Perm l := List.mergeSort_perm _ _
theorem sortZ_mem {l : List Int} {c : Int} : c ∈ sortZ l ↔ c ∈ l := (sortZ_perm l).mem_iff
theorem sortZ_le (l : List Int) : (sortZ l).Pairwise (· ≤ ·) := by
  have h := List.pairwise_mergeSort (le := fun a b : Int => decide (a ≤ b)) (fun a b c h1 h2 => by
    rw [decide_eq_true_eq] at *; omega) (fun a b => by rw [Bool.or_eq_true, decide_eq_true_eq, decide_eq_true_eq]; omega) l
  exact h.imp fun {a b} h => by simpa using h
theorem sortZ_lt {l : List Int} (h : l.Nodup) : (sortZ l).Pairwise (· < ·) := by
  have n := (sortZ_perm l).nodup_iff.mpr h
  exact (List.Pairwise.and (sortZ_le l) n).imp fun {a b} h => by
    have h1 := h.1
    have h2 := h.2
    omega
theorem toks_int (i : Int) : PySem.W.keyToks (.int i) = PySem.W.keyToks (.int i) := rfl
theorem dd_int : ∀ l : List Int, MS.dd (l.map .int) = (ddT l).map .int
  | [] => rfl
  | e :: l => by
    rw [List.map_cons]
    unfold MS.dd ddT
    have h : ((l.map PyData.int).any fun x => decide (PySem.W.keyToks x = PySem.W.keyToks (.int e))) = decide (e ∈ l) := by
      rw [List.any_map, Bool.eq_iff_iff, List.any_eq_true, decide_eq_true_eq]
      constructor
      · rintro ⟨x, hx, q⟩
        have q := of_decide_eq_true q
        simp [PySem.W.keyToks] at q
        exact q ▸ hx
      · intro hx
        exact ⟨e, hx, decide_eq_true rfl⟩
    rw [h, dd_int l]
    by_cases q : e ∈ l
    · rw [if_pos (decide_eq_true q), if_pos q]
    · rw [if_neg (by simpa using q), if_neg q]; rfl
theorem nk_int : ∀ l : List Int, MS.nksOf (l.map .int) = some (l.map fun p => .num p)
  | [] => rfl
  | e :: l => by
    rw [List.map_cons, MS.nksOf, nk_int l]
    rfl
theorem keysOk_int {l : List Int} (h : l.length ≤ 4000) : keysOk (l.map .int) = true := by
  unfold keysOk
  rw [nk_int]
  have h1 : MS.okN true (l.map fun p => NestedKey.num p) = true := by
    unfold MS.okN
    rw [List.all_map, List.all_eq_true]
    intro p _
    simp [MS.modeK, NestedKey.depth]
  simp only [h1, List.length_map, h, decide_true, Bool.and_self, Bool.true_or]
theorem sortable_int (l : List Int) : MS.sortable (l.map .int) = true := by
  unfold MS.sortable
  rw [Bool.or_eq_true]
  refine .inr ?_
  rw [List.all_map, List.all_eq_true]
  intro p _; rfl
theorem dep_int (l : List Int) : dep40 (l.map .int) = true := by
  unfold dep40
  rw [List.all_map, List.all_eq_true]
  intro p _
  simp [PyData.depth]
theorem sortB_int (l : List Int) : sortB (l.map .int) = true := by
  unfold sortB
  rw [List.all_eq_true]
  intro d hd
  obtain ⟨p, _, rfl⟩ := List.mem_map.mp hd
  rw [List.all_eq_true]
  intro e he
  obtain ⟨q, _, rfl⟩ := List.mem_map.mp he
  simp [PySem.W.alike, PySem.W.alikeAll]
theorem srt_int (l : List Int) : srt (l.map .int) = (sortZ l).map .int := by
  unfold srt sortZ
  symm
  apply List.map_mergeSort
  intro p _ q _
  have h := congrFun (congrFun (PySem.W.dataLe_int (fun z : Int => z)) p) q
  exact h.symm
theorem gSortSet_int {l : List Int} (h : l.length ≤ 4000) : gSortSet (.list (l.map .int)) = some (.l (((sortZ (ddT l)).map .int).map .p)) := by
  show (if keysOk (l.map .int) && sortB (l.map .int) && MS.sortable (l.map .int) && dep40 (l.map .int) then _ else _) = _
  rw [keysOk_int h, sortB_int, sortable_int, dep_int, dd_int, srt_int]; rfl
theorem gSorted_int (l : List Int) : gSorted [.list (l.map .int)] = some (.l (((sortZ l).map .int).map .p)) := by
  show (if sortB (l.map .int) && MS.sortable (l.map .int) && dep40 (l.map .int) then _ else _) = _
  rw [sortB_int, sortable_int, dep_int, srt_int]; rfl
theorem gMaxL_int (l : List Int) : gMaxL [.list (l.map .int)] = (maxL l).map fun m => .p (.int m) := by
  show (ints? (l.map .int)).bind _ = _
  have := ints_map (fun x : Int => x) l
  rw [List.map_id'] at this
  rw [this]; rfl
theorem maxL_spec {l : List Int} {m : Int} (h : maxL l = some m) : m ∈ l ∧ ∀ x ∈ l, x ≤ m := by
  cases l with
  | nil => cases h
  | cons n ns =>
    cases h
    exact foldl_max_spec ns n
theorem maxL_some {l : List Int} (h : l ≠ []) : ∃ m, maxL l = some m := by
  cases l with
  | nil => exact absurd rfl h
  | cons n ns => exact ⟨_, rfl⟩
/-! D_COM: defs that many laws reach, printed by gen.py -/
namespace Com
open PySem PySem.Spec L2 MM
def mb__law_draw : StM := (sSeq (sAsg (mC (.int 7)) (gN 1))
 (sSeq (sFor (mSeq (mVar 0)) (tgP (gN 2))
 (sAsg (mOp (gI fMod) (mCall gInt (mCons (mOp gAdd (mOp gAdd (mOp (gI fMul) (mVar 1) (mC (.int 48271))) (mOp (gI fMod) (mCall gAbs (mCons (mCall gInt (mCons (mVar 2) mNil)) mNil)) (mC (.int 65521)))) (mC (.int 1))) mNil)) (mC (.int 2147483647))) (gN 1)))
 (sRet (mLst (mCons (mComp [2] (mSeq (mVar 0)) (tgP (gN 2)) mYes (mCall gAbs (mCons (mCall gInt (mCons (mVar 2) mNil)) mNil))) (mCons (mUn gNeg (mC (.int 1))) (mCons (mC (.int 0)) (mCons (mVar 1) mNil))))))))
abbrev N__law_draw : List Str := ["script", "seed", "cell"]
def m__law_draw : FnM := runB 1 N__law_draw.length mb__law_draw
def mb__law_take : StM := (sSeq (sIf (mTest (mOp gEq (mOp gIdx (mVar 0) (mC (.int 2))) (mC (.int 0))))
 (sSeq (sSetL 0 (mOp gAdd (mOp gIdx (mVar 0) (mC (.int 1))) (mC (.int 1))) (mC (.int 1)))
 (sSeq (sIf (mTest (mOp gLtI (mOp gIdx (mVar 0) (mC (.int 1))) (mCall gLen (mCons (mOp gIdx (mVar 0) (mC (.int 0))) mNil))))
 (sSetL 0 (mOp gIdx (mOp gIdx (mVar 0) (mC (.int 0))) (mOp gIdx (mVar 0) (mC (.int 1)))) (mC (.int 2)))
 sNx)
 (sIf (mTest (mOp gEq (mOp gIdx (mVar 0) (mC (.int 2))) (mC (.int 0))))
 (sSeq (sSetL 0 (mOp (gI fMod) (mCall gInt (mCons (mOp gAdd (mOp (gI fMul) (mOp gIdx (mVar 0) (mC (.int 3))) (mC (.int 48271))) (mC (.int 11))) mNil)) (mC (.int 2147483647))) (mC (.int 3)))
 (sSetL 0 (mOp gIdx (mVar 0) (mC (.int 3))) (mC (.int 2))))
 sNx)))
 sNx)
 (sSeq (sAsg (mOp (gI fMod) (mCall gInt (mCons (mOp gIdx (mVar 0) (mC (.int 2))) mNil)) (mVar 1)) (gN 2))
 (sSeq (sSetL 0 (mOp (gI fDiv) (mOp gIdx (mVar 0) (mC (.int 2))) (mVar 1)) (mC (.int 2)))
 (sRet (mVar 2)))))
abbrev N__law_take : List Str := ["draw", "many", "found"]
def m__law_take : FnM := runB 2 N__law_take.length mb__law_take
def mb__law_same : StM := (sRet (mAnd (mOp gEq (mVar 0) (mVar 1)) (mOp (gEqT false) (mCall gRepr (mCons (mVar 0) mNil)) (mCall gRepr (mCons (mVar 1) mNil)))))
abbrev N__law_same : List Str := ["actual", "due"]
def m__law_same : FnM := runB 2 N__law_same.length mb__law_same
def mb_is_integer : StM := (sSeq (sIf (mOrT (mNotT (mTruth (mIsi ["int"] (mVar 0)))) (mTruth (mIsi ["bool"] (mVar 0))))
 (sRet (mC (.bool false)))
 sNx)
 (sRet (mAnd (mOr (mOp (gIs false) (mVar 1) (mC .none)) (mOp gGeI (mVar 0) (mVar 1))) (mOr (mOp (gIs false) (mVar 2) (mC .none)) (mOp gLeI (mVar 0) (mVar 2))))))
abbrev N_is_integer : List Str := ["value", "low", "high"]
def m_is_integer : FnM := runB 3 N_is_integer.length mb_is_integer
def mb_is_copy : StM := (sRet (mFn m_is_integer (mCons (mVar 0) (mCons (mC (.int 0)) (mCons (mOp (gI fun i j => some (.int (i - j))) (mC (.int 8)) (mC (.int 1))) mNil)))))
abbrev N_is_copy : List Str := ["value"]
def m_is_copy : FnM := runB 1 N_is_copy.length mb_is_copy
def mb_is_dot : StM := (sRet (mAnd (mIsi ["tuple"] (mVar 0)) (mAnd (mOp gEq (mCall gLen (mCons (mVar 0) mNil)) (mC (.int 2))) (mAnd (mFn m_is_copy (mCons (mOp gIdx (mVar 0) (mC (.int 0))) mNil)) (mFn m_is_integer (mCons (mOp gIdx (mVar 0) (mC (.int 1))) (mCons (mC (.int 1)) (mCons (mC .none) mNil))))))))
abbrev N_is_dot : List Str := ["value"]
def m_is_dot : FnM := runB 1 N_is_dot.length mb_is_dot
def mb_is_vector : StM := (sSeq (sIf (mOrT (mNotT (mTruth (mIsi ["tuple"] (mVar 0)))) (mNotT (mTruth (mCall gAll (mCons (mComp [1] (mSeq (mVar 0)) (tgP (gN 1)) mYes (mFnF m_is_dot (mCons (mVar 1) mNil))) mNil)))))
 (sRet (mC (.bool false)))
 sNx)
 (sRet (mCall gAll (mCons (mComp [1, 2] (mZip (mCons (mVar 0) (mCons (mSlice (mVar 0) (mPart (mC (.int 1))) mNoPart) mNil))) (tg2 (gN 1) (gN 2)) mYes (mOp gLtI (mOp gIdx (mVar 1) (mC (.int 0))) (mOp gIdx (mVar 2) (mC (.int 0))))) mNil))))
abbrev N_is_vector : List Str := ["value", "one", "other"]
def m_is_vector : FnM := runB 1 N_is_vector.length mb_is_vector
def mb_count_of : StM := (sRet (mCall gSum (mCons (mComp [2, 3] (mSeq (mVar 0)) (tgP (gT 2 (gsCons (gN 2) (gsCons (gN 3) gsNil)))) (mTest (mOp gEq (mVar 2) (mVar 1))) (mVar 3)) mNil)))
abbrev N_count_of : List Str := ["vector", "copy", "one", "n"]
def m_count_of : FnM := runB 2 N_count_of.length mb_count_of
def mb_has : StM := (sRet (mOp gGeI (mFn m_count_of (mCons (mVar 0) (mCons (mOp gIdx (mVar 1) (mC (.int 0))) mNil))) (mOp gIdx (mVar 1) (mC (.int 1)))))
abbrev N_has : List Str := ["vector", "dot"]
def m_has : FnM := runB 2 N_has.length mb_has
def mb_joined : StM := (sSeq (sAsg (mCall gDict (mCons (mVar 0) mNil)) (gN 2))
 (sSeq (sFor (mSeq (mVar 1)) (tgP (gT 2 (gsCons (gN 3) (gsCons (gN 4) gsNil))))
 (sDSet 2 (mCall gMax2 (mCons (mVar 4) (mCons (mDGet2 2 (mVar 3) (mC (.int 0))) mNil))) (mVar 3)))
 (sRet (mCall gTuple (mCons (mSortIt 2) mNil)))))
abbrev N_joined : List Str := ["one", "other", "found", "copy", "n"]
def m_joined : FnM := runB 2 N_joined.length mb_joined
def mb_covers : StM := (sRet (mCall gAll (mCons (mComp [2, 3] (mSeq (mVar 1)) (tgP (gT 2 (gsCons (gN 2) (gsCons (gN 3) gsNil)))) mYes (mOp gGeI (mFnF m_count_of (mCons (mVar 0) (mCons (mVar 2) mNil))) (mVar 3))) mNil)))
abbrev N_covers : List Str := ["one", "other", "copy", "n"]
def m_covers : FnM := runB 2 N_covers.length mb_covers
def mb_size_of : StM := (sRet (mCall gSum (mCons (mComp [1, 2] (mSeq (mVar 0)) (tgP (gT 2 (gsCons (gN 1) (gsCons (gN 2) gsNil)))) mYes (mVar 2)) mNil)))
abbrev N_size_of : List Str := ["vector", "_", "n"]
def m_size_of : FnM := runB 1 N_size_of.length mb_size_of
end Com
/-! P_COM: what the common defs give, on typed data -/
namespace Com
open PySem PySem.Spec L2 MM
theorem count_of_eq (v : List Pr) (c : Int) (hv : v.length ≤ 1000000) : m_count_of [.p (vD v), .p (.int c)] = some (.ok (.p (.int (cnt v c))), [.p (vD v), .p (.int c)]) := by
  have hc := compM_run (own := [2, 3]) (tg := (tgP (gT 2 (gsCons (gN 2) (gsCons (gN 3) gsNil))))) (mt := (mTest (mOp gEq (mVar 2) (mVar 1)))) (me := (mVar 3)) prI (fun p => p.1 == c) (fun p => .int p.2) [.p (vD v), .p (.int c), .un, .un] v [] (fun x hx =>
    ⟨_, _, rfl, rfl, fun _ => rfl, fun _ => ⟨_, _, rfl, rfl, rfl⟩⟩)
  refine fn_rt (e := [.p (vD v), .p (.int c), .un, .un]) rfl ?_
  show mb_count_of [.p (vD v), .p (.int c), .un, .un] = _
  unfold mb_count_of
  simp [-List.map_map, hc, hv, cnt]
theorem has_eq (v : List Pr) (d : Pr) (hv : v.length ≤ 1000000) : m_has [.p (vD v), .p (prI d)] = some (.ok (.p (.bool (decide (d.2 ≤ cnt v d.1)))), [.p (vD v), .p (prI d)]) := by
  refine fn_rt (e := [.p (vD v), .p (prI d)]) rfl ?_
  show mb_has [.p (vD v), .p (prI d)] = _
  unfold mb_has
  simp [-List.map_map, count_of_eq _ _ hv]
def cov (a b : List Pr) : Bool := b.all fun p => decide (p.2 ≤ cnt a p.1)
theorem covers_eq (a b : List Pr) (ha : a.length ≤ 1000000) (hb : b.length ≤ 1000000) : m_covers [.p (vD a), .p (vD b)] = some (.ok (.p (.bool (cov a b))), [.p (vD a), .p (vD b)]) := by
  have hc := compM_map (own := [2, 3]) (tg := (tgP (gT 2 (gsCons (gN 2) (gsCons (gN 3) gsNil))))) (me := (mOp gGeI (mFnF m_count_of (mCons (mVar 0) (mCons (mVar 2) mNil))) (mVar 3))) prI (fun p => .bool (decide (p.2 ≤ cnt a p.1))) [.p (vD a), .p (vD b), .un, .un] b [] (fun x hx =>
    ⟨[.p (vD a), .p (vD b), .p (.int x.1), .p (.int x.2)], .val (.p (.bool (decide (x.2 ≤ cnt a x.1)))), [.p (vD a), .p (vD b), .p (.int x.1), .p (.int x.2)], rfl, by simp [-List.map_map, count_of_eq _ _ ha], rfl, rfl⟩)
  refine fn_rt (e := [.p (vD a), .p (vD b), .un, .un]) rfl ?_
  show mb_covers [.p (vD a), .p (vD b), .un, .un] = _
  unfold mb_covers
  simp [-List.map_map, hc, hb, cov]
theorem size_of_eq (v : List Pr) (hv : v.length ≤ 1000000) : m_size_of [.p (vD v)] = some (.ok (.p (.int (v.map (·.2)).sum)), [.p (vD v)]) := by
  have hc := compM_map (own := [1, 2]) (tg := (tgP (gT 2 (gsCons (gN 1) (gsCons (gN 2) gsNil))))) (me := (mVar 2)) prI (fun p => .int p.2) [.p (vD v), .un, .un] v [] (fun x hx => ⟨_, _, _, rfl, rfl, rfl, rfl⟩)
  refine fn_rt (e := [.p (vD v), .un, .un]) rfl ?_
  show mb_size_of [.p (vD v), .un, .un] = _
  unfold mb_size_of
  simp [-List.map_map, hc, hv]
def stepM (m : List Pr) (p : Pr) : List Pr := putI m p.1 (max p.2 ((getI m p.1).getD 0))
def maxAll (m b : List Pr) : List Pr := b.foldl stepM m
theorem putI_len (l : List Pr) (c n : Int) : (putI l c n).length ≤ l.length + 1 := by
  unfold putI
  split
  · rw [List.length_map]; omega
  · rw [List.length_append]; exact Nat.le_refl _
theorem maxAll_len : ∀ (b m : List Pr), (maxAll m b).length ≤ m.length + b.length
  | [], m => Nat.le_refl _
  | p :: b, m => by
    have h1 := maxAll_len b (stepM m p)
    have h2 := putI_len m p.1 (max p.2 ((getI m p.1).getD 0))
    show (maxAll (stepM m p) b).length ≤ _
    rw [List.length_cons]
    unfold stepM at h1 h2
    unfold stepM
    omega
theorem mergeI_len : ∀ (b m : List Pr), (mergeI m b).length ≤ m.length + b.length
  | [], m => Nat.le_refl _
  | p :: b, m => by
    have h1 := mergeI_len b (putI m p.1 p.2)
    have h2 := putI_len m p.1 p.2
    show (mergeI (putI m p.1 p.2) b).length ≤ _
    rw [List.length_cons]
    omega
theorem joined_eq (a b : List Pr) (ha : a.length ≤ 400000) (hb : b.length ≤ 400000) : m_joined [.p (vD a), .p (vD b)] = some (.ok (.p (vD (sortI (maxAll (mergeI [] a) b)))), [.p (vD a), .p (vD b)]) := by
  obtain ⟨E', h1, s3, s4, h2⟩ := forM_inv (tg := (tgP (gT 2 (gsCons (gN 3) (gsCons (gN 4) gsNil))))) (mb := (sDSet 2 (mCall gMax2 (mCons (mVar 4) (mCons (mDGet2 2 (mVar 3) (mC (.int 0))) mNil))) (mVar 3))) prI
    (fun done E => ∃ s3 s4, E = [.p (vD a), .p (vD b), .m (mI (maxAll (mergeI [] a) done)), s3, s4]) b (fun done x rest E e h => by
      obtain ⟨s3, s4, rfl⟩ := h
      have l1 := maxAll_len done (mergeI [] a)
      have l2 := mergeI_len a []
      have l3 := congrArg List.length e
      simp [-List.map_map] at l1 l2 l3
      refine ⟨_, _, .nx, rfl, ?_, .inl rfl, .p (.int x.1), .p (.int x.2), rfl⟩
      have hs : smallL (maxAll (mergeI [] a) done).length = true := decide_eq_true (by omega)
      have e2 : maxAll (mergeI [] a) (done ++ [x]) = stepM (maxAll (mergeI [] a) done) x := by unfold maxAll; rw [List.foldl_append]; rfl
      rw [e2]
      unfold stepM
      cases q : getI (maxAll (mergeI [] a) done) x.1 <;> simp [-List.map_map, q, hs])
    [.p (vD a), .p (vD b), .m (mI (mergeI [] a)), .un, .un] ⟨_, _, rfl⟩
  subst h2
  refine fn_rt (e := [.p (vD a), .p (vD b), .m (mI (maxAll (mergeI [] a) b)), s3, s4]) rfl ?_
  show mb_joined [.p (vD a), .p (vD b), .un, .un, .un] = _
  unfold mb_joined
  simp [-List.map_map, h1]
  rfl
/-! the drawing -/
structure DrawB (cells : List Int) (i cur seed : Int) : Prop where
  pos : ∀ c ∈ cells, 0 ≤ c
  i0 : -1 ≤ i
  c0 : 0 ≤ cur
  s0 : 0 ≤ seed
  s1 : seed < 2147483647
def drD (cells : List Int) (i cur seed : Int) : List PyData := [.list (cells.map .int), .int i, .int cur, .int seed]
def drS (cells : List Int) (i cur seed : Int) : Slot := .l ((drD cells i cur seed).map .p)
def DrawOK (s : Slot) : Prop := ∃ cells i cur seed, DrawB cells i cur seed ∧ s = drS cells i cur seed
def absI (i : Int) : Int := if i < 0 then -i else i
theorem absI_pos (i : Int) : 0 ≤ absI i := by unfold absI; split <;> omega
theorem law_draw_eq (ns : List Int) (hn : ns.length ≤ 1000000) : ∃ s, DrawOK s ∧ m__law_draw [.p (.list (ns.map .int))] = some (.ok s, [.p (.list (ns.map .int))]) := by
  obtain ⟨E', h1, seed, s2, b1, b2, h2⟩ := forM_inv (tg := (tgP (gN 2))) (mb := (sAsg (mOp (gI fMod) (mCall gInt (mCons (mOp gAdd (mOp gAdd (mOp (gI fMul) (mVar 1) (mC (.int 48271))) (mOp (gI fMod) (mCall gAbs (mCons (mCall gInt (mCons (mVar 2) mNil)) mNil)) (mC (.int 65521)))) (mC (.int 1))) mNil)) (mC (.int 2147483647))) (gN 1))) PyData.int
    (fun done E => ∃ seed s2, 0 ≤ seed ∧ seed < 2147483647 ∧ E = [.p (.list (ns.map .int)), .p (.int seed), s2]) ns (fun done x rest E e h => by
      obtain ⟨seed, s2, b1, b2, rfl⟩ := h
      have hm := Int.emod_nonneg (seed * 48271 + absI x % 65521 + 1) (show (2147483647 : Int) ≠ 0 by decide)
      have hl := Int.emod_lt_of_pos (seed * 48271 + absI x % 65521 + 1) (show (0 : Int) < 2147483647 by decide)
      refine ⟨_, _, .nx, rfl, ?_, .inl rfl, (seed * 48271 + absI x % 65521 + 1) % 2147483647, .p (.int x), hm, hl, rfl⟩
      simp [-List.map_map, gMul_run b1 (show seed < 2147483648 by omega), gMod_run (show (0 : Int) < 65521 by decide), gMod_run (show (0 : Int) < 2147483647 by decide), absI])
    [.p (.list (ns.map .int)), .p (.int 7), .un] ⟨7, .un, by decide, by decide, rfl⟩
  subst h2
  have hc := compM_map (own := [2]) (tg := (tgP (gN 2))) (me := (mCall gAbs (mCons (mCall gInt (mCons (mVar 2) mNil)) mNil))) PyData.int (fun n => .int (absI n)) [.p (.list (ns.map .int)), .p (.int seed), .un] ns [] (fun k hk => ⟨_, _, _, rfl, rfl, rfl, rfl⟩)
  have e : (ns.map fun n => PyData.int (absI n)) = (ns.map absI).map .int := by rw [List.map_map]; rfl
  rw [e] at hc
  refine ⟨drS (ns.map absI) (-1) 0 seed, ⟨_, _, _, _, ⟨fun c hc => ?_, by decide, by decide, b1, b2⟩, rfl⟩, ?_⟩
  · obtain ⟨n, _, rfl⟩ := List.mem_map.mp hc
    exact absI_pos n
  · refine fn_rt (e := [.p (.list (ns.map .int)), .p (.int seed), s2]) rfl ?_
    show mb__law_draw [.p (.list (ns.map .int)), .un, .un] = _
    unfold mb__law_draw
    simp [-List.map_map, h1, hc, hn]
    rfl
@[simp] theorem gIdx_dr0 (c : List Int) (i r s : Int) : gIdx (.list (drD c i r s)) (.int 0) = some (.p (.list (c.map .int))) := rfl
@[simp] theorem gIdx_dr1 (c : List Int) (i r s : Int) : gIdx (.list (drD c i r s)) (.int 1) = some (.p (.int i)) := rfl
@[simp] theorem gIdx_dr2 (c : List Int) (i r s : Int) : gIdx (.list (drD c i r s)) (.int 2) = some (.p (.int r)) := rfl
@[simp] theorem gIdx_dr3 (c : List Int) (i r s : Int) : gIdx (.list (drD c i r s)) (.int 3) = some (.p (.int s)) := rfl
@[simp] theorem dr_set1 (c : List Int) (i r s x : Int) : ((drD c i r s).map Slot.p).set 1 (.p (.int x)) = (drD c x r s).map .p := rfl
@[simp] theorem dr_set2 (c : List Int) (i r s x : Int) : ((drD c i r s).map Slot.p).set 2 (.p (.int x)) = (drD c i x s).map .p := rfl
@[simp] theorem dr_set3 (c : List Int) (i r s x : Int) : ((drD c i r s).map Slot.p).set 3 (.p (.int x)) = (drD c i r x).map .p := rfl
@[simp] theorem dr_len (c : List Int) (i r s : Int) : (drD c i r s).length = 4 := rfl
@[simp] theorem ix41 : ixN 4 1 = some 1 := by decide
@[simp] theorem ix42 : ixN 4 2 = some 2 := by decide
@[simp] theorem ix43 : ixN 4 3 = some 3 := by decide
theorem gIdx_cells {cells : List Int} {j : Int} (h0 : 0 ≤ j) (h1 : j < cells.length) : ∃ c ∈ cells, gIdx (.list (cells.map .int)) (.int j) = some (.p (.int c)) := by
  obtain ⟨n, rfl⟩ := Int.eq_ofNat_of_zero_le h0
  have hn : n < cells.length := by omega
  refine ⟨cells[n], List.getElem_mem hn, ?_⟩
  show (atI (cells.map PyData.int) (n : Int)).map Slot.p = _
  rw [atI_nat (j := n) (v := PyData.int cells[n]) (by rw [List.getElem?_map, List.getElem?_eq_getElem hn]; rfl)]
  rfl
def fetch : StM := (sIf (mTest (mOp gEq (mOp gIdx (mVar 0) (mC (.int 2))) (mC (.int 0))))
 (sSeq (sSetL 0 (mOp gAdd (mOp gIdx (mVar 0) (mC (.int 1))) (mC (.int 1))) (mC (.int 1)))
 (sSeq (sIf (mTest (mOp gLtI (mOp gIdx (mVar 0) (mC (.int 1))) (mCall gLen (mCons (mOp gIdx (mVar 0) (mC (.int 0))) mNil))))
 (sSetL 0 (mOp gIdx (mOp gIdx (mVar 0) (mC (.int 0))) (mOp gIdx (mVar 0) (mC (.int 1)))) (mC (.int 2)))
 sNx)
 (sIf (mTest (mOp gEq (mOp gIdx (mVar 0) (mC (.int 2))) (mC (.int 0))))
 (sSeq (sSetL 0 (mOp (gI fMod) (mCall gInt (mCons (mOp gAdd (mOp (gI fMul) (mOp gIdx (mVar 0) (mC (.int 3))) (mC (.int 48271))) (mC (.int 11))) mNil)) (mC (.int 2147483647))) (mC (.int 3)))
 (sSetL 0 (mOp gIdx (mVar 0) (mC (.int 3))) (mC (.int 2))))
 sNx)))
 sNx)
theorem refill {cells : List Int} {i cur seed : Int} (b : DrawB cells i cur seed) (t : List Slot) : ∃ cur' seed', DrawB cells i cur' seed' ∧ (sIf (mTest (mOp gEq (mOp gIdx (mVar 0) (mC (.int 2))) (mC (.int 0))))
 (sSeq (sSetL 0 (mOp (gI fMod) (mCall gInt (mCons (mOp gAdd (mOp (gI fMul) (mOp gIdx (mVar 0) (mC (.int 3))) (mC (.int 48271))) (mC (.int 11))) mNil)) (mC (.int 2147483647))) (mC (.int 3)))
 (sSetL 0 (mOp gIdx (mVar 0) (mC (.int 3))) (mC (.int 2))))
 sNx) (.l ((drD cells i cur seed).map .p) :: t) = some (.nx, .l ((drD cells i cur' seed').map .p) :: t) := by
  by_cases h : cur = 0
  · have hm := Int.emod_nonneg (seed * 48271 + 11) (show (2147483647 : Int) ≠ 0 by decide)
    have hl := Int.emod_lt_of_pos (seed * 48271 + 11) (show (0 : Int) < 2147483647 by decide)
    refine ⟨(seed * 48271 + 11) % 2147483647, (seed * 48271 + 11) % 2147483647, ⟨b.pos, b.i0, hm, hm, hl⟩, ?_⟩
    have b1 := b.s0
    have b2 := b.s1
    simp [-List.map_map, h, gMul_run b1 (show seed < 2147483648 by omega), gMod_run (show (0 : Int) < 2147483647 by decide)]
  · have hb : (cur == 0) = false := beq_eq_false_iff_ne.mpr h
    exact ⟨cur, seed, b, by simp [-List.map_map, hb]⟩
theorem fetch_eq {cells : List Int} {i cur seed : Int} (b : DrawB cells i cur seed) (t : List Slot) : ∃ i' cur' seed', DrawB cells i' cur' seed' ∧ fetch (.l ((drD cells i cur seed).map .p) :: t) = some (.nx, .l ((drD cells i' cur' seed').map .p) :: t) := by
  by_cases h : cur = 0
  · subst h
    have b3 := b.i0
    by_cases h2 : i + 1 < cells.length
    · obtain ⟨c, hc, e⟩ := gIdx_cells (show 0 ≤ i + 1 by omega) h2
      obtain ⟨cur', seed', b', e'⟩ := refill (cells := cells) (i := i + 1) (cur := c) (seed := seed) ⟨b.pos, by omega, b.pos c hc, b.s0, b.s1⟩ t
      refine ⟨i + 1, cur', seed', b', ?_⟩
      unfold fetch
      rw [sIf_run]
      simp [-List.map_map, -sIf_run, h2, e]
      simp [-List.map_map, -sIf_run, sIf_run _ (sSetL _ _ _), h2, e, e']
    · obtain ⟨cur', seed', b', e'⟩ := refill (cells := cells) (i := i + 1) (cur := 0) (seed := seed) ⟨b.pos, by omega, by decide, b.s0, b.s1⟩ t
      refine ⟨i + 1, cur', seed', b', ?_⟩
      unfold fetch
      rw [sIf_run]
      simp [-List.map_map, -sIf_run, h2]
      simp [-List.map_map, -sIf_run, sIf_run _ (sSetL _ _ _), h2, e']
  · have hb : (cur == 0) = false := beq_eq_false_iff_ne.mpr h
    exact ⟨i, cur, seed, b, by unfold fetch; simp [-List.map_map, hb]⟩
theorem law_take_eq (s : Slot) (many : Int) (h : DrawOK s) (h1 : 0 < many) (h2 : many < 1073741824) : ∃ r s', DrawOK s' ∧ 0 ≤ r ∧ r < many ∧ m__law_take [s, .p (.int many)] = some (.ok (.p (.int r)), [s', .p (.int many)]) := by
  obtain ⟨cells, i, cur, seed, b, rfl⟩ := h
  obtain ⟨i', cur', seed', b', e⟩ := fetch_eq b [.p (.int many), .un]
  have hm := Int.emod_nonneg cur' (show many ≠ 0 by omega)
  have hl := Int.emod_lt_of_pos cur' h1
  refine ⟨cur' % many, drS cells i' (cur' / many) seed', ⟨_, _, _, _, ⟨b'.pos, b'.i0, Int.ediv_nonneg b'.c0 (by omega), b'.s0, b'.s1⟩, rfl⟩, hm, hl, ?_⟩
  refine fn_rt (e := [drS cells i' (cur' / many) seed', .p (.int many), .p (.int (cur' % many))]) rfl ?_
  show mb__law_take [.l ((drD cells i cur seed).map .p), .p (.int many), .un] = _
  show sSeq fetch _ _ = _
  rw [sSeq_run, e]
  simp [-List.map_map, gMod_run h1, gDiv_run h1 h2, drS]
theorem law_same_eq {k n : Nat} {d : PyData} (h : Tame k n d) (hk : k ≤ 40) (hn : n ≤ 60000) : m__law_same [.p d, .p d] = some (.ok (.p (.bool true)), [.p d, .p d]) := by
  have e1 := h.eq (show k ≤ 60 by omega)
  have e2 : gRepr [d] = some (.p (.str d.shown)) := by
    show (if okShow d then _ else _) = _
    rw [h.show hk hn]; rfl
  refine fn_rt (e := [.p d, .p d]) rfl ?_
  show mb__law_same [.p d, .p d] = _
  unfold mb__law_same
  simp [e1, e2]
/-! what is no dot -/
@[simp] theorem sb_NoneType_NoneType : isSub "NoneType" "NoneType" = true := by decide
@[simp] theorem sb_NoneType_bool : isSub "NoneType" "bool" = false := by decide
@[simp] theorem sb_NoneType_int : isSub "NoneType" "int" = false := by decide
@[simp] theorem sb_NoneType_str : isSub "NoneType" "str" = false := by decide
@[simp] theorem sb_NoneType_list : isSub "NoneType" "list" = false := by decide
@[simp] theorem sb_NoneType_tuple : isSub "NoneType" "tuple" = false := by decide
@[simp] theorem sb_NoneType_dict : isSub "NoneType" "dict" = false := by decide
@[simp] theorem sb_bool_NoneType : isSub "bool" "NoneType" = false := by decide
@[simp] theorem sb_bool_bool : isSub "bool" "bool" = true := by decide
@[simp] theorem sb_bool_int : isSub "bool" "int" = true := by decide
@[simp] theorem sb_bool_str : isSub "bool" "str" = false := by decide
@[simp] theorem sb_bool_list : isSub "bool" "list" = false := by decide
@[simp] theorem sb_bool_tuple : isSub "bool" "tuple" = false := by decide
@[simp] theorem sb_bool_dict : isSub "bool" "dict" = false := by decide
@[simp] theorem sb_int_NoneType : isSub "int" "NoneType" = false := by decide
@[simp] theorem sb_int_bool : isSub "int" "bool" = false := by decide
@[simp] theorem sb_int_int : isSub "int" "int" = true := by decide
@[simp] theorem sb_int_str : isSub "int" "str" = false := by decide
@[simp] theorem sb_int_list : isSub "int" "list" = false := by decide
@[simp] theorem sb_int_tuple : isSub "int" "tuple" = false := by decide
@[simp] theorem sb_int_dict : isSub "int" "dict" = false := by decide
@[simp] theorem sb_str_NoneType : isSub "str" "NoneType" = false := by decide
@[simp] theorem sb_str_bool : isSub "str" "bool" = false := by decide
@[simp] theorem sb_str_int : isSub "str" "int" = false := by decide
@[simp] theorem sb_str_str : isSub "str" "str" = true := by decide
@[simp] theorem sb_str_list : isSub "str" "list" = false := by decide
@[simp] theorem sb_str_tuple : isSub "str" "tuple" = false := by decide
@[simp] theorem sb_str_dict : isSub "str" "dict" = false := by decide
@[simp] theorem sb_list_NoneType : isSub "list" "NoneType" = false := by decide
@[simp] theorem sb_list_bool : isSub "list" "bool" = false := by decide
@[simp] theorem sb_list_int : isSub "list" "int" = false := by decide
@[simp] theorem sb_list_str : isSub "list" "str" = false := by decide
@[simp] theorem sb_list_list : isSub "list" "list" = true := by decide
@[simp] theorem sb_list_tuple : isSub "list" "tuple" = false := by decide
@[simp] theorem sb_list_dict : isSub "list" "dict" = false := by decide
@[simp] theorem sb_tuple_NoneType : isSub "tuple" "NoneType" = false := by decide
@[simp] theorem sb_tuple_bool : isSub "tuple" "bool" = false := by decide
@[simp] theorem sb_tuple_int : isSub "tuple" "int" = false := by decide
@[simp] theorem sb_tuple_str : isSub "tuple" "str" = false := by decide
@[simp] theorem sb_tuple_list : isSub "tuple" "list" = false := by decide
@[simp] theorem sb_tuple_tuple : isSub "tuple" "tuple" = true := by decide
@[simp] theorem sb_tuple_dict : isSub "tuple" "dict" = false := by decide
@[simp] theorem sb_dict_NoneType : isSub "dict" "NoneType" = false := by decide
@[simp] theorem sb_dict_bool : isSub "dict" "bool" = false := by decide
@[simp] theorem sb_dict_int : isSub "dict" "int" = false := by decide
@[simp] theorem sb_dict_str : isSub "dict" "str" = false := by decide
@[simp] theorem sb_dict_list : isSub "dict" "list" = false := by decide
@[simp] theorem sb_dict_tuple : isSub "dict" "tuple" = false := by decide
@[simp] theorem sb_dict_dict : isSub "dict" "dict" = true := by decide
def isInt (d : PyData) (lo : Int) (hi : Option Int) : Bool := match d with
  | .int i => decide (lo ≤ i) && (match hi with | some h => decide (i ≤ h) | none => true)
  | _ => false
def optD : Option Int → PyData
  | some h => .int h
  | none => .none
theorem is_integer_eq (d : PyData) (lo : Int) (hi : Option Int) : m_is_integer [.p d, .p (.int lo), .p (optD hi)] = some (.ok (.p (.bool (isInt d lo hi))), [.p d, .p (.int lo), .p (optD hi)]) := by
  refine fn_rt (e := [.p d, .p (.int lo), .p (optD hi)]) rfl ?_
  show mb_is_integer [.p d, .p (.int lo), .p (optD hi)] = _
  have h1 : ∀ t, (["int"].any fun n => isSub t n) = isSub t "int" := fun t => by simp
  have h2 : ∀ t, (["bool"].any fun n => isSub t n) = isSub t "bool" := fun t => by simp
  unfold mb_is_integer
  cases d with
  | int i =>
    have s1 : isSub "int" "int" = true := by decide
    have s2 : isSub "int" "bool" = false := by decide
    cases hi with
    | none => by_cases q : lo ≤ i <;> simp [tyD, s1, s2, gIs, isDat, isN, optD, isInt, q, truD]
    | some h => by_cases q : lo ≤ i <;> by_cases q2 : i ≤ h <;> simp [tyD, s1, s2, gIs, isDat, isN, optD, isInt, q, q2, truD]
  | none =>
    have s1 : isSub "NoneType" "int" = false := by decide
    simp [tyD, s1, isInt]
  | bool b =>
    have s1 : isSub "bool" "int" = true := by decide
    have s2 : isSub "bool" "bool" = true := by decide
    simp [tyD, s1, s2, isInt]
  | str b =>
    have s1 : isSub "str" "int" = false := by decide
    simp [tyD, s1, isInt]
  | list b =>
    have s1 : isSub "list" "int" = false := by decide
    simp [tyD, s1, isInt]
  | tuple b =>
    have s1 : isSub "tuple" "int" = false := by decide
    simp [tyD, s1, isInt]
  | dict b =>
    have s1 : isSub "dict" "int" = false := by decide
    simp [tyD, s1, isInt]
theorem is_copy_eq (d : PyData) : m_is_copy [.p d] = some (.ok (.p (.bool (isInt d 0 (some 7)))), [.p d]) := by
  refine fn_rt (e := [.p d]) rfl ?_
  show mb_is_copy [.p d] = _
  have h := is_integer_eq d 0 (some 7)
  have h : m_is_integer [.p d, .p (.int 0), .p (.int 7)] = _ := h
  unfold mb_is_copy
  simp [h]
def isDot (d : PyData) : Bool := match d with
  | .tuple [a, b] => isInt a 0 (some 7) && isInt b 1 none
  | _ => false
def isTupD (d : PyData) : Bool := match d with
  | .tuple _ => true
  | _ => false
theorem isi_tuple (d : PyData) : (["tuple"].any fun n => isSub (tyD d) n) = isTupD d := by
  cases d <;> simp [tyD, isTupD]
theorem gIdx_t0 (a : PyData) (t : List PyData) : gIdx (.tuple (a :: t)) (.int 0) = some (.p a) := by
  show (atI (a :: t) ((0 : Nat) : Int)).map Slot.p = _
  rw [atI_nat (j := 0) (v := a) rfl]; rfl
theorem gIdx_t1 (a b : PyData) (t : List PyData) : gIdx (.tuple (a :: b :: t)) (.int 1) = some (.p b) := by
  show (atI (a :: b :: t) ((1 : Nat) : Int)).map Slot.p = _
  rw [atI_nat (j := 1) (v := b) rfl]; rfl
theorem is_dot_eq (d : PyData) : m_is_dot [.p d] = some (.ok (.p (.bool (isDot d))), [.p d]) := by
  refine fn_rt (e := [.p d]) rfl ?_
  show mb_is_dot [.p d] = _
  unfold mb_is_dot
  cases d with
  | tuple ds =>
    have e : (["tuple"].any fun n => isSub (tyD (.tuple ds)) n) = true := isi_tuple _
    simp only [List.any_cons, List.any_nil, Bool.or_false] at e
    match ds with
    | [a, b] =>
      have h := is_integer_eq b 1 none
      have h : m_is_integer [.p b, .p (.int 1), .p .none] = _ := h
      cases q : isInt a 0 (some 7) <;> simp [e, gIdx_t0, gIdx_t1, is_copy_eq, h, isDot, q]
    | [] => simp [e, isDot]
    | [a] => simp [e, isDot]
    | a :: b :: c :: t =>
      have ne : ((t.length : Int) + 1 + 1 + 1 == 2) = false := beq_eq_false_iff_ne.mpr (by omega)
      simp [e, isDot, ne]
  | none => simp [tyD, isDot]
  | bool b => simp [tyD, isDot]
  | int b => simp [tyD, isDot]
  | str b => simp [tyD, isDot]
  | list b => simp [tyD, isDot]
  | dict b => simp [tyD, isDot]
theorem isDot_prI (p : Pr) : isDot (prI p) = (decide (0 ≤ p.1 ∧ p.1 ≤ 7) && decide (1 ≤ p.2)) := by
  simp [isDot, prI, isInt]
theorem isDot_inv {d : PyData} (h : isDot d = true) : ∃ p : Pr, d = prI p ∧ 0 ≤ p.1 ∧ p.1 ≤ 7 ∧ 1 ≤ p.2 := by
  unfold isDot at h
  split at h
  · rename_i a b
    rw [Bool.and_eq_true] at h
    obtain ⟨h1, h2⟩ := h
    cases a with
    | int i =>
      cases b with
      | int j =>
        simp only [isInt, Bool.and_eq_true, decide_eq_true_eq, Bool.and_true] at h1 h2
        exact ⟨(i, j), rfl, h1.1, h1.2, h2⟩
      | _ => simp [isInt] at h2
    | _ => simp [isInt] at h1
  · cases h
theorem dots_inv : ∀ {ds : List PyData}, ds.all isDot = true → ∃ l : List Pr, ds = l.map prI ∧ ∀ p ∈ l, 0 ≤ p.1 ∧ p.1 ≤ 7 ∧ 1 ≤ p.2
  | [], _ => ⟨[], rfl, fun _ q => nomatch q⟩
  | d :: ds, h => by
    rw [List.all_cons, Bool.and_eq_true] at h
    obtain ⟨p, rfl, hp⟩ := isDot_inv h.1
    obtain ⟨l, rfl, hl⟩ := dots_inv h.2
    exact ⟨p :: l, rfl, fun q hq => (List.mem_cons.mp hq).elim (fun z => z ▸ hp) (hl q)⟩
def asc (l : List Pr) : Bool := (l.zip (l.drop 1)).all fun z => decide (z.1.1 < z.2.1)
def isVec (d : PyData) : Bool := match d with
  | .tuple ds => ds.all isDot && (ds.zip (ds.drop 1)).all fun z => match z.1, z.2 with
    | .tuple (.int a :: _), .tuple (.int b :: _) => decide (a < b)
    | _, _ => false
  | _ => false
theorem sIx_1 (n : Nat) : HT.sIx n 0 (some 1) = min 1 n := rfl
theorem cut_1 (ds : List PyData) : cutD ds (some 1) none = ds.drop 1 := by
  unfold cutD
  rw [sIx_1]
  show (ds.drop (min 1 ds.length)).take (ds.length - min 1 ds.length) = _
  cases ds with
  | nil => rfl
  | cons d ds =>
    have e : min 1 (d :: ds).length = 1 := by rw [List.length_cons]; omega
    rw [e, List.drop_one, List.take_of_length_le]
    rw [List.length_tail]; omega
theorem isVec_prI (l : List Pr) : isVec (vD l) = ((l.map prI).all isDot && asc l) := by
  show ((l.map prI).all isDot && _) = _
  congr 1
  unfold asc
  rw [← List.map_drop, List.zip_map, List.all_map]
  rfl
theorem is_vector_eq (d : PyData) (hd : ∀ ds, d = .tuple ds → ds.length ≤ 1000000) : m_is_vector [.p d] = some (.ok (.p (.bool (isVec d))), [.p d]) := by
  refine fn_rt (e := [.p d, .un, .un]) rfl ?_
  show mb_is_vector [.p d, .un, .un] = _
  unfold mb_is_vector
  cases d with
  | tuple ds =>
    have hl := hd ds rfl
    have e : (["tuple"].any fun n => isSub (tyD (.tuple ds)) n) = true := isi_tuple _
    simp only [List.any_cons, List.any_nil, Bool.or_false] at e
    have hc := compM_map (own := [1]) (tg := (tgP (gN 1))) (me := (mFnF m_is_dot (mCons (mVar 1) mNil))) (fun x => x) (fun x => .bool (isDot x)) [.p (.tuple ds), .un, .un] ds [] (fun x hx => ⟨[.p (.tuple ds), .p x, .un], .val (.p (.bool (isDot x))), [.p (.tuple ds), .p x, .un], rfl, by simp [is_dot_eq], rfl, rfl⟩)
    rw [List.map_id'] at hc
    cases q : ds.all isDot with
    | false => simp [-List.map_map, e, hc, hl, q, isVec]
    | true =>
      obtain ⟨l, rfl, hp⟩ := dots_inv q
      rw [List.length_map] at hl
      have hc2 := compM_map (own := [1, 2]) (tg := tg2 (gN 1) (gN 2)) (me := (mOp gLtI (mOp gIdx (mVar 1) (mC (.int 0))) (mOp gIdx (mVar 2) (mC (.int 0))))) (fun z : Pr × Pr => (prI z.1, prI z.2)) (fun z => .bool (decide (z.1.1 < z.2.1))) [.p (vD l), .un, .un] (l.zip (l.drop 1)) [] (fun x hx => ⟨_, _, _, rfl, rfl, rfl, rfl⟩)
      have ez : zipD (.tuple (l.map prI)) (.tuple (cutD (l.map prI) (some 1) none)) = some ((l.zip (l.drop 1)).map fun z => (prI z.1, prI z.2)) := by
        rw [cut_1]
        show some ((l.map prI).zip ((l.map prI).drop 1)) = _
        rw [← List.map_drop, List.zip_map]; rfl
      have hz : (l.zip (l.drop 1)).length ≤ 1000000 := by rw [List.length_zip]; omega
      have e2 := isVec_prI l
      rw [q, Bool.true_and] at e2
      have e2 : isVec (.tuple (l.map prI)) = asc l := e2
      rw [e2]
      have hc2 : compM [1, 2] (tg2 (gN 1) (gN 2)) mYes (mOp gLtI (mOp gIdx (mVar 1) (mC (.int 0))) (mOp gIdx (mVar 2) (mC (.int 0)))) ((l.zip (l.drop 1)).map fun z => (prI z.1, prI z.2)) [] [.p (.tuple (l.map prI)), .un, .un] = _ := hc2
      simp [-List.map_map, -List.map_drop, -List.drop_one, -List.length_zip, e, hc, hl, q, gSl, ez, hz, hc2, asc]
      rfl
  | none => simp [tyD, isVec]
  | bool b => simp [tyD, isVec]
  | int b => simp [tyD, isVec]
  | str b => simp [tyD, isVec]
  | list b => simp [tyD, isVec]
  | dict b => simp [tyD, isVec]
end Com
namespace Drw
open PySem PySem.Spec L2 MM
def mb__law_take : StM := (sSeq (sIf (mTest (mOp gEq (mOp gIdx (mVar 0) (mC (.int 2))) (mC (.int 0))))
 (sSeq (sSetL 0 (mOp gAdd (mOp gIdx (mVar 0) (mC (.int 1))) (mC (.int 1))) (mC (.int 1)))
 (sSeq (sIf (mTest (mOp gLtI (mOp gIdx (mVar 0) (mC (.int 1))) (mCall gLen (mCons (mOp gIdx (mVar 0) (mC (.int 0))) mNil))))
 (sSetL 0 (mOp gIdx (mOp gIdx (mVar 0) (mC (.int 0))) (mOp gIdx (mVar 0) (mC (.int 1)))) (mC (.int 2)))
 sNx)
 (sIf (mTest (mOp gEq (mOp gIdx (mVar 0) (mC (.int 2))) (mC (.int 0))))
 (sSeq (sSetL 0 (mOp (gI fMod) (mCall gInt (mCons (mOp gAdd (mOp (gI fMul) (mOp gIdx (mVar 0) (mC (.int 3))) (mC (.int 48271))) (mC (.int 11))) mNil)) (mC (.int 2147483647))) (mC (.int 3)))
 (sSetL 0 (mOp gIdx (mVar 0) (mC (.int 3))) (mC (.int 2))))
 sNx)))
 sNx)
 (sSeq (sAsg (mOp (gI fMod) (mCall gInt (mCons (mOp gIdx (mVar 0) (mC (.int 2))) mNil)) (mVar 1)) (gN 2))
 (sSeq (sSetL 0 (mOp (gI fDiv) (mOp gIdx (mVar 0) (mC (.int 2))) (mVar 1)) (mC (.int 2)))
 (sRet (mVar 2)))))
abbrev N__law_take : List Str := ["draw", "many", "found"]
def m__law_take : FnM := runB 2 N__law_take.length mb__law_take
def mb__law_has : StM := (sRet (mOp gNe (mComp [2, 3] (mSeq (mVar 0)) (tgP (gT 2 (gsCons (gN 2) (gsCons (gN 3) gsNil)))) (mAndT (mTest (mOp gEq (mVar 2) (mOp gIdx (mVar 1) (mC (.int 0))))) (mTest (mOp gGeI (mVar 3) (mOp gIdx (mVar 1) (mC (.int 1)))))) (mVar 3)) (mLst mNil)))
abbrev N__law_has : List Str := ["vector", "dot", "copy", "n"]
def m__law_has : FnM := runB 2 N__law_has.length mb__law_has
def mb__law_what : StM := (sSeq (sAsg (mComp [7] (mSeq (mVar 2)) (tgP (gN 7)) (mTest (mOp (gIn true) (mOp gIdx (mOp gIdx (mVar 7) (mC (.int 3))) (mC (.int 0))) (mTup (mCons (mC (.str "undo")) (mCons (mC (.str "redo")) mNil))))) (mOp gIdx (mVar 7) (mC (.int 0)))) (gN 4))
 (sSeq (sIf (mAndT (mTruth (mVar 3)) (mAndT (mTest (mOp gNe (mVar 4) (mLst mNil))) (mTest (mOp gEq (mFnL m__law_take (mCons (mVar 0) (mCons (mC (.int 4)) mNil))) (mC (.int 0))))))
 (sRet (mTup (mCons (mOp gIdx (mLst (mCons (mC (.str "undo")) (mCons (mC (.str "undo")) (mCons (mC (.str "redo")) mNil)))) (mFnL m__law_take (mCons (mVar 0) (mCons (mC (.int 3)) mNil)))) (mCons (mOp gIdx (mVar 4) (mFnL m__law_take (mCons (mVar 0) (mCons (mCall gLen (mCons (mVar 4) mNil)) mNil)))) mNil))))
 sNx)
 (sSeq (sAsg (mOp gIdx (mLst (mCons (mC (.int 0)) (mCons (mC (.int 1)) (mCons (mC (.int 7)) (mCons (mC (.str "a")) (mCons (mC (.str "b")) mNil)))))) (mFnL m__law_take (mCons (mVar 0) (mCons (mC (.int 5)) mNil)))) (gN 5))
 (sSeq (sIf (mTest (mOp gEq (mVar 1) (mC (.str "counter"))))
 (sRet (mTup (mCons (mC (.str "more")) (mCons (mOp (gI fun i j => some (.int (i - j))) (mFnL m__law_take (mCons (mVar 0) (mCons (mC (.int 9)) mNil))) (mC (.int 4))) mNil))))
 sNx)
 (sSeq (sIf (mTest (mOp (gIn false) (mVar 1) (mTup (mCons (mC (.str "last")) (mCons (mC (.str "choices")) mNil)))))
 (sRet (mTup (mCons (mC (.str "set")) (mCons (mVar 5) mNil))))
 sNx)
 (sSeq (sIf (mTest (mOp (gIn false) (mVar 1) (mTup (mCons (mC (.str "keeps")) (mCons (mC (.str "drops")) mNil)))))
 (sRet (mTup (mCons (mOp gIdx (mLst (mCons (mC (.str "add")) (mCons (mC (.str "add")) (mCons (mC (.str "drop")) mNil)))) (mFnL m__law_take (mCons (mVar 0) (mCons (mC (.int 3)) mNil)))) (mCons (mVar 5) mNil))))
 sNx)
 (sSeq (sIf (mTest (mOp gEq (mVar 1) (mC (.str "flag"))))
 (sRet (mTup (mCons (mOp gIdx (mLst (mCons (mC (.str "on")) (mCons (mC (.str "off")) mNil))) (mFnL m__law_take (mCons (mVar 0) (mCons (mC (.int 2)) mNil)))) mNil)))
 sNx)
 (sSeq (sIf (mTest (mOp gEq (mVar 1) (mC (.str "map"))))
 (sRet (mIf (mTest (mOp gEq (mFnL m__law_take (mCons (mVar 0) (mCons (mC (.int 3)) mNil))) (mC (.int 0)))) (mTup (mCons (mC (.str "drop")) (mCons (mVar 5) mNil))) (mTup (mCons (mC (.str "put")) (mCons (mVar 5) (mCons (mFnL m__law_take (mCons (mVar 0) (mCons (mC (.int 4)) mNil))) mNil))))))
 sNx)
 (sSeq (sIf (mTest (mOp gEq (mVar 1) (mC (.str "tree"))))
 (sRet (mTup (mCons (mC (.str "move")) (mCons (mOp gIdx (mC (.str "abcd")) (mFnL m__law_take (mCons (mVar 0) (mCons (mC (.int 4)) mNil)))) (mCons (mOp gIdx (mC (.str "abcd")) (mFnL m__law_take (mCons (mVar 0) (mCons (mC (.int 4)) mNil)))) mNil)))))
 sNx)
 (sSeq (sAsg (mComp [7] (mSeq (mVar 2)) (tgP (gN 7)) (mTest (mOp gEq (mOp gIdx (mOp gIdx (mVar 7) (mC (.int 3))) (mC (.int 0))) (mC (.str "put")))) (mOp gIdx (mVar 7) (mC (.int 0)))) (gN 6))
 (sSeq (sIf (mAndT (mTest (mOp gNe (mVar 6) (mLst mNil))) (mTest (mOp gEq (mFnL m__law_take (mCons (mVar 0) (mCons (mC (.int 3)) mNil))) (mC (.int 0)))))
 (sRet (mTup (mCons (mC (.str "cut")) (mCons (mOp gIdx (mVar 6) (mFnL m__law_take (mCons (mVar 0) (mCons (mCall gLen (mCons (mVar 6) mNil)) mNil)))) mNil))))
 sNx)
 (sRet (mTup (mCons (mC (.str "put")) (mCons (mOp gIdx (mOp gAdd (mLst (mCons (mC .none) mNil)) (mVar 6)) (mFnL m__law_take (mCons (mVar 0) (mCons (mOp gAdd (mCall gLen (mCons (mVar 6) mNil)) (mC (.int 1))) mNil)))) (mCons (mVar 5) mNil))))))))))))))))
abbrev N__law_what : List Str := ["draw", "kind", "known", "turns", "plain", "value", "puts", "deed"]
def m__law_what : FnM := runB 4 N__law_what.length mb__law_what
def mb__law_deeds : StM := (sSeq (sParT 5 6 (mCons (mCompS [8] (mRng rng1 (mCons (mVar 2) mNil)) (tgP (gN 8)) mYes mDNew) (mCons (mLst mNil) mNil)))
 (sSeq (sFor (mRng rng1 (mCons (mVar 3) mNil)) (tgP (gN 7))
 (sSeq (sAsg (mTup (mCons (mFnL m__law_take (mCons (mVar 0) (mCons (mVar 2) mNil))) (mCons (mFnL m__law_take (mCons (mVar 0) (mCons (mVar 2) mNil))) mNil))) (gT 2 (gsCons (gN 8) (gsCons (gN 9) gsNil))))
 (sSeq (sIf (mTest (mOp gEq (mFnL m__law_take (mCons (mVar 0) (mCons (mC (.int 3)) mNil))) (mC (.int 0))))
 (sSetL 5 (mCall gDict (mCons (mComp [14] (mSeq (mOp gAdd (mLDKeys 5 (dV 8)) (mLDKeys 5 (dV 9)))) (tgP (gN 14)) mYes (mTup (mCons (mVar 14) (mCons (mCall gMax2 (mCons (mLDGet 5 (dV 8) (dV 14) (dC (.int 0))) (mCons (mLDGet 5 (dV 9) (dV 14) (dC (.int 0))) mNil))) mNil)))) mNil)) (mVar 8))
 sNx)
 (sSeq (sAsg (mCall gTuple (mCons (mLDSort 5 (dV 8)) mNil)) (gN 10))
 (sSeq (sAsg (mCompB [13] 6 (tgP (gN 13)) (mAndT (mTest (mOp gEq (mOp gIdx (mVar 13) (mC (.int 2))) (mC (.str "it")))) (mTruth (mFnF m__law_has (mCons (mVar 10) (mCons (mOp gIdx (mVar 13) (mC (.int 0))) mNil))))) (mVar 13)) (gN 11))
 (sSeq (sAsg (mFrz (mIf (mTest (mOp gEq (mFnL m__law_take (mCons (mVar 0) (mCons (mC (.int 6)) mNil))) (mC (.int 0)))) (mC (.str "also")) (mC (.str "it")))) (gN 12))
 (sSeq (sLDSet 5 (mOp gAdd (mLDGet 5 (dV 8) (dV 8) (dC (.int 0))) (mC (.int 1))) (dV 8) (dV 8))
 (sApp 6 (mTup (mCons (mTup (mCons (mVar 8) (mCons (mLDIx 5 (dV 8) (dV 8)) mNil))) (mCons (mVar 10) (mCons (mVar 12) (mCons (mIf (mTest (mOp gEq (mVar 12) (mC (.str "it")))) (mFnLF m__law_what (mCons (mVar 0) (mCons (mVar 1) (mCons (mVar 11) (mCons (mVar 4) mNil))))) (mTup (mCons (mC (.str "more")) (mCons (mC (.int 1)) mNil)))) mNil)))))))))))))
 (sRet (mVar 6))))
abbrev N__law_deeds : List Str := ["draw", "kind", "many", "steps", "turns", "heard", "deeds", "step", "c", "other", "causes", "known", "label", "deed", "k"]
def m__law_deeds : FnM := runB 5 N__law_deeds.length mb__law_deeds
end Drw
/-! P_DRW: the drawn histories (_law_has, _law_what, _law_deeds) on typed data -/
namespace Drw
open PySem PySem.Spec L2 MM
open Com (DrawOK DrawB drD drS)
theorem law_take_eq (s : Slot) (many : Int) (h : DrawOK s) (h1 : 0 < many) (h2 : many < 1073741824) : ∃ r s', DrawOK s' ∧ 0 ≤ r ∧ r < many ∧ m__law_take [s, .p (.int many)] = some (.ok (.p (.int r)), [s', .p (.int many)]) := Com.law_take_eq s many h h1 h2
@[simp] theorem gEq_prI (p q : Pr) : gEq (prI p) (prI q) = some (.p (.bool (decide (p = q)))) := gEq_of (shaped_prI p) (shaped_prI q) (eqv_prI p q)
@[simp] theorem gNe_prI (p q : Pr) : gNe (prI p) (prI q) = some (.p (.bool (!decide (p = q)))) := gNe_of (shaped_prI p) (shaped_prI q) (eqv_prI p q)
theorem eqv_nil (ds : List PyData) : PyData.eqv (.list ds) (.list []) = ds.isEmpty := by
  cases ds <;> rfl
theorem gNe_nil {ds : List PyData} (h : SeqAt.shaped (.list ds) = true) : gNe (.list ds) (.list []) = some (.p (.bool (!ds.isEmpty))) := gNe_of h rfl (eqv_nil ds)
theorem gEq_nil {ds : List PyData} (h : SeqAt.shaped (.list ds) = true) : gEq (.list ds) (.list []) = some (.p (.bool ds.isEmpty)) := gEq_of h rfl (eqv_nil ds)
theorem shaped_intL (xs : List Int) : SeqAt.shaped (.list (xs.map .int)) = true := by
  have : ∀ xs : List Int, PyData.canLayAll0 (xs.map .int) = true ∧ PyData.depthAll (xs.map .int) ≤ 1 := by
    intro xs
    induction xs with
    | nil => exact ⟨rfl, by simp [PyData.depthAll]⟩
    | cons x xs ih => exact ⟨by simp [PyData.canLayAll0, PyData.canLay0, ih.1], by simp [PyData.depthAll, PyData.depth]; omega⟩
  obtain ⟨a, b⟩ := this xs
  simp [SeqAt.shaped, PyData.canLay0, a, PyData.depth]
  omega
/-! _law_has -/
def hasB (v : List Pr) (d : Pr) : Bool := v.any fun p => p.1 == d.1 && decide (d.2 ≤ p.2)
theorem isEmpty_filter {α : Type} (v : List α) (p : α → Bool) : (!(v.filter p).isEmpty) = v.any p := by
  induction v with
  | nil => rfl
  | cons x v ih =>
    rw [List.any_cons, List.filter_cons]
    cases q : p x with
    | true => rfl
    | false => rw [Bool.false_or]; exact ih
theorem law_has_eq (v : List Pr) (d : Pr) (hv : v.length ≤ 1000000) : m__law_has [.p (vD v), .p (prI d)] = some (.ok (.p (.bool (hasB v d))), [.p (vD v), .p (prI d)]) := by
  have hc := compM_run (own := [2, 3]) (tg := (tgP (gT 2 (gsCons (gN 2) (gsCons (gN 3) gsNil))))) (mt := (mAndT (mTest (mOp gEq (mVar 2) (mOp gIdx (mVar 1) (mC (.int 0))))) (mTest (mOp gGeI (mVar 3) (mOp gIdx (mVar 1) (mC (.int 1))))))) (me := (mVar 3)) prI (fun p => p.1 == d.1 && decide (d.2 ≤ p.2)) (fun p => .int p.2) [.p (vD v), .p (prI d), .un, .un] v [] (fun x hx =>
    ⟨[.p (vD v), .p (prI d), .p (.int x.1), .p (.int x.2)], [.p (vD v), .p (prI d), .p (.int x.1), .p (.int x.2)], rfl, by cases q : (x.1 == d.1) <;> simp [q], fun _ => rfl, fun _ => ⟨_, _, rfl, rfl, rfl⟩⟩)
  refine fn_rt (e := [.p (vD v), .p (prI d), .un, .un]) rfl ?_
  show mb__law_has [.p (vD v), .p (prI d), .un, .un] = _
  unfold mb__law_has
  have hn : gNe (.list ((v.filter fun p => p.1 == d.1 && decide (d.2 ≤ p.2)).map fun p => PyData.int p.2)) (.list []) = some (.p (.bool (hasB v d))) := by
    have hs := shaped_intL ((v.filter fun p => p.1 == d.1 && decide (d.2 ≤ p.2)).map (·.2))
    rw [List.map_map] at hs
    refine (gNe_nil hs).trans ?_
    congr 3
    unfold hasB
    rw [List.isEmpty_map]
    exact isEmpty_filter v _
  simp [-List.map_map, hc, hv, hn]
/-- a draw's step inside of a body whose first name is the draw -/
theorem takeL (s : Slot) (many : Int) (h : DrawOK s) (h1 : 0 < many) (h2 : many < 1073741824) : ∃ r s', DrawOK s' ∧ 0 ≤ r ∧ r < many ∧ ∀ me t, me (s :: t) = some (.ok (.val (.p (.int many))), s :: t) → mFnL m__law_take (mCons (mVar 0) (mCons me mNil)) (s :: t) = some (.ok (.val (.p (.int r))), s' :: t) := by
  obtain ⟨r, s', h3, r0, r1, e⟩ := law_take_eq s many h h1 h2
  refine ⟨r, s', h3, r0, r1, fun me t hm => ?_⟩
  obtain ⟨cells, i, cur, seed, b, rfl⟩ := h
  have hv : mVar 0 (drS cells i cur seed :: t) = some (.ok (.ref 0), drS cells i cur seed :: t) := rfl
  have hm2 : mCons (mVar 0) (mCons me mNil) (drS cells i cur seed :: t) = some (.ok [.ref 0, .val (.p (.int many))], drS cells i cur seed :: t) := by
    show bnd (mVar 0) _ _ = _
    rw [bnd_ok hv]
    show bnd (bnd me _) _ _ = _
    rw [bnd_assoc, bnd_ok hm]
    rfl
  rw [mFnL_run, bnd_ok hm2]
  simp [e]
theorem gEq_s {a b : Str} (ha : SeqAt.shaped (.str a) = true) (hb : SeqAt.shaped (.str b) = true) : gEq (.str a) (.str b) = some (.p (.bool (PyData.eqv (.str a) (.str b)))) := gEq_of ha hb rfl
/-! deeds -/
structure De where
  dot : Pr
  cau : List Pr
  it : Bool
  w : Str
  rest : List PyData
def lab (b : Bool) : Str := if b then "it" else "also"
def De.what (x : De) : PyData := .tuple (.str x.w :: x.rest)
def De.d (x : De) : PyData := .tuple [prI x.dot, vD x.cau, .str (lab x.it), x.what]
theorem gIdx_t2 (a b c : PyData) (t : List PyData) : gIdx (.tuple (a :: b :: c :: t)) (.int 2) = some (.p c) := by
  show (atI (a :: b :: c :: t) ((2 : Nat) : Int)).map Slot.p = _
  rw [atI_nat (j := 2) (v := c) rfl]; rfl
theorem gIdx_t3 (a b c d : PyData) (t : List PyData) : gIdx (.tuple (a :: b :: c :: d :: t)) (.int 3) = some (.p d) := by
  show (atI (a :: b :: c :: d :: t) ((3 : Nat) : Int)).map Slot.p = _
  rw [atI_nat (j := 3) (v := d) rfl]; rfl
@[simp] theorem gIdx_d0 (x : De) : gIdx x.d (.int 0) = some (.p (prI x.dot)) := Com.gIdx_t0 _ _
@[simp] theorem gIdx_d1 (x : De) : gIdx x.d (.int 1) = some (.p (vD x.cau)) := Com.gIdx_t1 _ _ _
@[simp] theorem gIdx_d2 (x : De) : gIdx x.d (.int 2) = some (.p (.str (lab x.it))) := gIdx_t2 _ _ _ _
@[simp] theorem gIdx_d3 (x : De) : gIdx x.d (.int 3) = some (.p x.what) := gIdx_t3 _ _ _ _ _
@[simp] theorem gIdx_w0 (x : De) : gIdx x.what (.int 0) = some (.p (.str x.w)) := Com.gIdx_t0 _ _
/-- undo, redo -/
def unB (w : Str) : Bool := [PyData.str "undo", .str "redo"].any fun z => PyData.eqv z (.str w)
theorem notIn_un {w : Str} (h : SeqAt.shaped (.str w) = true) : gIn true (.str w) (.tuple [.str "undo", .str "redo"]) = some (.p (.bool (!unB w))) := by
  have e : SeqAt.shaped (.tuple [.str "undo", .str "redo"]) = true := by decide +kernel
  show (if SeqAt.shaped (.str w) && SeqAt.shaped (.tuple [.str "undo", .str "redo"]) then _ else _) = _
  rw [h, e]; rfl
structure De.OK (x : De) : Prop where
  d0 : 0 ≤ x.dot.1
  d1 : x.dot.1 ≤ 1000
  d2 : 0 ≤ x.dot.2
  d3 : x.dot.2 ≤ 1000
  tw : Tame 3 1000 x.what
theorem De.OK.sh {x : De} (h : x.OK) : SeqAt.shaped (.str x.w) = true := by
  have h1 : tm (.str x.w) = true := by
    have := h.tw.1
    have : tmAll (.str x.w :: x.rest) = true := this
    rw [tmAll, Bool.and_eq_true] at this
    exact this.1
  exact Tame.shaped (k := 3) (n := x.w.cps.size) ⟨h1, Nat.le_refl _, by simp [PyData.depth]⟩ (by decide)
theorem tame_prI {p : Pr} (h0 : 0 ≤ p.1) (h1 : p.1 ≤ 1000) (h2 : 0 ≤ p.2) (h3 : p.2 ≤ 1000) : Tame 1 82 (prI p) := by
  refine Tame.tup (k := 0) (n := 40) (fun d hd => ?_) (by show 2 * 41 ≤ 82; decide)
  rcases List.mem_cons.mp hd with rfl | hd
  · exact Tame.int (by omega) (by omega)
  · rw [List.mem_singleton.mp hd]; exact Tame.int (by omega) (by omega)
theorem tame_w {w : Str} {rest : List PyData} (hw : w ∈ (["undo", "redo", "more", "set", "add", "drop", "on", "off", "put", "move", "cut"] : List Str)) (hr : ∀ d ∈ rest, Tame 2 200 d) (hl : rest.length ≤ 3) : Tame 3 1000 (.tuple (.str w :: rest)) := by
  refine Tame.tup (k := 2) (n := 200) (fun d hd => ?_) (by rw [List.length_cons]; omega)
  rcases List.mem_cons.mp hd with rfl | hd
  · have hall : ∀ w ∈ (["undo", "redo", "more", "set", "add", "drop", "on", "off", "put", "move", "cut"] : List Str), tm (.str w) = true ∧ w.cps.size ≤ 200 := by decide +kernel
    exact ⟨(hall w hw).1, (hall w hw).2, by simp [PyData.depth]⟩
  · exact hr d hd
def plainOf (l : List De) : List Pr := (l.filter fun x => !unB x.w).map (·.dot)
theorem gIdx_prL {l : List Pr} {j : Int} (h0 : 0 ≤ j) (h1 : j < l.length) : ∃ c ∈ l, gIdx (.list (l.map prI)) (.int j) = some (.p (prI c)) := by
  obtain ⟨n, rfl⟩ := Int.eq_ofNat_of_zero_le h0
  have hn : n < l.length := by omega
  refine ⟨l[n], List.getElem_mem hn, ?_⟩
  show (atI (l.map prI) (n : Int)).map Slot.p = _
  rw [atI_nat (j := n) (v := prI l[n]) (by rw [List.getElem?_map, List.getElem?_eq_getElem hn]; rfl)]
  rfl
theorem gIdx_lst {l : List PyData} {j : Int} (h0 : 0 ≤ j) (h1 : j < l.length) : ∃ c ∈ l, gIdx (.list l) (.int j) = some (.p c) := by
  obtain ⟨n, rfl⟩ := Int.eq_ofNat_of_zero_le h0
  have hn : n < l.length := by omega
  refine ⟨l[n], List.getElem_mem hn, ?_⟩
  show (atI l (n : Int)).map Slot.p = _
  rw [atI_nat (j := n) (v := l[n]) (List.getElem?_eq_getElem hn)]
  rfl
/-- what a counter's deeds do -/
def WCounter (known : List De) (w : Str) (rest : List PyData) : Prop :=
  ((w = "undo" ∨ w = "redo") ∧ ∃ y ∈ known, unB y.w = false ∧ rest = [prI y.dot]) ∨ (w = "more" ∧ ∃ i : Int, -4 ≤ i ∧ i ≤ 4 ∧ rest = [.int i])
theorem undo_or {r : Int} (h0 : 0 ≤ r) (h1 : r < 3) : ∃ w : Str, (w = "undo" ∨ w = "redo") ∧ gIdx (.list [.str "undo", .str "undo", .str "redo"]) (.int r) = some (.p (.str w)) := by
  have : r = 0 ∨ r = 1 ∨ r = 2 := by omega
  rcases this with rfl | rfl | rfl
  · exact ⟨_, .inl rfl, rfl⟩
  · exact ⟨_, .inl rfl, rfl⟩
  · exact ⟨_, .inr rfl, rfl⟩
def WhatFor (kind : Str) (turns : Bool) (P : List De → Str → List PyData → Prop) : Prop := ∀ (s : Slot) (known : List De), DrawOK s → known.length ≤ 1000 → (∀ x ∈ known, x.OK) → ∃ w rest s' t, DrawOK s' ∧ P known w rest ∧ Tame 3 1000 (.tuple (.str w :: rest)) ∧ m__law_what [s, .p (.str kind), .p (.list (known.map De.d)), .p (.bool turns)] = some (.ok (.p (.tuple (.str w :: rest))), s' :: t)
theorem what_counter (turns : Bool) : WhatFor "counter" turns WCounter := fun s known hs hk hok => by
  have hc := compM_run (own := [7]) (tg := (tgP (gN 7))) (mt := (mTest (mOp (gIn true) (mOp gIdx (mOp gIdx (mVar 7) (mC (.int 3))) (mC (.int 0))) (mTup (mCons (mC (.str "undo")) (mCons (mC (.str "redo")) mNil)))))) (me := (mOp gIdx (mVar 7) (mC (.int 0)))) De.d (fun x => !unB x.w) (fun x => prI x.dot) [s, .p (.str "counter"), .p (.list (known.map De.d)), .p (.bool turns), .un, .un, .un, .un] known [] (fun x hx =>
    ⟨[s, .p (.str "counter"), .p (.list (known.map De.d)), .p (.bool turns), .un, .un, .un, .p x.d], [s, .p (.str "counter"), .p (.list (known.map De.d)), .p (.bool turns), .un, .un, .un, .p x.d], rfl, by simp [notIn_un (hok x hx).sh], fun _ => rfl, fun _ => ⟨.val (.p (prI x.dot)), [s, .p (.str "counter"), .p (.list (known.map De.d)), .p (.bool turns), .un, .un, .un, .p x.d], by simp, rfl, rfl⟩⟩)
  have e1 : ((known.filter fun x => !unB x.w).map fun x => prI x.dot) = (plainOf known).map prI := by unfold plainOf; rw [List.map_map]; rfl
  rw [e1, List.nil_append] at hc
  have hp : (plainOf known).length ≤ 1000 := by
    unfold plainOf; rw [List.length_map]; exact Nat.le_trans (List.length_filter_le _ _) hk
  have hn := gNe_nil (shaped_lstI (plainOf known))
  have hin : ∀ d ∈ plainOf known, ∃ y ∈ known, unB y.w = false ∧ d = y.dot := fun d hd => by
    obtain ⟨y, hy, rfl⟩ := List.mem_map.mp hd
    obtain ⟨h1, h2⟩ := List.mem_filter.mp hy
    exact ⟨y, h1, by simpa using h2, rfl⟩
  generalize plainOf known = pl at *
  have he : gEq (.str "counter") (.str "counter") = some (.p (.bool true)) := (gEq_s (by decide +kernel) (by decide +kernel)).trans (by rw [show PyData.eqv (.str "counter") (.str "counter") = true by decide +kernel])
  have tail : ∀ s, DrawOK s → ∀ m, ∃ w rest s' t, DrawOK s' ∧ WCounter known w rest ∧ Tame 3 1000 (.tuple (.str w :: rest)) ∧ sSeq (sAsg (mOp gIdx (mLst (mCons (mC (.int 0)) (mCons (mC (.int 1)) (mCons (mC (.int 7)) (mCons (mC (.str "a")) (mCons (mC (.str "b")) mNil)))))) (mFnL m__law_take (mCons (mVar 0) (mCons (mC (.int 5)) mNil)))) (gN 5)) (sSeq (sIf (mTest (mOp gEq (mVar 1) (mC (.str "counter"))))
           (sRet (mTup (mCons (mC (.str "more")) (mCons (mOp (gI fun i j => some (.int (i - j))) (mFnL m__law_take (mCons (mVar 0) (mCons (mC (.int 9)) mNil))) (mC (.int 4))) mNil))))
           sNx) m) [s, .p (.str "counter"), .p (.list (known.map De.d)), .p (.bool turns), .l ((pl.map prI).map .p), .un, .un, .un] = some (.rt (.p (.tuple (.str w :: rest))), s' :: t) := fun s hs m => by
    obtain ⟨r, s1, h1, r0, r1, q1⟩ := takeL s 5 hs (by decide) (by decide)
    obtain ⟨r', s2, h2, r2, r3, q2⟩ := takeL s1 9 h1 (by decide) (by decide)
    have q1 := fun t => q1 (mC (.int 5)) t rfl
    have q2 := fun t => q2 (mC (.int 9)) t rfl
    obtain ⟨c, _, hc⟩ := gIdx_lst (l := [.int 0, .int 1, .int 7, .str "a", .str "b"]) r0 r1
    refine ⟨"more", [.int (r' - 4)], s2, [.p (.str "counter"), .p (.list (known.map De.d)), .p (.bool turns), .l ((pl.map prI).map .p), .p c, .un, .un], h2, .inr ⟨rfl, r' - 4, by omega, by omega, rfl⟩, tame_w (by decide) (fun d hd => ?_) (by show 1 ≤ 3; decide), ?_⟩
    · rw [List.mem_singleton.mp hd]; exact Tame.mono (Tame.int (by omega) (by omega)) (by decide) (by decide)
    · simp [-mFnL_run, q1, q2, hc, he]
  have fin : ∀ {E : Option (Fl × MM.Env)}, (∃ w rest s' t, DrawOK s' ∧ WCounter known w rest ∧ Tame 3 1000 (.tuple (.str w :: rest)) ∧ E = some (.rt (.p (.tuple (.str w :: rest))), s' :: t)) → ∃ w rest s' t, DrawOK s' ∧ WCounter known w rest ∧ Tame 3 1000 (.tuple (.str w :: rest)) ∧ runE 4 E = some (.ok (.p (.tuple (.str w :: rest))), s' :: t) := fun ⟨w, rest, s', t, a, b, c, d⟩ => ⟨w, rest, s', t.take 3, a, b, c, by rw [d]; rfl⟩
  show ∃ w rest s' t, DrawOK s' ∧ WCounter known w rest ∧ Tame 3 1000 (.tuple (.str w :: rest)) ∧ runE 4 (mb__law_what [s, .p (.str "counter"), .p (.list (known.map De.d)), .p (.bool turns), .un, .un, .un, .un]) = some (.ok (.p (.tuple (.str w :: rest))), s' :: t)
  refine fin ?_
  unfold mb__law_what
  have hz : known.length ≤ 1000000 := by omega
  rw [sSeq_run]
  have e2 : sAsg (mComp [7] (mSeq (mVar 2)) (tgP (gN 7)) (mTest (mOp (gIn true) (mOp gIdx (mOp gIdx (mVar 7) (mC (.int 3))) (mC (.int 0))) (mTup (mCons (mC (.str "undo")) (mCons (mC (.str "redo")) mNil))))) (mOp gIdx (mVar 7) (mC (.int 0)))) (gN 4) [s, .p (.str "counter"), .p (.list (known.map De.d)), .p (.bool turns), .un, .un, .un, .un] = some (.nx, [s, .p (.str "counter"), .p (.list (known.map De.d)), .p (.bool turns), .l ((pl.map prI).map .p), .un, .un, .un]) := by
    simp [-List.map_map, hc, hz]
  rw [e2]
  show ∃ w rest s' t, DrawOK s' ∧ WCounter known w rest ∧ Tame 3 1000 (.tuple (.str w :: rest)) ∧ sSeq _ _ _ = _
  rw [sSeq_run]
  by_cases hA : turns = true ∧ pl ≠ []
  · obtain ⟨rfl, hp0⟩ := hA
    have hb : (pl.map prI).isEmpty = false := by cases pl with | nil => exact absurd rfl hp0 | cons _ _ => rfl
    rw [hb] at hn
    obtain ⟨r, s1, h1, r0, r1, q1⟩ := takeL s 4 hs (by decide) (by decide)
    have q1 := fun t => q1 (mC (.int 4)) t rfl
    by_cases hr : r = 0
    · subst hr
      obtain ⟨r', s2, h2, r2, r3, q2⟩ := takeL s1 3 h1 (by decide) (by decide)
      have hl0 : 0 < pl.length := List.length_pos_iff.mpr hp0
      obtain ⟨r'', s3, h3, r4, r5, q3⟩ := takeL s2 pl.length h2 (by omega) (by omega)
      have q2 := fun t => q2 (mC (.int 3)) t rfl
      obtain ⟨w, hw, e3⟩ := undo_or r2 r3
      obtain ⟨d, hd, e4⟩ := gIdx_prL r4 r5
      obtain ⟨y, hy, hy2, rfl⟩ := hin d hd
      refine ⟨w, [prI y.dot], s3, [.p (.str "counter"), .p (.list (known.map De.d)), .p (.bool true), .l ((pl.map prI).map .p), .un, .un, .un], h3, .inl ⟨hw, y, hy, hy2, rfl⟩, tame_w (by rcases hw with rfl | rfl <;> decide) (fun d hd => ?_) (by show 1 ≤ 3; decide), ?_⟩
      · rw [List.mem_singleton.mp hd]
        have o := hok y hy
        exact Tame.mono (tame_prI o.d0 o.d1 o.d2 o.d3) (by decide) (by decide)
      · have q3 := q3 (mCall gLen (mCons (mVar 4) mNil)) [.p (.str "counter"), .p (.list (known.map De.d)), .p (.bool true), .l ((pl.map prI).map .p), .un, .un, .un] (by simp [-List.map_map])
        simp [-mFnL_run, -List.map_map, q1, q2, q3, e3, e4, hn]
    · have hr2 : (r == 0) = false := beq_eq_false_iff_ne.mpr hr
      have e3 : sIf (mAndT (mTruth (mVar 3)) (mAndT (mTest (mOp gNe (mVar 4) (mLst mNil))) (mTest (mOp gEq (mFnL m__law_take (mCons (mVar 0) (mCons (mC (.int 4)) mNil))) (mC (.int 0))))))
           (sRet (mTup (mCons (mOp gIdx (mLst (mCons (mC (.str "undo")) (mCons (mC (.str "undo")) (mCons (mC (.str "redo")) mNil)))) (mFnL m__law_take (mCons (mVar 0) (mCons (mC (.int 3)) mNil)))) (mCons (mOp gIdx (mVar 4) (mFnL m__law_take (mCons (mVar 0) (mCons (mCall gLen (mCons (mVar 4) mNil)) mNil)))) mNil))))
           sNx [s, .p (.str "counter"), .p (.list (known.map De.d)), .p (.bool true), .l ((pl.map prI).map .p), .un, .un, .un] = some (.nx, [s1, .p (.str "counter"), .p (.list (known.map De.d)), .p (.bool true), .l ((pl.map prI).map .p), .un, .un, .un]) := by
        refine if_no ?_
        simp [-mFnL_run, -List.map_map, q1, hn, hr2]
      rw [e3]
      exact tail s1 h1 _
  · have e3 : sIf (mAndT (mTruth (mVar 3)) (mAndT (mTest (mOp gNe (mVar 4) (mLst mNil))) (mTest (mOp gEq (mFnL m__law_take (mCons (mVar 0) (mCons (mC (.int 4)) mNil))) (mC (.int 0))))))
           (sRet (mTup (mCons (mOp gIdx (mLst (mCons (mC (.str "undo")) (mCons (mC (.str "undo")) (mCons (mC (.str "redo")) mNil)))) (mFnL m__law_take (mCons (mVar 0) (mCons (mC (.int 3)) mNil)))) (mCons (mOp gIdx (mVar 4) (mFnL m__law_take (mCons (mVar 0) (mCons (mCall gLen (mCons (mVar 4) mNil)) mNil)))) mNil))))
           sNx [s, .p (.str "counter"), .p (.list (known.map De.d)), .p (.bool turns), .l ((pl.map prI).map .p), .un, .un, .un] = some (.nx, [s, .p (.str "counter"), .p (.list (known.map De.d)), .p (.bool turns), .l ((pl.map prI).map .p), .un, .un, .un]) := by
      refine if_no ?_
      cases turns with
      | false => simp
      | true =>
        have : pl = [] := Classical.byContradiction fun z => hA ⟨rfl, z⟩
        subst this
        have hn : gNe (.list []) (.list []) = some (.p (.bool false)) := hn
        simp [hn]
    rw [e3]
    exact tail s hs _
end Drw
/-! P_DRW2: drawn histories: what they are -/
namespace Drw
open PySem PySem.Spec L2 MM
open Com (DrawOK DrawB drD drS)
def mrgP (a b : List Pr) : List Pr := (ks a ++ ks b).map fun k => (k, max ((getI a k).getD 0) ((getI b k).getD 0))
def mrg (a b : List Pr) : List Pr := mergeI [] (mrgP a b)
inductive Hist (many : Nat) (P : List De → Str → List PyData → Prop) : List (List Pr) → List De → Prop
  | nil : Hist many P (List.replicate many []) []
  | step {hs : List (List Pr)} {ds : List De} (c o : Nat) (a b h1 : List Pr) (x : De) : Hist many P hs ds → hs[c]? = some a → hs[o]? = some b → (h1 = mrg a b ∨ h1 = a) → x.dot = ((c : Int), (getI h1 c).getD 0 + 1) → x.cau = sortI h1 →
      (x.it = true → P (ds.filter fun y => y.it && hasB x.cau y.dot) x.w x.rest) → (x.it = false → x.w = "more" ∧ x.rest = [.int 1]) → Tame 3 1000 x.what → Hist many P (hs.set c (putI h1 c x.dot.2)) (ds ++ [x])
/-- how many deeds of a copy -/
def num (ds : List De) (c : Int) : Int := ((ds.filter fun y => y.dot.1 == c).length : Nat)
theorem num_nil (c : Int) : num [] c = 0 := rfl
theorem num_snoc (ds : List De) (x : De) (c : Int) : num (ds ++ [x]) c = num ds c + (if x.dot.1 = c then 1 else 0) := by
  unfold num
  rw [List.filter_append, List.length_append]
  by_cases h : x.dot.1 = c
  · rw [if_pos h, List.filter_cons, if_pos (beq_iff_eq.mpr h)]
    simp
  · rw [if_neg h, List.filter_cons, if_neg (by rw [beq_iff_eq]; exact h)]
    simp
theorem num_nn (ds : List De) (c : Int) : 0 ≤ num ds c := Int.natCast_nonneg _
theorem num_le (ds : List De) (c : Int) : num ds c ≤ ds.length := by
  unfold num
  have := List.length_filter_le (fun y : De => y.dot.1 == c) ds
  omega
/-- a heard vector -/
structure HInv (many : Nat) (ds : List De) (h : List Pr) : Prop where
  nd : (ks h).Nodup
  pos : ∀ p ∈ h, 1 ≤ p.2 ∧ 0 ≤ p.1 ∧ p.1 < many
  le : ∀ c, cnt h c ≤ num ds c
structure DInv (many : Nat) (ds : List De) (x : De) : Prop where
  asc : (ks x.cau).Pairwise (· < ·)
  pos : ∀ p ∈ x.cau, 1 ≤ p.2 ∧ 0 ≤ p.1 ∧ p.1 < many
  le : ∀ c, cnt x.cau c ≤ num ds c
  own : cnt x.cau x.dot.1 = x.dot.2 - 1
  c0 : 0 ≤ x.dot.1
  c1 : x.dot.1 < many
  n0 : 1 ≤ x.dot.2
  n1 : x.dot.2 ≤ num ds x.dot.1
  tw : Tame 3 1000 x.what
structure Inv (many : Nat) (hs : List (List Pr)) (ds : List De) : Prop where
  len : hs.length = many
  heard : ∀ h ∈ hs, HInv many ds h
  own : ∀ (c : Nat) (h : List Pr), hs[c]? = some h → cnt h c = num ds c
  deed : ∀ x ∈ ds, DInv many ds x
  nd : (ds.map (·.dot)).Nodup
  ex : ∀ (c n : Int), 1 ≤ n → n ≤ num ds c → ∃ y ∈ ds, y.dot = (c, n)
theorem keys_get {h : List Pr} {k : Int} (hk : k ∉ ks h) : (getI h k).getD 0 = 0 := by
  unfold getI
  cases q : h.find? fun p => p.1 == k with
  | none => rfl
  | some p =>
    have h1 := List.find?_some q
    exact absurd (List.mem_map.mpr ⟨p, List.mem_of_find?_eq_some q, beq_iff_eq.mp h1⟩) hk
theorem merge_cnt : ∀ (l acc : List Pr), (ks acc).Nodup → (ks (mergeI acc l)).Nodup ∧ (∀ c, (∃ n, (c, n) ∈ l ∧ cnt (mergeI acc l) c = n) ∨ (c ∉ ks l ∧ cnt (mergeI acc l) c = cnt acc c)) ∧ ∀ p ∈ mergeI acc l, p ∈ acc ∨ p ∈ l
  | [], acc, h => ⟨h, fun c => .inr ⟨fun z => (nomatch z), rfl⟩, fun p hp => .inl hp⟩
  | q :: l, acc, h => by
    obtain ⟨a, b, d⟩ := merge_cnt l (putI acc q.1 q.2) (put_nodup _ _ h)
    refine ⟨a, fun c => ?_, fun p hp => ?_⟩
    · rcases b c with ⟨n, h1, h2⟩ | ⟨h1, h2⟩
      · exact .inl ⟨n, List.mem_cons_of_mem _ h1, h2⟩
      · have h2 : cnt (mergeI acc (q :: l)) c = cnt (putI acc q.1 q.2) c := h2
        rw [put_cnt _ _ _ h] at h2
        by_cases z : c = q.1
        · subst z
          rw [if_pos rfl] at h2
          exact .inl ⟨q.2, List.mem_cons_self, h2⟩
        · rw [if_neg z] at h2
          exact .inr ⟨fun y => (List.mem_cons.mp y).elim z h1, h2⟩
    · rcases d p hp with h1 | h1
      · rcases put_mem h1 with h1 | h1
        · exact .inl h1
        · exact .inr (by rw [h1]; exact List.mem_cons_self)
      · exact .inr (List.mem_cons_of_mem _ h1)
theorem mrg_nd (a b : List Pr) : (ks (mrg a b)).Nodup := (merge_cnt (mrgP a b) [] List.nodup_nil).1
theorem mrg_cnt {a b : List Pr} (ha : (ks a).Nodup) (hb : (ks b).Nodup) (c : Int) : cnt (mrg a b) c = max (cnt a c) (cnt b c) := by
  obtain ⟨_, h, _⟩ := merge_cnt (mrgP a b) [] List.nodup_nil
  rcases h c with ⟨n, h1, h2⟩ | ⟨h1, h2⟩
  · obtain ⟨k, _, h3⟩ := List.mem_map.mp h1
    cases h3
    rw [cnt_get c ha, cnt_get c hb] at h2
    exact h2
  · have hk : ks (mrgP a b) = ks a ++ ks b := by
      unfold mrgP ks
      rw [List.map_map]
      exact List.map_id _
    rw [hk] at h1
    have h2 : cnt (mrg a b) c = 0 := h2
    rw [h2, cnt_no fun z => h1 (List.mem_append_left _ z), cnt_no fun z => h1 (List.mem_append_right _ z)]
    rfl
theorem pos_cnt {h : List Pr} (nd : (ks h).Nodup) (pos : ∀ p ∈ h, 1 ≤ p.2) : ∀ c, 0 ≤ cnt h c := fun c => by
  by_cases z : c ∈ ks h
  · obtain ⟨p, hp, rfl⟩ := List.mem_map.mp z
    rw [cnt_at nd hp]
    have := pos p hp; omega
  · rw [cnt_no z]; exact Int.le_refl _
theorem mrg_pos {a b : List Pr} {lo hi : Int} (ha : (ks a).Nodup) (hb : (ks b).Nodup) (pa : ∀ p ∈ a, 1 ≤ p.2 ∧ lo ≤ p.1 ∧ p.1 < hi) (pb : ∀ p ∈ b, 1 ≤ p.2 ∧ lo ≤ p.1 ∧ p.1 < hi) : ∀ p ∈ mrg a b, 1 ≤ p.2 ∧ lo ≤ p.1 ∧ p.1 < hi := fun p hp => by
  obtain ⟨_, _, h⟩ := merge_cnt (mrgP a b) [] List.nodup_nil
  rcases h p hp with h1 | h1
  · cases h1
  · obtain ⟨k, hk, rfl⟩ := List.mem_map.mp h1
    have na := pos_cnt ha fun p hp => (pa p hp).1
    have nb := pos_cnt hb fun p hp => (pb p hp).1
    rw [cnt_get k ha, cnt_get k hb]
    rcases List.mem_append.mp hk with z | z
    · obtain ⟨q, hq, rfl⟩ := List.mem_map.mp z
      have := pa q hq
      rw [cnt_at ha hq]
      exact ⟨by show 1 ≤ max q.2 (cnt b q.1); omega, this.2⟩
    · obtain ⟨q, hq, rfl⟩ := List.mem_map.mp z
      have := pb q hq
      rw [cnt_at hb hq]
      exact ⟨by show 1 ≤ max (cnt a q.1) q.2; omega, this.2⟩
theorem HInv.mono {many : Nat} {ds : List De} {h : List Pr} (i : HInv many ds h) (x : De) : HInv many (ds ++ [x]) h :=
  ⟨i.nd, i.pos, fun c => by have := i.le c; rw [num_snoc]; split <;> omega⟩
theorem DInv.mono {many : Nat} {ds : List De} {y : De} (i : DInv many ds y) (x : De) : DInv many (ds ++ [x]) y :=
  ⟨i.asc, i.pos, fun c => by have := i.le c; rw [num_snoc]; split <;> omega, i.own, i.c0, i.c1, i.n0, by have := i.n1; rw [num_snoc]; split <;> omega, i.tw⟩
theorem Hist.inv {many : Nat} {P : List De → Str → List PyData → Prop} {hs : List (List Pr)} {ds : List De} (H : Hist many P hs ds) : Inv many hs ds := by
  induction H with
  | nil =>
    refine ⟨List.length_replicate, fun h hh => ?_, fun c h hh => ?_, fun _ z => (nomatch z), List.nodup_nil, fun c n h1 h2 => ?_⟩
    · rw [List.eq_of_mem_replicate hh]
      exact ⟨List.nodup_nil, fun _ z => (nomatch z), fun c => Int.le_refl _⟩
    · rw [List.eq_of_mem_replicate (List.mem_of_getElem? hh)]; rfl
    · rw [num_nil] at h2; omega
  | @step hs ds c o a b h1 x H ha hb hh hd hc hP hN tw I =>
    have Ia := I.heard a (List.mem_of_getElem? ha)
    have Ib := I.heard b (List.mem_of_getElem? hb)
    have hlt : c < many := by
      have := (List.getElem?_eq_some_iff.mp ha).1
      rw [I.len] at this; exact this
    have oa := I.own c a ha
    have I1 : HInv many ds h1 ∧ cnt h1 c = num ds c := by
      rcases hh with rfl | rfl
      · refine ⟨⟨mrg_nd a b, mrg_pos Ia.nd Ib.nd Ia.pos Ib.pos, fun c' => ?_⟩, ?_⟩
        · rw [mrg_cnt Ia.nd Ib.nd]
          have := Ia.le c'; have := Ib.le c'; omega
        · rw [mrg_cnt Ia.nd Ib.nd]
          have := Ib.le c; omega
      · exact ⟨Ia, oa⟩
    obtain ⟨I1, o1⟩ := I1
    have hn : x.dot.2 = num ds c + 1 := by rw [hd, cnt_get _ I1.nd, o1]
    have hx1 : x.dot.1 = c := by rw [hd]
    have ns : ∀ c', num (ds ++ [x]) c' = num ds c' + (if (c : Int) = c' then 1 else 0) := fun c' => by rw [num_snoc, hx1]
    have pc := pos_cnt I1.nd fun p hp => (I1.pos p hp).1
    have hcau : ∀ c', cnt x.cau c' = cnt h1 c' := fun c' => by rw [hc]; exact cnt_perm (sortI_perm h1) c'
    refine ⟨by rw [List.length_set]; exact I.len, fun h hm => ?_, fun c' h hm => ?_, fun y hy => ?_, ?_, fun c' n z1 z2 => ?_⟩
    · rcases List.mem_or_eq_of_mem_set hm with hm | rfl
      · exact (I.heard h hm).mono x
      · refine ⟨put_nodup _ _ I1.nd, fun p hp => ?_, fun c' => ?_⟩
        · rcases put_mem hp with hp | rfl
          · exact I1.pos p hp
          · have := num_nn ds c
            exact ⟨by show 1 ≤ x.dot.2; omega, by show (0 : Int) ≤ c; omega, by show (c : Int) < many; omega⟩
        · rw [put_cnt _ _ _ I1.nd, ns]
          have := I1.le c'
          by_cases z : c' = (c : Int)
          · rw [if_pos z, if_pos z.symm]; subst z; omega
          · rw [if_neg z, if_neg (fun y => z y.symm)]; omega
    · rw [ns]
      by_cases z : c = c'
      · subst z
        rw [List.getElem?_set_self (by rw [I.len]; exact hlt)] at hm
        cases hm
        rw [put_cnt _ _ _ I1.nd, if_pos rfl, if_pos rfl]; exact hn
      · rw [List.getElem?_set_ne z] at hm
        rw [I.own c' h hm, if_neg (by omega)]; omega
    · rcases List.mem_append.mp hy with hy | hy
      · exact (I.deed y hy).mono x
      · rw [List.mem_singleton.mp hy]
        have := num_nn ds c
        refine ⟨by rw [hc]; exact sort_keys I1.nd, fun p hp => I1.pos p ?_, fun c' => ?_, ?_, ?_, ?_, ?_, ?_, tw⟩
        · rw [hc] at hp; exact sortI_mem.mp hp
        · rw [hcau, ns]; have := I1.le c'; split <;> omega
        · rw [hcau, hx1, o1]; omega
        · omega
        · omega
        · omega
        · rw [ns, hx1, if_pos rfl]; omega
    · rw [List.map_append]
      refine List.nodup_append.mpr ⟨I.nd, by simp, fun d h2 e h3 z => ?_⟩
      obtain ⟨y, hy, rfl⟩ := List.mem_map.mp h2
      have h3 : e = x.dot := List.mem_singleton.mp h3
      subst h3
      have := (I.deed y hy).n1
      rw [z, hx1, hn] at this
      omega
    · rw [ns] at z2
      by_cases z : (c : Int) = c' ∧ n = num ds c + 1
      · refine ⟨x, List.mem_append_right _ (List.mem_singleton.mpr rfl), ?_⟩
        rw [z.2, ← z.1, ← hn, ← hx1]
      · have : n ≤ num ds c' := by
          by_cases q : (c : Int) = c'
          · rw [if_pos q] at z2
            have : n ≠ num ds c + 1 := fun w => z ⟨q, w⟩
            rw [← q] at z2 ⊢; omega
          · rw [if_neg q] at z2; omega
        obtain ⟨y, hy, e⟩ := I.ex c' n z1 this
        exact ⟨y, List.mem_append_left _ hy, e⟩
end Drw
/-! P_DRW3: _law_deeds gives a drawn history -/
namespace Drw
open PySem PySem.Spec L2 MM
open Com (DrawOK DrawB drD drS)
theorem pigeon : ∀ (m : Nat) (l : List Int), l.Nodup → (∀ x ∈ l, 0 ≤ x ∧ x < m) → l.length ≤ m
  | 0, [], _, _ => Nat.le_refl _
  | 0, x :: l, _, h => by have := h x List.mem_cons_self; omega
  | m + 1, l, nd, h => by
    have h2 := pigeon m (l.erase (m : Int)) (nd.erase _) fun x hx => by
      obtain ⟨a, b⟩ := (nd.mem_erase_iff).mp hx
      have := h x b
      omega
    rw [List.length_erase] at h2
    split at h2 <;> omega
theorem HInv.len {many : Nat} {ds : List De} {h : List Pr} (i : HInv many ds h) : h.length ≤ many := by
  have := pigeon many (ks h) i.nd fun x hx => by
    obtain ⟨p, hp, rfl⟩ := List.mem_map.mp hx
    exact (i.pos p hp).2
  rw [List.length_map] at this
  exact this
def hS (hs : List (List Pr)) : List Slot := hs.map fun h => .m (mI h)
theorem ixN_nat {n c : Nat} (h : c < n) : ixN n (c : Int) = some c := by
  unfold ixN
  simp
  omega
section
variable {E : MM.Env} {i : Nat} {hs : List (List Pr)} {c : Nat} {h : List Pr} {k : Int} {mc mk : MM.Env → Option PyData} {mv : ExM}
theorem atLD_hs (hE : E[i]? = some (.l (hS hs))) (hc : hs[c]? = some h) : atLD E i (.int c) = some (c, mI h) := by
  have hlt := (List.getElem?_eq_some_iff.mp hc).1
  have h2 : (hS hs)[c]? = some (.m (mI h)) := by unfold hS; rw [List.getElem?_map, hc]; rfl
  have h3 : ixN (hS hs).length (c : Int) = some c := ixN_nat (by unfold hS; rw [List.length_map]; exact hlt)
  unfold atLD
  simp [hE, h3, h2]
theorem ldget_hs (hc : hs[c]? = some h) (hE : E[i]? = some (.l (hS hs))) (h1 : mc E = some (.int c)) (h2 : mk E = some (.int k)) : mLDGet i mc mk (dC (.int 0)) E = some (.ok (.val (.p (.int ((getI h k).getD 0)))), E) := by
  rw [mLDGet_run, h1, h2, dC_run]
  simp only [Option.bind_some, atLD_hs hE hc, keyD_int, valS_mI]
  cases getI h k <;> rfl
theorem ldix_hs {n : Int} (hc : hs[c]? = some h) (hn : getI h k = some n) (hE : E[i]? = some (.l (hS hs))) (h1 : mc E = some (.int c)) (h2 : mk E = some (.int k)) : mLDIx i mc mk E = some (.ok (.val (.p (.int n))), E) := by
  rw [mLDIx_run, h1, h2]
  simp only [Option.bind_some, atLD_hs hE hc, keyD_int, valS_mI, hn, Option.map_some]
theorem ldkeys_hs (hc : hs[c]? = some h) (hE : E[i]? = some (.l (hS hs))) (h1 : mc E = some (.int c)) : mLDKeys i mc E = some (.ok (.val (.l (((ks h).map .int).map .p))), E) := by
  rw [mLDKeys_run, h1]
  simp only [Option.bind_some, atLD_hs hE hc, Option.map_some]
  congr 5
  unfold mI ks
  rw [List.map_map, List.map_map, List.map_map]
  rfl
theorem ldsort_hs (hc : hs[c]? = some h) (hE : E[i]? = some (.l (hS hs))) (h1 : mc E = some (.int c)) : mLDSort i mc E = some (.ok (.val (.l (((sortI h).map prI).map .p))), E) := by
  rw [mLDSort_run, h1]
  simp only [Option.bind_some, atLD_hs hE hc, kdsS_mI, kdI_prD, sortB_prI, kdI_depth, and_self, if_true, srt_prI]
theorem hS_set (hs : List (List Pr)) (c : Nat) (h : List Pr) : (hS hs).set c (.m (mI h)) = hS (hs.set c h) := by
  unfold hS; rw [List.map_set]
theorem setL_hs {me mi : ExM} {h1 : List Pr} (hc : hs[c]? = some h) (hv : me E = some (.ok (.val (.m (mI h1))), E)) (hE : E[i]? = some (.l (hS hs))) (h2 : mi E = some (.ok (.val (.p (.int c))), E)) : sSetL i me mi E = some (.nx, E.set i (.l (hS (hs.set c h1)))) := by
  have hlt := (List.getElem?_eq_some_iff.mp hc).1
  have h3 : ixN (hS hs).length (c : Int) = some c := ixN_nat (by unfold hS; rw [List.length_map]; exact hlt)
  unfold sSetL bndS
  rw [hv]
  unfold isL
  simp only [hE, h2]
  have hd : (Opd.val (.p (.int (c : Int)))).get E = .p (.int c) := rfl
  unfold look
  simp only [hd]
  have hd2 : (Slot.p (.int (c : Int))).dat = some (.int c) := rfl
  simp only [hd2]
  unfold stK
  have hf : (Slot.m (mI h1)).fz = .m (mI h1) := rfl
  simp only [hE, h3, Option.bind_some, hf, hS_set]
theorem gAdd_ints {a b : List Int} (ha : a.length ≤ 1000) (hb : b.length ≤ 1000) : gAdd (.list (a.map .int)) (.list (b.map .int)) = some (.l (((a ++ b).map .int).map .p)) := by
  show (if smallL ((a.map PyData.int).length + (b.map PyData.int).length) then some (Slot.l ((a.map PyData.int ++ b.map PyData.int).map .p)) else none) = _
  rw [List.length_map, List.length_map, show smallL (a.length + b.length) = true from decide_eq_true (by omega), if_pos rfl, ← List.map_append]
theorem gDict_lD (l : List Pr) : gDict [.list (l.map prI)] = some (.m (mI (mergeI [] l))) := by
  show (pairsD (l.map prI)).map _ = _
  rw [pairsD_prI, ← mergeS_mI]; rfl
theorem ldset_hs {n : Int} (hc : hs[c]? = some h) (hl : h.length ≤ 1000) (hv : mv E = some (.ok (.val (.p (.int n))), E)) (hE : E[i]? = some (.l (hS hs))) (h1 : mc E = some (.int c)) (h2 : mk E = some (.int k)) : sLDSet i mv mc mk E = some (.nx, E.set i (.l (hS (hs.set c (putI h k n))))) := by
  have sm : smallL (mI h).length = true := by rw [mI_len]; exact decide_eq_true (by omega)
  rw [sLDSet_run]
  unfold bndS
  rw [hv]
  have ow : (Opd.val (.p (.int n))).own = some (PyData.int n) := rfl
  simp only [ow, Option.bind_some, h1, h2, atLD_hs hE hc, keyD_int, hE, sm, if_true, putS_mI, hS_set]
end
section
variable (kind : Str) (many steps : Nat) (turns : Bool)
abbrev dE (s : Slot) (hs : List (List Pr)) (ds : List De) (t : List Slot) : MM.Env := [s, .p (.str kind), .p (.int many), .p (.int steps), .p (.bool turns), .l (hS hs), .l ((ds.map De.d).map .p)] ++ t
/-- the first statement of a turn -/
theorem st1 (s : Slot) (hs : List (List Pr)) (ds : List De) (s7 s8 s9 s10 s11 s12 : Slot) (h : DrawOK s) (hm : 0 < many) (hm2 : many < 1000) : ∃ (c o : Nat) (s' : Slot), DrawOK s' ∧ c < many ∧ o < many ∧ sAsg (mTup (mCons (mFnL m__law_take (mCons (mVar 0) (mCons (mVar 2) mNil))) (mCons (mFnL m__law_take (mCons (mVar 0) (mCons (mVar 2) mNil))) mNil))) (gT 2 (gsCons (gN 8) (gsCons (gN 9) gsNil)))
   (dE kind many steps turns s hs ds [s7, s8, s9, s10, s11, s12, .un, .un]) = some (.nx, dE kind many steps turns s' hs ds [s7, .p (.int c), .p (.int o), s10, s11, s12, .un, .un]) := by
  obtain ⟨r, s1, h1, r0, r1, q1⟩ := takeL s many h (by omega) (by omega)
  obtain ⟨r', s2, h2, r2, r3, q2⟩ := takeL s1 many h1 (by omega) (by omega)
  obtain ⟨c, rfl⟩ := Int.eq_ofNat_of_zero_le r0
  obtain ⟨o, rfl⟩ := Int.eq_ofNat_of_zero_le r2
  refine ⟨c, o, s2, h2, by omega, by omega, ?_⟩
  have q1 := q1 (mVar 2) [.p (.str kind), .p (.int many), .p (.int steps), .p (.bool turns), .l (hS hs), .l ((ds.map De.d).map .p), s7, s8, s9, s10, s11, s12, .un, .un] rfl
  have q2 := q2 (mVar 2) [.p (.str kind), .p (.int many), .p (.int steps), .p (.bool turns), .l (hS hs), .l ((ds.map De.d).map .p), s7, s8, s9, s10, s11, s12, .un, .un] rfl
  simp [-mFnL_run, -List.map_map, q1, q2]
  rfl
theorem st2 (s : Slot) (hs : List (List Pr)) (ds : List De) (s7 s10 s11 s12 : Slot) (c o : Nat) (a b : List Pr) (h : DrawOK s) (ha : hs[c]? = some a) (hb : hs[o]? = some b) (la : a.length ≤ 1000) (lb : b.length ≤ 1000) : ∃ (h1 : List Pr) (s' : Slot), DrawOK s' ∧ (h1 = mrg a b ∨ h1 = a) ∧ (sIf (mTest (mOp gEq (mFnL m__law_take (mCons (mVar 0) (mCons (mC (.int 3)) mNil))) (mC (.int 0))))
   (sSetL 5 (mCall gDict (mCons (mComp [14] (mSeq (mOp gAdd (mLDKeys 5 (dV 8)) (mLDKeys 5 (dV 9)))) (tgP (gN 14)) mYes (mTup (mCons (mVar 14) (mCons (mCall gMax2 (mCons (mLDGet 5 (dV 8) (dV 14) (dC (.int 0))) (mCons (mLDGet 5 (dV 9) (dV 14) (dC (.int 0))) mNil))) mNil)))) mNil)) (mVar 8))
   sNx) (dE kind many steps turns s hs ds [s7, .p (.int c), .p (.int o), s10, s11, s12, .un, .un]) = some (.nx, dE kind many steps turns s' (hs.set c h1) ds [s7, .p (.int c), .p (.int o), s10, s11, s12, .un, .un]) := by
  obtain ⟨r, s1, h1, r0, r1, q1⟩ := takeL s 3 h (by decide) (by decide)
  have q1 := fun t => q1 (mC (.int 3)) t rfl
  by_cases hr : r = 0
  · subst hr
    refine ⟨mrg a b, s1, h1, .inl rfl, ?_⟩
    have G1 := fun (E : MM.Env) (k : Int) => ldget_hs (E := E) (i := 5) (k := k) (mc := dV 8) (mk := dV 14) ha
    have G2 := fun (E : MM.Env) (k : Int) => ldget_hs (E := E) (i := 5) (k := k) (mc := dV 9) (mk := dV 14) hb
    have K1 := fun (E : MM.Env) => ldkeys_hs (E := E) (i := 5) (mc := dV 8) ha
    have K2 := fun (E : MM.Env) => ldkeys_hs (E := E) (i := 5) (mc := dV 9) hb
    have hc := compM_map (own := [14]) (tg := (tgP (gN 14))) (me := (mTup (mCons (mVar 14) (mCons (mCall gMax2 (mCons (mLDGet 5 (dV 8) (dV 14) (dC (.int 0))) (mCons (mLDGet 5 (dV 9) (dV 14) (dC (.int 0))) mNil))) mNil)))) PyData.int (fun k => prI (k, max ((getI a k).getD 0) ((getI b k).getD 0))) (dE kind many steps turns s1 hs ds [s7, .p (.int c), .p (.int o), s10, s11, s12, .un, .un]) (ks a ++ ks b) [] (fun k hk => 
      ⟨dE kind many steps turns s1 hs ds [s7, .p (.int c), .p (.int o), s10, s11, s12, .un, .p (.int k)], .val (.p (prI (k, max ((getI a k).getD 0) ((getI b k).getD 0)))), dE kind many steps turns s1 hs ds [s7, .p (.int c), .p (.int o), s10, s11, s12, .un, .p (.int k)], rfl, by simp [-List.map_map, -mLDGet_run, G1 _ k, G2 _ k, prI], rfl, rfl⟩)
    have hm : (ks a ++ ks b).map (fun k => prI (k, max ((getI a k).getD 0) ((getI b k).getD 0))) = (mrgP a b).map prI := by unfold mrgP; rw [List.map_map]; rfl
    rw [hm, List.nil_append] at hc
    have hla : (ks a).length ≤ 1000 := by rw [List.length_map]; exact la
    have hlb : (ks b).length ≤ 1000 := by rw [List.length_map]; exact lb
    have hz : (ks a ++ ks b).length ≤ 1000000 := by rw [List.length_append]; omega
    rw [sIf_run]
    have e1 : mTest (mOp gEq (mFnL m__law_take (mCons (mVar 0) (mCons (mC (.int 3)) mNil))) (mC (.int 0))) (dE kind many steps turns s hs ds [s7, .p (.int c), .p (.int o), s10, s11, s12, .un, .un]) = some (.ok true, dE kind many steps turns s1 hs ds [s7, .p (.int c), .p (.int o), s10, s11, s12, .un, .un]) := by
      simp [-mFnL_run, -List.map_map, q1]
    rw [e1]
    refine setL_hs (h := a) ha ?_ rfl rfl
    have hg := gAdd_ints hla hlb
    generalize ks a ++ ks b = kk at hc hg hz
    simp only [dE, List.cons_append, List.nil_append] at hc
    simp [-List.map_map, -List.length_append, -List.map_append, -mLDGet_run, -mLDKeys_run, K1, K2, hg, hz, hc, gDict_lD]
    rfl
  · have hr2 : (r == 0) = false := beq_eq_false_iff_ne.mpr hr
    refine ⟨a, s1, h1, .inr rfl, ?_⟩
    have : hs.set c a = hs := by
      apply List.ext_getElem?
      intro j
      by_cases hj : c = j
      · subst hj
        rw [List.getElem?_set_self (List.getElem?_eq_some_iff.mp ha).1]; exact ha.symm
      · rw [List.getElem?_set_ne hj]
    rw [this]
    simp [-mFnL_run, -List.map_map, q1, hr2]
theorem st3 (s : Slot) (hs : List (List Pr)) (ds : List De) (s7 s10 s11 s12 : Slot) (c o : Nat) (a : List Pr) (ha : hs[c]? = some a) : sAsg (mCall gTuple (mCons (mLDSort 5 (dV 8)) mNil)) (gN 10) (dE kind many steps turns s hs ds [s7, .p (.int c), .p (.int o), s10, s11, s12, .un, .un]) = some (.nx, dE kind many steps turns s hs ds [s7, .p (.int c), .p (.int o), .p (vD (sortI a)), s11, s12, .un, .un]) := by
  have S1 := fun (E : MM.Env) => ldsort_hs (E := E) (i := 5) (mc := dV 8) ha
  simp [-List.map_map, -mLDSort_run, S1]
  rfl
theorem it_test (b : Bool) : gEq (.str (lab b)) (.str "it") = some (.p (.bool b)) := by
  cases b
  · exact (gEq_s (by decide +kernel) (by decide +kernel)).trans (by rw [show PyData.eqv (.str (lab false)) (.str "it") = false by decide +kernel])
  · exact (gEq_s (by decide +kernel) (by decide +kernel)).trans (by rw [show PyData.eqv (.str (lab true)) (.str "it") = true by decide +kernel])
theorem st4 (s : Slot) (hs : List (List Pr)) (ds : List De) (s7 s11 s12 : Slot) (c o : Nat) (v : List Pr) (hv : v.length ≤ 1000) (hd : ds.length ≤ 1000) : sAsg (mCompB [13] 6 (tgP (gN 13)) (mAndT (mTest (mOp gEq (mOp gIdx (mVar 13) (mC (.int 2))) (mC (.str "it")))) (mTruth (mFnF m__law_has (mCons (mVar 10) (mCons (mOp gIdx (mVar 13) (mC (.int 0))) mNil))))) (mVar 13)) (gN 11) (dE kind many steps turns s hs ds [s7, .p (.int c), .p (.int o), .p (vD v), s11, s12, .un, .un]) = some (.nx, dE kind many steps turns s hs ds [s7, .p (.int c), .p (.int o), .p (vD v), .l (((ds.filter fun y => y.it && hasB v y.dot).map De.d).map .p), s12, .un, .un]) := by
  have hc := compM_run (own := [13]) (tg := (tgP (gN 13))) (mt := (mAndT (mTest (mOp gEq (mOp gIdx (mVar 13) (mC (.int 2))) (mC (.str "it")))) (mTruth (mFnF m__law_has (mCons (mVar 10) (mCons (mOp gIdx (mVar 13) (mC (.int 0))) mNil)))))) (me := (mVar 13)) De.d (fun y => y.it && hasB v y.dot) De.d ([s, .p (.str kind), .p (.int many), .p (.int steps), .p (.bool turns), .l (hS hs), .un] ++ [s7, .p (.int c), .p (.int o), .p (vD v), s11, s12, .un, .un]) ds [] (fun x hx =>
    ⟨[s, .p (.str kind), .p (.int many), .p (.int steps), .p (.bool turns), .l (hS hs), .un] ++ [s7, .p (.int c), .p (.int o), .p (vD v), s11, s12, .p x.d, .un], [s, .p (.str kind), .p (.int many), .p (.int steps), .p (.bool turns), .l (hS hs), .un] ++ [s7, .p (.int c), .p (.int o), .p (vD v), s11, s12, .p x.d, .un], rfl, by
      cases q : x.it <;> simp [it_test, q, law_has_eq _ _ (show v.length ≤ 1000000 by omega)], fun _ => rfl, fun _ => ⟨.val (.p x.d), [s, .p (.str kind), .p (.int many), .p (.int steps), .p (.bool turns), .l (hS hs), .un] ++ [s7, .p (.int c), .p (.int o), .p (vD v), s11, s12, .p x.d, .un], rfl, rfl, rfl⟩⟩)
  have hm : mCompB [13] 6 (tgP (gN 13)) (mAndT (mTest (mOp gEq (mOp gIdx (mVar 13) (mC (.int 2))) (mC (.str "it")))) (mTruth (mFnF m__law_has (mCons (mVar 10) (mCons (mOp gIdx (mVar 13) (mC (.int 0))) mNil))))) (mVar 13) (dE kind many steps turns s hs ds [s7, .p (.int c), .p (.int o), .p (vD v), s11, s12, .un, .un]) = some (.ok (.val (.l (((ds.filter fun y => y.it && hasB v y.dot).map De.d).map .p))), dE kind many steps turns s hs ds [s7, .p (.int c), .p (.int o), .p (vD v), s11, s12, .un, .un]) := by
    have hz : (ds.map De.d).length ≤ 1000000 ∧ 6 ∉ [13] := ⟨by rw [List.length_map]; omega, by decide⟩
    unfold mCompB
    show ((allP ((ds.map De.d).map .p)).bind fun ds => _) = _
    rw [allP_map, Option.bind_some, if_pos hz]
    have hc' : compM [13] (tgP (gN 13)) (mAndT (mTest (mOp gEq (mOp gIdx (mVar 13) (mC (.int 2))) (mC (.str "it")))) (mTruth (mFnF m__law_has (mCons (mVar 10) (mCons (mOp gIdx (mVar 13) (mC (.int 0))) mNil))))) (mVar 13) (ds.map De.d) [] (wipeE ((dE kind many steps turns s hs ds [s7, .p (.int c), .p (.int o), .p (vD v), s11, s12, .un, .un]).set 6 .un) [13]) = _ := hc
    rw [hc']
    rfl
  unfold sAsg bndS
  rw [hm]
  rfl
theorem st5 (s : Slot) (hs : List (List Pr)) (ds : List De) (s7 s10 s11 s12 : Slot) (c o : Nat) (h : DrawOK s) : ∃ (b : Bool) (s' : Slot), DrawOK s' ∧ sAsg (mFrz (mIf (mTest (mOp gEq (mFnL m__law_take (mCons (mVar 0) (mCons (mC (.int 6)) mNil))) (mC (.int 0)))) (mC (.str "also")) (mC (.str "it")))) (gN 12) (dE kind many steps turns s hs ds [s7, .p (.int c), .p (.int o), s10, s11, s12, .un, .un]) = some (.nx, dE kind many steps turns s' hs ds [s7, .p (.int c), .p (.int o), s10, s11, .p (.str (lab b)), .un, .un]) := by
  obtain ⟨r, s1, h1, r0, r1, q1⟩ := takeL s 6 h (by decide) (by decide)
  have q1 := fun t => q1 (mC (.int 6)) t rfl
  by_cases hr : r = 0
  · subst hr
    refine ⟨false, s1, h1, ?_⟩
    simp [-mFnL_run, -List.map_map, q1]
    rfl
  · have hr2 : (r == 0) = false := beq_eq_false_iff_ne.mpr hr
    refine ⟨true, s1, h1, ?_⟩
    simp [-mFnL_run, -List.map_map, q1, hr2]
    rfl
theorem st6 (s : Slot) (hs : List (List Pr)) (ds : List De) (s7 s10 s11 s12 : Slot) (c o : Nat) (a : List Pr) (ha : hs[c]? = some a) (la : a.length ≤ 1000) : sLDSet 5 (mOp gAdd (mLDGet 5 (dV 8) (dV 8) (dC (.int 0))) (mC (.int 1))) (dV 8) (dV 8) (dE kind many steps turns s hs ds [s7, .p (.int c), .p (.int o), s10, s11, s12, .un, .un]) = some (.nx, dE kind many steps turns s (hs.set c (putI a c ((getI a c).getD 0 + 1))) ds [s7, .p (.int c), .p (.int o), s10, s11, s12, .un, .un]) := by
  have G1 := fun (E : MM.Env) => ldget_hs (E := E) (i := 5) (k := (c : Int)) (mc := dV 8) (mk := dV 8) ha
  refine (ldset_hs (k := (c : Int)) (n := (getI a c).getD 0 + 1) (h := a) ha la ?_ rfl rfl rfl).trans rfl
  simp [-List.map_map, -mLDGet_run, G1]
theorem getI_put (l : List Pr) (k n : Int) : getI (putI l k n) k = some n := by
  unfold putI
  split
  · rename_i h
    induction l with
    | nil => cases h
    | cons p l ih =>
      unfold getI
      rw [List.map_cons, List.find?_cons]
      by_cases q : p.1 = k
      · rw [if_pos q]
        have : ((p.1, n).1 == k) = true := beq_iff_eq.mpr q
        rw [this]; rfl
      · rw [if_neg q]
        have : (p.1 == k) = false := beq_eq_false_iff_ne.mpr q
        rw [this]
        rw [List.any_cons, this, Bool.false_or] at h
        exact ih h
  · rename_i h
    unfold getI
    rw [List.find?_append]
    have : l.find? (fun p => p.1 == k) = none := by
      rw [List.find?_eq_none]
      intro p hp z
      exact h (List.any_eq_true.mpr ⟨p, hp, z⟩)
    rw [this]
    simp
theorem st7 {P : List De → Str → List PyData → Prop} (hw : WhatFor kind turns P) (s : Slot) (hs : List (List Pr)) (ds : List De) (s7 : Slot) (c o : Nat) (a v : List Pr) (n : Int) (kn : List De) (b : Bool) (h : DrawOK s) (ha : hs[c]? = some a) (hn : getI a c = some n) (hk : kn.length ≤ 1000) (ho : ∀ x ∈ kn, x.OK) (hd : ds.length ≤ 1000) : ∃ (w : Str) (rest : List PyData) (s' s11 : Slot), DrawOK s' ∧ (b = true → P kn w rest) ∧ (b = false → w = "more" ∧ rest = [.int 1]) ∧ Tame 3 1000 (.tuple (.str w :: rest)) ∧
   sApp 6 (mTup (mCons (mTup (mCons (mVar 8) (mCons (mLDIx 5 (dV 8) (dV 8)) mNil))) (mCons (mVar 10) (mCons (mVar 12) (mCons (mIf (mTest (mOp gEq (mVar 12) (mC (.str "it")))) (mFnLF m__law_what (mCons (mVar 0) (mCons (mVar 1) (mCons (mVar 11) (mCons (mVar 4) mNil))))) (mTup (mCons (mC (.str "more")) (mCons (mC (.int 1)) mNil)))) mNil))))) (dE kind many steps turns s hs ds [s7, .p (.int c), .p (.int o), .p (vD v), .l ((kn.map De.d).map .p), .p (.str (lab b)), .un, .un]) = some (.nx, dE kind many steps turns s' hs (ds ++ [⟨((c : Int), n), v, b, w, rest⟩]) [s7, .p (.int c), .p (.int o), .p (vD v), s11, .p (.str (lab b)), .un, .un]) := by
  have I1 := fun (E : MM.Env) => ldix_hs (E := E) (i := 5) (k := (c : Int)) (mc := dV 8) (mk := dV 8) ha hn
  have lb := it_test b
  have sm : smallL (ds.map De.d).length = true := by rw [List.length_map]; exact decide_eq_true (by omega)
  cases b with
  | false =>
    refine ⟨"more", [.int 1], s, .l ((kn.map De.d).map .p), h, fun z => (nomatch z), fun _ => ⟨rfl, rfl⟩, tame_w (by decide) (fun d hd => ?_) (by decide), ?_⟩
    · rw [List.mem_singleton.mp hd]; exact Tame.mono (Tame.int (by omega) (by omega)) (by decide) (by decide)
    · simp [-List.map_map, -mLDIx_run, I1, lb, sm]
      exact ⟨decide_eq_true (by omega), rfl⟩
  | true =>
    obtain ⟨w, rest, s', t, h', p', tw, e⟩ := hw s kn h hk ho
    refine ⟨w, rest, s', .p (.list (kn.map De.d)), h', fun _ => p', fun z => (nomatch z), tw, ?_⟩
    obtain ⟨cells, i, cur, seed, bb, rfl⟩ := h
    have e' : m__law_what [.l ((drD cells i cur seed).map .p), .p (.str kind), .p (.list (kn.map De.d)), .p (.bool turns)] = some (.ok (.p (.tuple (.str w :: rest))), s' :: t) := e
    simp [-List.map_map, -mLDIx_run, I1, lb, sm, drS, e']
    exact ⟨decide_eq_true (by omega), rfl⟩
def dLoop : StM := (sSeq (sAsg (mTup (mCons (mFnL m__law_take (mCons (mVar 0) (mCons (mVar 2) mNil))) (mCons (mFnL m__law_take (mCons (mVar 0) (mCons (mVar 2) mNil))) mNil))) (gT 2 (gsCons (gN 8) (gsCons (gN 9) gsNil))))
 (sSeq (sIf (mTest (mOp gEq (mFnL m__law_take (mCons (mVar 0) (mCons (mC (.int 3)) mNil))) (mC (.int 0))))
 (sSetL 5 (mCall gDict (mCons (mComp [14] (mSeq (mOp gAdd (mLDKeys 5 (dV 8)) (mLDKeys 5 (dV 9)))) (tgP (gN 14)) mYes (mTup (mCons (mVar 14) (mCons (mCall gMax2 (mCons (mLDGet 5 (dV 8) (dV 14) (dC (.int 0))) (mCons (mLDGet 5 (dV 9) (dV 14) (dC (.int 0))) mNil))) mNil)))) mNil)) (mVar 8))
 sNx)
 (sSeq (sAsg (mCall gTuple (mCons (mLDSort 5 (dV 8)) mNil)) (gN 10))
 (sSeq (sAsg (mCompB [13] 6 (tgP (gN 13)) (mAndT (mTest (mOp gEq (mOp gIdx (mVar 13) (mC (.int 2))) (mC (.str "it")))) (mTruth (mFnF m__law_has (mCons (mVar 10) (mCons (mOp gIdx (mVar 13) (mC (.int 0))) mNil))))) (mVar 13)) (gN 11))
 (sSeq (sAsg (mFrz (mIf (mTest (mOp gEq (mFnL m__law_take (mCons (mVar 0) (mCons (mC (.int 6)) mNil))) (mC (.int 0)))) (mC (.str "also")) (mC (.str "it")))) (gN 12))
 (sSeq (sLDSet 5 (mOp gAdd (mLDGet 5 (dV 8) (dV 8) (dC (.int 0))) (mC (.int 1))) (dV 8) (dV 8))
 (sApp 6 (mTup (mCons (mTup (mCons (mVar 8) (mCons (mLDIx 5 (dV 8) (dV 8)) mNil))) (mCons (mVar 10) (mCons (mVar 12) (mCons (mIf (mTest (mOp gEq (mVar 12) (mC (.str "it")))) (mFnLF m__law_what (mCons (mVar 0) (mCons (mVar 1) (mCons (mVar 11) (mCons (mVar 4) mNil))))) (mTup (mCons (mC (.str "more")) (mCons (mC (.int 1)) mNil)))) mNil))))))))))))
theorem DInv.ok {many : Nat} {ds : List De} {x : De} (i : DInv many ds x) (hm : many ≤ 1000) (hd : ds.length ≤ 1000) : x.OK := by
  have h1 := i.n1
  have h2 := num_le ds x.dot.1
  have := i.c0; have := i.c1; have := i.n0
  exact ⟨by omega, by omega, by omega, by omega, i.tw⟩
theorem Inv.sort_len {many : Nat} {ds : List De} {h : List Pr} (i : HInv many ds h) : (sortI h).length ≤ many := by
  rw [(sortI_perm h).length_eq]; exact i.len
theorem turn_eq {P : List De → Str → List PyData → Prop} (hw : WhatFor kind turns P) (s : Slot) (hs : List (List Pr)) (ds : List De) (s7 s8 s9 s10 s11 s12 : Slot) (h : DrawOK s) (H : Hist many P hs ds) (hm : 0 < many) (hm2 : many < 1000) (hd : ds.length < 1000) :
    ∃ s' hs' x s8' s9' s10' s11' s12', DrawOK s' ∧ Hist many P hs' (ds ++ [x]) ∧ dLoop (dE kind many steps turns s hs ds [s7, s8, s9, s10, s11, s12, .un, .un]) = some (.nx, dE kind many steps turns s' hs' (ds ++ [x]) [s7, s8', s9', s10', s11', s12', .un, .un]) := by
  have I := H.inv
  obtain ⟨c, o, s1, h1, c1, o1, e1⟩ := st1 kind many steps turns s hs ds s7 s8 s9 s10 s11 s12 h hm hm2
  obtain ⟨a, ha⟩ : ∃ a, hs[c]? = some a := ⟨hs[c]'(by rw [I.len]; exact c1), List.getElem?_eq_getElem _⟩
  obtain ⟨b, hb⟩ : ∃ b, hs[o]? = some b := ⟨hs[o]'(by rw [I.len]; exact o1), List.getElem?_eq_getElem _⟩
  have Ia := I.heard a (List.mem_of_getElem? ha)
  have Ib := I.heard b (List.mem_of_getElem? hb)
  have la := Ia.len
  have lb := Ib.len
  obtain ⟨p, s2, h2, hp, e2⟩ := st2 kind many steps turns s1 hs ds s7 s10 s11 s12 c o a b h1 ha hb (by omega) (by omega)
  have Ip : HInv many ds p := by
    rcases hp with rfl | rfl
    · exact ⟨mrg_nd a b, mrg_pos Ia.nd Ib.nd Ia.pos Ib.pos, fun c' => by
        rw [mrg_cnt Ia.nd Ib.nd]
        have := Ia.le c'; have := Ib.le c'; omega⟩
    · exact Ia
  have lp := Ip.len
  have hlt : c < hs.length := by rw [I.len]; exact c1
  have hp1 : (hs.set c p)[c]? = some p := List.getElem?_set_self hlt
  have e3 := st3 kind many steps turns s2 (hs.set c p) ds s7 s10 s11 s12 c o p hp1
  have sl := Inv.sort_len Ip
  have e4 := st4 kind many steps turns s2 (hs.set c p) ds s7 s11 s12 c o (sortI p) (by omega) (by omega)
  obtain ⟨it, s3, h3, e5⟩ := st5 kind many steps turns s2 (hs.set c p) ds s7 (.p (vD (sortI p))) (.l (((ds.filter fun y => y.it && hasB (sortI p) y.dot).map De.d).map .p)) s12 c o h2
  have e6 := st6 kind many steps turns s3 (hs.set c p) ds s7 (.p (vD (sortI p))) (.l (((ds.filter fun y => y.it && hasB (sortI p) y.dot).map De.d).map .p)) (.p (.str (lab it))) c o p hp1 (by omega)
  have hq : ((hs.set c p).set c (putI p c ((getI p c).getD 0 + 1)))[c]? = some (putI p c ((getI p c).getD 0 + 1)) := List.getElem?_set_self (by rw [List.length_set]; exact hlt)
  obtain ⟨w, rest, s4, s11', h4, p1, p2, tw, e7⟩ := st7 kind many steps turns hw s3 ((hs.set c p).set c (putI p c ((getI p c).getD 0 + 1))) ds s7 c o _ (sortI p) ((getI p c).getD 0 + 1) (ds.filter fun y => y.it && hasB (sortI p) y.dot) it h3 hq (getI_put _ _ _)
    (Nat.le_trans (List.length_filter_le _ _) (by omega)) (fun x hx => (I.deed x (List.mem_filter.mp hx).1).ok (by omega) (by omega)) (by omega)
  refine ⟨s4, (hs.set c p).set c (putI p c ((getI p c).getD 0 + 1)), ⟨((c : Int), (getI p c).getD 0 + 1), sortI p, it, w, rest⟩, .p (.int c), .p (.int o), .p (vD (sortI p)), s11', .p (.str (lab it)), h4, ?_, ?_⟩
  · rw [List.set_set]
    exact Hist.step (x := ⟨((c : Int), (getI p c).getD 0 + 1), sortI p, it, w, rest⟩) c o a b p H ha hb hp rfl rfl p1 p2 tw
  · unfold dLoop
    refine seq_nx e1 (seq_nx e2 (seq_nx e3 (seq_nx e4 (seq_nx e5 (seq_nx e6 e7)))))
theorem loop_eq {P : List De → Str → List PyData → Prop} (hw : WhatFor kind turns P) (hm : 0 < many) (hm2 : many < 1000) (hst : steps < 1000) (s : Slot) (h : DrawOK s) : ∃ E', forM (tgP (gN 7)) dLoop ((rgI 0 steps).map .int) (dE kind many steps turns s (List.replicate many []) [] [.un, .un, .un, .un, .un, .un, .un, .un]) = some (.nx, E') ∧ ∃ s hs ds s7 s8 s9 s10 s11 s12, DrawOK s ∧ Hist many P hs ds ∧ ds.length = steps ∧ E' = dE kind many steps turns s hs ds [s7, s8, s9, s10, s11, s12, .un, .un] := by
  have hl : (rgI 0 (steps : Int)).length = steps := by rw [rgI_len]; omega
  obtain ⟨E', h1, s, hs, ds, s7, s8, s9, s10, s11, s12, h2, h3, h4, h5⟩ := forM_inv (tg := tgP (gN 7)) (mb := dLoop) PyData.int
    (fun done E => ∃ s hs ds s7 s8 s9 s10 s11 s12, DrawOK s ∧ Hist many P hs ds ∧ ds.length = done.length ∧ E = dE kind many steps turns s hs ds [s7, s8, s9, s10, s11, s12, .un, .un]) (rgI 0 (steps : Int)) (fun done x rest E e h => by
      obtain ⟨s, hs, ds, s7, s8, s9, s10, s11, s12, h1, H, hd, rfl⟩ := h
      have le := congrArg List.length e
      rw [List.length_append, List.length_cons, hl] at le
      obtain ⟨s', hs', y, s8', s9', s10', s11', s12', h2, H2, e2⟩ := turn_eq kind many steps turns hw s hs ds (.p (.int x)) s8 s9 s10 s11 s12 h1 H hm hm2 (by omega)
      exact ⟨dE kind many steps turns s hs ds [.p (.int x), s8, s9, s10, s11, s12, .un, .un], _, .nx, rfl, e2, .inl rfl, s', hs', ds ++ [y], _, _, _, _, _, _, h2, H2, by rw [List.length_append, List.length_append, hd]; rfl, rfl⟩)
    (dE kind many steps turns s (List.replicate many []) [] [.un, .un, .un, .un, .un, .un, .un, .un]) ⟨s, _, [], _, _, _, _, _, _, h, Hist.nil, rfl, rfl⟩
  exact ⟨E', h1, s, hs, ds, s7, s8, s9, s10, s11, s12, h2, h3, h4.trans hl, h5⟩
end
theorem heard0 (E : MM.Env) (h8 : E[8]? = some .un) : ∀ (xs : List Int) (acc : List Slot), compS [8] (tgP (gN 8)) mYes mDNew (xs.map .int) acc E = some (acc ++ List.replicate xs.length (.m []), E)
  | [], acc => by simp [compS]
  | x :: xs, acc => by
    have h8' : 8 < E.length := (List.getElem?_eq_some_iff.mp h8).1
    have e1 : tgP (gN 8) (.int x) E = some (E.set 8 (.p (.int x))) := by
      show gN 8 _ _ = _
      unfold gN
      rw [if_pos h8']
    have e2 : wipeE (E.set 8 (.p (.int x))) [8] = E := by
      show (E.set 8 (.p (.int x))).set 8 .un = E
      rw [List.set_set]
      apply List.ext_getElem?
      intro j
      by_cases hj : 8 = j
      · subst hj; rw [List.getElem?_set_self h8']; exact h8.symm
      · rw [List.getElem?_set_ne hj]
    rw [List.map_cons]
    unfold compS
    rw [e1, Option.bind_some]
    show compS [8] (tgP (gN 8)) mYes mDNew (xs.map .int) (acc ++ [(Slot.m []).fz]) (wipeE (E.set 8 (.p (.int x))) [8]) = _
    rw [e2, heard0 E h8 xs, List.append_assoc]
    rfl
theorem law_deeds_eq {kind : Str} {many steps : Nat} {turns : Bool} {P : List De → Str → List PyData → Prop} (hw : WhatFor kind turns P) (hm : 0 < many) (hm2 : many < 1000) (hst : steps < 1000) (s : Slot) (h : DrawOK s) :
    ∃ s' hs ds t, DrawOK s' ∧ Hist many P hs ds ∧ ds.length = steps ∧ m__law_deeds [s, .p (.str kind), .p (.int many), .p (.int steps), .p (.bool turns)] = some (.ok (.l ((ds.map De.d).map .p)), s' :: t) := by
  obtain ⟨E', e2, s', hs, ds, s7, s8, s9, s10, s11, s12, h2, H, hl, rfl⟩ := loop_eq kind many steps turns hw hm hm2 hst s h
  refine ⟨s', hs, ds, [.p (.str kind), .p (.int many), .p (.int steps), .p (.bool turns)], h2, H, hl, ?_⟩
  refine fn_rt (e := (dE kind many steps turns s' hs ds [s7, s8, s9, s10, s11, s12, .un, .un]).set 6 .un) rfl ?_
  show mb__law_deeds ([s, .p (.str kind), .p (.int many), .p (.int steps), .p (.bool turns)] ++ List.replicate 10 .un) = _
  unfold mb__law_deeds
  have c0 := heard0 ([s, .p (.str kind), .p (.int many), .p (.int steps), .p (.bool turns)] ++ List.replicate 10 .un) rfl (rgI 0 many) []
  have hl2 : (rgI 0 (many : Int)).length = many := by rw [rgI_len]; omega
  rw [hl2, List.nil_append] at c0
  have hz : (rgI 0 (many : Int)).length ≤ 1000000 := by omega
  have hr : List.replicate many (Slot.m []) = hS (List.replicate many []) := by unfold hS; rw [List.map_replicate]; rfl
  rw [hr] at c0
  refine seq_nx (e := dE kind many steps turns s (List.replicate many []) [] [.un, .un, .un, .un, .un, .un, .un, .un]) ?_ (seq_nx (e := dE kind many steps turns s' hs ds [s7, s8, s9, s10, s11, s12, .un, .un]) ?_ ?_)
  · have c0' : compS [8] (tgP (gN 8)) mYes mDNew ((rgI 0 (many : Int)).map .int) [] [s, .p (.str kind), .p (.int many), .p (.int steps), .p (.bool turns), .un, .un, .un, .un, .un, .un, .un, .un, .un, .un] = _ := c0
    simp [rng1_run (j := (many : Int)) (by omega) (by omega), hz, c0']
  · show sFor (mRng rng1 (mCons (mVar 3) mNil)) (tgP (gN 7)) dLoop _ = _
    simp [-List.map_map, rng1_run (j := (steps : Int)) (by omega) (by omega)]
    exact e2
  · rfl
end Drw
namespace Knd
open PySem PySem.Spec L2 MM
def mb_are_letters : StM := (sRet (mAnd (mIsi ["str"] (mVar 0)) (mAnd (mOp gLeI (mCall gLen (mCons (mVar 0) mNil)) (mVar 1)) (mCall gAll (mCons (mComp [2] (mSeq (mVar 0)) (tgP (gN 2)) mYes (mChain gLeS gLeS (mC (.str "a")) (mVar 2) (mC (.str "z")))) mNil)))))
abbrev N_are_letters : List Str := ["value", "most", "sign"]
def m_are_letters : FnM := runB 2 N_are_letters.length mb_are_letters
def mb_is_label : StM := (sRet (mAnd (mFn m_are_letters (mCons (mVar 0) (mCons (mC (.int 8)) mNil))) (mOp gNe (mVar 0) (mC (.str "")))))
abbrev N_is_label : List Str := ["value"]
def m_is_label : FnM := runB 1 N_is_label.length mb_is_label
def mb_is_integer : StM := (sSeq (sIf (mOrT (mNotT (mTruth (mIsi ["int"] (mVar 0)))) (mTruth (mIsi ["bool"] (mVar 0))))
 (sRet (mC (.bool false)))
 sNx)
 (sRet (mAnd (mOr (mOp (gIs false) (mVar 1) (mC .none)) (mOp gGeI (mVar 0) (mVar 1))) (mOr (mOp (gIs false) (mVar 2) (mC .none)) (mOp gLeI (mVar 0) (mVar 2))))))
abbrev N_is_integer : List Str := ["value", "low", "high"]
def m_is_integer : FnM := runB 3 N_is_integer.length mb_is_integer
def mb_is_value : StM := (sRet (mOr (mFn m_is_integer (mCons (mVar 0) (mCons (mC .none) (mCons (mC .none) mNil)))) (mFn m_are_letters (mCons (mVar 0) (mCons (mC (.int 40)) mNil)))))
abbrev N_is_value : List Str := ["value"]
def m_is_value : FnM := runB 1 N_is_value.length mb_is_value
def mb_is_copy : StM := (sRet (mFn m_is_integer (mCons (mVar 0) (mCons (mC (.int 0)) (mCons (mOp (gI fun i j => some (.int (i - j))) (mC (.int 8)) (mC (.int 1))) mNil)))))
abbrev N_is_copy : List Str := ["value"]
def m_is_copy : FnM := runB 1 N_is_copy.length mb_is_copy
def mb_is_dot : StM := (sRet (mAnd (mIsi ["tuple"] (mVar 0)) (mAnd (mOp gEq (mCall gLen (mCons (mVar 0) mNil)) (mC (.int 2))) (mAnd (mFn m_is_copy (mCons (mOp gIdx (mVar 0) (mC (.int 0))) mNil)) (mFn m_is_integer (mCons (mOp gIdx (mVar 0) (mC (.int 1))) (mCons (mC (.int 1)) (mCons (mC .none) mNil))))))))
abbrev N_is_dot : List Str := ["value"]
def m_is_dot : FnM := runB 1 N_is_dot.length mb_is_dot
def mb_fits_words : StM := (sSeq (sPar 2 3 (mCons (mOp gIdx (mVar 1) (mC (.int 0))) (mCons (mSlice (mVar 1) (mPart (mC (.int 1))) mNoPart) mNil)))
 (sSeq (sIf (mTest (mOp gEq (mVar 0) (mC (.str "counter"))))
 (sRet (mAnd (mOp gEq (mVar 2) (mC (.str "more"))) (mAnd (mOp gEq (mCall gLen (mCons (mVar 3) mNil)) (mC (.int 1))) (mFn m_is_integer (mCons (mOp gIdx (mVar 3) (mC (.int 0))) (mCons (mC .none) (mCons (mC .none) mNil)))))))
 sNx)
 (sSeq (sIf (mTest (mOp (gIn false) (mVar 0) (mTup (mCons (mC (.str "last")) (mCons (mC (.str "choices")) mNil)))))
 (sRet (mAnd (mOp gEq (mVar 2) (mC (.str "set"))) (mAnd (mOp gEq (mCall gLen (mCons (mVar 3) mNil)) (mC (.int 1))) (mFn m_is_value (mCons (mOp gIdx (mVar 3) (mC (.int 0))) mNil)))))
 sNx)
 (sSeq (sIf (mTest (mOp (gIn false) (mVar 0) (mTup (mCons (mC (.str "keeps")) (mCons (mC (.str "drops")) mNil)))))
 (sRet (mAnd (mOp (gIn false) (mVar 2) (mTup (mCons (mC (.str "add")) (mCons (mC (.str "drop")) mNil)))) (mAnd (mOp gEq (mCall gLen (mCons (mVar 3) mNil)) (mC (.int 1))) (mFn m_is_value (mCons (mOp gIdx (mVar 3) (mC (.int 0))) mNil)))))
 sNx)
 (sSeq (sIf (mTest (mOp gEq (mVar 0) (mC (.str "flag"))))
 (sRet (mAnd (mOp (gIn false) (mVar 2) (mTup (mCons (mC (.str "on")) (mCons (mC (.str "off")) mNil)))) (mNot (mVar 3))))
 sNx)
 (sSeq (sIf (mTest (mOp gEq (mVar 0) (mC (.str "map"))))
 (sSeq (sIf (mTest (mOp gEq (mVar 2) (mC (.str "drop"))))
 (sRet (mAnd (mOp gEq (mCall gLen (mCons (mVar 3) mNil)) (mC (.int 1))) (mFn m_is_value (mCons (mOp gIdx (mVar 3) (mC (.int 0))) mNil))))
 sNx)
 (sRet (mAnd (mOp gEq (mVar 2) (mC (.str "put"))) (mAnd (mOp gEq (mCall gLen (mCons (mVar 3) mNil)) (mC (.int 2))) (mAnd (mFn m_is_value (mCons (mOp gIdx (mVar 3) (mC (.int 0))) mNil)) (mFn m_is_value (mCons (mOp gIdx (mVar 3) (mC (.int 1))) mNil)))))))
 sNx)
 (sSeq (sIf (mTest (mOp gEq (mVar 0) (mC (.str "list"))))
 (sSeq (sIf (mTest (mOp gEq (mVar 2) (mC (.str "cut"))))
 (sRet (mAnd (mOp gEq (mCall gLen (mCons (mVar 3) mNil)) (mC (.int 1))) (mFn m_is_dot (mCons (mOp gIdx (mVar 3) (mC (.int 0))) mNil))))
 sNx)
 (sSeq (sAsg (mAnd (mOp gEq (mVar 2) (mC (.str "put"))) (mAnd (mOp gEq (mCall gLen (mCons (mVar 3) mNil)) (mC (.int 2))) (mFn m_is_value (mCons (mOp gIdx (mVar 3) (mC (.int 1))) mNil)))) (gN 4))
 (sRet (mAnd (mVar 4) (mOr (mOp (gIs false) (mOp gIdx (mVar 3) (mC (.int 0))) (mC .none)) (mFn m_is_dot (mCons (mOp gIdx (mVar 3) (mC (.int 0))) mNil)))))))
 sNx)
 (sRet (mAnd (mOp gEq (mVar 2) (mC (.str "move"))) (mAnd (mOp gEq (mCall gLen (mCons (mVar 3) mNil)) (mC (.int 2))) (mAnd (mFn m_is_label (mCons (mOp gIdx (mVar 3) (mC (.int 0))) mNil)) (mFn m_is_label (mCons (mOp gIdx (mVar 3) (mC (.int 1))) mNil)))))))))))))
abbrev N_fits_words : List Str := ["kind", "what", "word", "rest", "fine"]
def m_fits_words : FnM := runB 2 N_fits_words.length mb_fits_words
def mb_fits_kind : StM := (sSeq (sIf (mOrT (mNotT (mTruth (mIsi ["tuple"] (mVar 1)))) (mOrT (mTest (mOp gEq (mCall gLen (mCons (mVar 1) mNil)) (mC (.int 0)))) (mNotT (mTruth (mIsi ["str"] (mOp gIdx (mVar 1) (mC (.int 0))))))))
 (sRet (mC (.bool false)))
 sNx)
 (sSeq (sIf (mTest (mOp (gIn false) (mOp gIdx (mVar 1) (mC (.int 0))) (mC (.tuple [(.str "undo"), (.str "redo")]))))
 (sRet (mAnd (mOp gEq (mCall gLen (mCons (mVar 1) mNil)) (mC (.int 2))) (mFn m_is_dot (mCons (mOp gIdx (mVar 1) (mC (.int 1))) mNil))))
 sNx)
 (sRet (mFn m_fits_words (mCons (mVar 0) (mCons (mVar 1) mNil))))))
abbrev N_fits_kind : List Str := ["kind", "what"]
def m_fits_kind : FnM := runB 2 N_fits_kind.length mb_fits_kind
end Knd
/-! P_KND: what fits a kind (fits_kind and what it calls), on small data -/
namespace Knd
open PySem PySem.Spec L2 MM
/-- small data -/
def Sm (d : PyData) : Prop := tm d = true ∧ sw d ≤ 60000
theorem sm_str {s : Str} (h : Sm (.str s)) : SeqAt.shaped (.str s) = true ∧ s.length ≤ 60000 :=
  ⟨Tame.shaped (k := 3) (n := s.cps.size) ⟨h.1, Nat.le_refl _, by simp [PyData.depth]⟩ (by decide), h.2⟩
theorem sm_cons {d : PyData} {ds : List PyData} (h : Sm (.tuple (d :: ds))) : Sm d ∧ Sm (.tuple ds) := by
  obtain ⟨h1, h2⟩ := h
  have h1 : (tm d && tmAll ds) = true := h1
  rw [Bool.and_eq_true] at h1
  have h2 : sw d + 1 + swAll ds ≤ 60000 := h2
  exact ⟨⟨h1.1, by omega⟩, ⟨h1.2, by show swAll ds ≤ 60000; omega⟩⟩
def isAny (d : PyData) : Bool := match d with
  | .int _ => true
  | _ => false
theorem is_any_eq (d : PyData) : m_is_integer [.p d, .p .none, .p .none] = some (.ok (.p (.bool (isAny d))), [.p d, .p .none, .p .none]) := by
  refine fn_rt (e := [.p d, .p .none, .p .none]) rfl ?_
  show mb_is_integer [.p d, .p .none, .p .none] = _
  unfold mb_is_integer
  cases d <;> simp [tyD, isAny, gIs, isDat, isN, truD]
theorem is_dot_eq (d : PyData) : m_is_dot [.p d] = some (.ok (.p (.bool (Com.isDot d))), [.p d]) := Com.is_dot_eq d
def letB (c : Nat) : Bool := (!decide ((⟨#[c]⟩ : Str).cps.toList < ("a" : Str).cps.toList)) && !decide (("z" : Str).cps.toList < (⟨#[c]⟩ : Str).cps.toList)
def isLet (d : PyData) (most : Int) : Bool := match d with
  | .str s => decide ((s.length : Int) ≤ most) && s.cps.toList.all letB
  | _ => false
theorem are_letters_eq (d : PyData) (most : Int) (h : Sm d) : m_are_letters [.p d, .p (.int most)] = some (.ok (.p (.bool (isLet d most))), [.p d, .p (.int most)]) := by
  refine fn_rt (e := [.p d, .p (.int most), .un]) rfl ?_
  show mb_are_letters [.p d, .p (.int most), .un] = _
  unfold mb_are_letters
  cases d with
  | str s =>
    have hl := (sm_str h).2
    have hg : gLen [.str s] = some (.p (.int s.length)) := by
      show (if smallL s.length then _ else _) = _
      rw [show smallL s.length = true from decide_eq_true (by omega), if_pos rfl]
    have hc := compM_map (own := [2]) (tg := (tgP (gN 2))) (me := (mChain gLeS gLeS (mC (.str "a")) (mVar 2) (mC (.str "z")))) (fun c : Nat => PyData.str ⟨#[c]⟩) (fun c => .bool (letB c)) [.p (.str s), .p (.int most), .un] s.cps.toList [] (fun c hc =>
      ⟨[.p (.str s), .p (.int most), .p (.str ⟨#[c]⟩)], .val (.p (.bool (letB c))), [.p (.str s), .p (.int most), .p (.str ⟨#[c]⟩)], rfl, by
        have g1 : gLeS (.str "a") (.str ⟨#[c]⟩) = some (.p (.bool (!decide ((⟨#[c]⟩ : Str).cps.toList < ("a" : Str).cps.toList)))) := rfl
        have g2 : gLeS (.str ⟨#[c]⟩) (.str "z") = some (.p (.bool (!decide (("z" : Str).cps.toList < (⟨#[c]⟩ : Str).cps.toList)))) := rfl
        unfold letB
        generalize (!decide ((⟨#[c]⟩ : Str).cps.toList < ("a" : Str).cps.toList)) = b1 at g1
        generalize (!decide (("z" : Str).cps.toList < (⟨#[c]⟩ : Str).cps.toList)) = b2 at g2
        cases b1 <;> simp [mChain, g1, g2], rfl, rfl⟩)
    rw [List.nil_append] at hc
    have hz : s.cps.size ≤ 1000000 := by
      have : s.cps.size = s.length := rfl
      omega
    have hi : itD (.str s) = some (s.cps.toList.map fun c => .str ⟨#[c]⟩) := rfl
    cases q : decide ((s.length : Int) ≤ most) with
    | false =>
      simp [-List.map_map, tyD, hg, isLet, q]
    | true =>
      simp [-List.map_map, tyD, hg, isLet, q, hi, hc, hz]
  | _ => simp [tyD, isLet]
def isVal (d : PyData) : Bool := isAny d || isLet d 40
theorem is_value_eq (d : PyData) (h : Sm d) : m_is_value [.p d] = some (.ok (.p (.bool (isVal d))), [.p d]) := by
  refine fn_rt (e := [.p d]) rfl ?_
  show mb_is_value [.p d] = _
  unfold mb_is_value
  have e1 := is_any_eq d
  have e2 := are_letters_eq d 40 h
  unfold isVal
  cases q : isAny d <;> rw [q] at e1 <;> simp [e1, e2]
/-- texts are one -/
def eqS (a b : Str) : Bool := PyData.eqv (.str a) (.str b)
def isLab (d : PyData) : Bool := isLet d 8 && (match d with
  | .str s => !eqS s ""
  | _ => false)
theorem is_label_eq (d : PyData) (h : Sm d) : m_is_label [.p d] = some (.ok (.p (.bool (isLab d))), [.p d]) := by
  refine fn_rt (e := [.p d]) rfl ?_
  show mb_is_label [.p d] = _
  unfold mb_is_label
  have e2 := are_letters_eq d 8 h
  unfold isLab
  cases q : isLet d 8 with
  | false => rw [q] at e2; simp [e2]
  | true =>
    rw [q] at e2
    cases d with
    | str s =>
      have hg : gNe (.str s) (.str "") = some (.p (.bool (!eqS s ""))) := gNe_of (sm_str h).1 (by decide +kernel) rfl
      simp [e2, hg]
    | _ => cases q
def lenIs (n : Nat) (rest : List PyData) : Bool := rest.length == n
def at0 (rest : List PyData) : PyData := rest.getD 0 .none
def at1 (rest : List PyData) : PyData := rest.getD 1 .none
def isNon (d : PyData) : Bool := match d with
  | .none => true
  | _ => false
def fitsW (kind w : Str) (rest : List PyData) : Bool :=
  if eqS kind "counter" then eqS w "more" && (lenIs 1 rest && isAny (at0 rest))
  else if eqS "last" kind || eqS "choices" kind then eqS w "set" && (lenIs 1 rest && isVal (at0 rest))
  else if eqS "keeps" kind || eqS "drops" kind then (eqS "add" w || eqS "drop" w) && (lenIs 1 rest && isVal (at0 rest))
  else if eqS kind "flag" then (eqS "on" w || eqS "off" w) && rest.isEmpty
  else if eqS kind "map" then (if eqS w "drop" then lenIs 1 rest && isVal (at0 rest) else eqS w "put" && (lenIs 2 rest && (isVal (at0 rest) && isVal (at1 rest))))
  else if eqS kind "list" then (if eqS w "cut" then lenIs 1 rest && Com.isDot (at0 rest) else (eqS w "put" && (lenIs 2 rest && isVal (at1 rest))) && (isNon (at0 rest) || Com.isDot (at0 rest)))
  else eqS w "move" && (lenIs 2 rest && (isLab (at0 rest) && isLab (at1 rest)))
theorem gEq_str {a b : Str} (ha : Sm (.str a)) (hb : SeqAt.shaped (.str b) = true) : gEq (.str a) (.str b) = some (.p (.bool (eqS a b))) := gEq_of (sm_str ha).1 hb rfl
theorem gIn_two {a b c : Str} (ha : Sm (.str a)) (hb : SeqAt.shaped (.tuple [.str b, .str c]) = true) : gIn false (.str a) (.tuple [.str b, .str c]) = some (.p (.bool (eqS b a || eqS c a))) := by
  show (if SeqAt.shaped (.str a) && SeqAt.shaped (.tuple [.str b, .str c]) then _ else _) = _
  rw [(sm_str ha).1, hb]
  show some (Slot.p (.bool (PyData.eqv (.str b) (.str a) || (PyData.eqv (.str c) (.str a) || false)))) = _
  rw [Bool.or_false]; rfl
theorem cut_tail (ds : List PyData) : cutD ds (some 1) none = ds.drop 1 := Com.cut_1 ds
theorem gLen_t (ds : List PyData) : gLen [.tuple ds] = some (.p (.int ds.length)) := rfl
theorem gIs_non (d : PyData) : gIs false d .none = some (.p (.bool (isNon d))) := by
  cases d <;> rfl
section
variable {E : MM.Env} {rest : List PyData}
theorem v3 (h : E[3]? = some (.p (.tuple rest))) : mVar 3 E = some (.ok (.val (.p (.tuple rest))), E) := by
  show (match E[3]? with
    | some (.p d) => some (Res.ok (Opd.val (.p d)), E)
    | some (.l _) => some (.ok (.ref 3), E)
    | some (.m _) => some (.ok (.ref 3), E)
    | _ => none) = _
  rw [h]
theorem ix3_0 {x : PyData} {r : List PyData} (h : E[3]? = some (.p (.tuple (x :: r)))) : mOp gIdx (mVar 3) (mC (.int 0)) E = some (.ok (.val (.p x)), E) := by
  have hv := v3 h
  have hi : gIdx (.tuple (x :: r)) (.int 0) = some (.p x) := Com.gIdx_t0 _ _
  simp [-mVar_run, hv, hi]
theorem ix3_1 {x y : PyData} {r : List PyData} (h : E[3]? = some (.p (.tuple (x :: y :: r)))) : mOp gIdx (mVar 3) (mC (.int 1)) E = some (.ok (.val (.p y)), E) := by
  have hv := v3 h
  have hi : gIdx (.tuple (x :: y :: r)) (.int 1) = some (.p y) := Com.gIdx_t1 _ _ _
  simp [-mVar_run, hv, hi]
theorem len3 (h : E[3]? = some (.p (.tuple rest))) (n : Int) : mOp gEq (mCall gLen (mCons (mVar 3) mNil)) (mC (.int n)) E = some (.ok (.val (.p (.bool ((rest.length : Int) == n)))), E) := by
  have hv := v3 h
  simp [-mVar_run, hv]
theorem mAnd_b {b : Bool} {ma mb : ExM} {E : MM.Env} (h : ma E = some (.ok (.val (.p (.bool b))), E)) : mAnd ma mb E = if b = true then mb E else some (.ok (.val (.p (.bool false))), E) := by
  rw [mAnd_run, bnd_ok h]
  cases b <;> rfl
theorem mOr_b {b : Bool} {ma mb : ExM} {E : MM.Env} (h : ma E = some (.ok (.val (.p (.bool b))), E)) : mOr ma mb E = if b = true then some (.ok (.val (.p (.bool true))), E) else mb E := by
  rw [mOr_run, bnd_ok h]
  cases b <;> rfl
theorem mFn1 {f : FnM} {d : PyData} {s : Slot} {t : List Slot} {ma : ExM} (h : ma E = some (.ok (.val (.p d)), E)) (hf : f [.p d] = some (.ok s, t)) : mFn f (mCons ma mNil) E = some (.ok (.val s), E) := by
  simp [h, hf]
theorem one_eq {f : FnM} {v : PyData → Bool} (hf : ∀ x, Sm x → f [.p x] = some (.ok (.p (.bool (v x))), [.p x])) (h : E[3]? = some (.p (.tuple rest))) (hr : Sm (.tuple rest)) : mAnd (mOp gEq (mCall gLen (mCons (mVar 3) mNil)) (mC (.int 1))) (mFn f (mCons (mOp gIdx (mVar 3) (mC (.int 0))) mNil)) E = some (.ok (.val (.p (.bool (lenIs 1 rest && v (at0 rest))))), E) := by
  rw [mAnd_b (len3 h 1)]
  match rest, h, hr with
  | [], h, hr => rfl
  | [x], h, hr =>
    rw [if_pos (show ((([x] : List PyData).length : Int) == 1) = true from rfl), mFn1 (ix3_0 h) (hf x (sm_cons hr).1)]
    rfl
  | x :: y :: r, h, hr =>
    have : (((x :: y :: r).length : Int) == 1) = false := beq_eq_false_iff_ne.mpr (by simp only [List.length_cons]; omega)
    rw [this, if_neg Bool.false_ne_true]
    have : lenIs 1 (x :: y :: r) = false := by unfold lenIs; exact beq_eq_false_iff_ne.mpr (by simp only [List.length_cons]; omega)
    rw [this]; rfl
theorem oneI_eq (h : E[3]? = some (.p (.tuple rest))) : mAnd (mOp gEq (mCall gLen (mCons (mVar 3) mNil)) (mC (.int 1))) (mFn m_is_integer (mCons (mOp gIdx (mVar 3) (mC (.int 0))) (mCons (mC .none) (mCons (mC .none) mNil)))) E = some (.ok (.val (.p (.bool (lenIs 1 rest && isAny (at0 rest))))), E) := by
  rw [mAnd_b (len3 h 1)]
  match rest, h with
  | [], h => rfl
  | [x], h =>
    have e := is_any_eq x
    have hx := ix3_0 h
    rw [if_pos (show ((([x] : List PyData).length : Int) == 1) = true from rfl)]
    rw [mFn_run]
    simp [-mOp_run, hx, e]
    rfl
  | x :: y :: r, h =>
    have : (((x :: y :: r).length : Int) == 1) = false := beq_eq_false_iff_ne.mpr (by simp only [List.length_cons]; omega)
    rw [this, if_neg Bool.false_ne_true]
    have : lenIs 1 (x :: y :: r) = false := by unfold lenIs; exact beq_eq_false_iff_ne.mpr (by simp only [List.length_cons]; omega)
    rw [this]; rfl
theorem len2 : ∀ {rest : List PyData}, ((rest.length : Int) == 2) = lenIs 2 rest := fun {rest} => by
  unfold lenIs
  rw [Bool.eq_iff_iff, beq_iff_eq, beq_iff_eq]; omega
theorem two_shape {rest : List PyData} (h : lenIs 2 rest = true) : ∃ x y, rest = [x, y] := by
  unfold lenIs at h
  have h := beq_iff_eq.mp h
  match rest, h with
  | [x, y], _ => exact ⟨x, y, rfl⟩
theorem two_eq {f : FnM} {v : PyData → Bool} (hf : ∀ x, Sm x → f [.p x] = some (.ok (.p (.bool (v x))), [.p x])) (h : E[3]? = some (.p (.tuple rest))) (hr : Sm (.tuple rest)) : mAnd (mOp gEq (mCall gLen (mCons (mVar 3) mNil)) (mC (.int 2))) (mAnd (mFn f (mCons (mOp gIdx (mVar 3) (mC (.int 0))) mNil)) (mFn f (mCons (mOp gIdx (mVar 3) (mC (.int 1))) mNil))) E = some (.ok (.val (.p (.bool (lenIs 2 rest && (v (at0 rest) && v (at1 rest)))))), E) := by
  rw [mAnd_b (len3 h 2), len2]
  cases q : lenIs 2 rest with
  | false => rw [if_neg Bool.false_ne_true]; rfl
  | true =>
    obtain ⟨x, y, rfl⟩ := two_shape q
    obtain ⟨hx, hy⟩ := sm_cons hr
    rw [if_pos rfl, mAnd_b (mFn1 (ix3_0 h) (hf x hx)), mFn1 (ix3_1 h) (hf y (sm_cons hy).1)]
    show (if v x = true then _ else _) = some (Res.ok (Opd.val (Slot.p (.bool (true && (v x && v y))))), E)
    cases v x <;> rfl
theorem ret_b {m : ExM} {b : Bool} (h : m E = some (Res.ok (Opd.val (Slot.p (.bool b))), E)) : sRet m E = some (.rt (.p (.bool b)), E) := by
  show bndS m sRetO E = _
  unfold bndS
  rw [h]; rfl
theorem if_b {mt : ExM} {b : Bool} {m1 m2 m3 : StM} (h : mt E = some (.ok (.val (.p (.bool b))), E)) : sSeq (sIf (mTest mt) m1 sNx) m2 E = if b = true then (match m1 E with | some (.nx, e) => m2 e | r => r) else m2 E := by
  have ht : mTest mt E = some (Res.ok b, E) := by rw [mTest_run, bnd_ok h]; rfl
  rw [sSeq_run, sIf_run, ht]
  cases b <;> rfl
end
theorem fits_words_eq (kind w : Str) (rest : List PyData) (hk : Sm (.str kind)) (hw : Sm (.tuple (.str w :: rest))) : ∃ t, m_fits_words [.p (.str kind), .p (.tuple (.str w :: rest))] = some (.ok (.p (.bool (fitsW kind w rest))), t) := by
  obtain ⟨h1, h2⟩ := sm_cons hw
  refine ⟨[.p (.str kind), .p (.tuple (.str w :: rest))], ?_⟩
  show runE 2 (mb_fits_words [.p (.str kind), .p (.tuple (.str w :: rest)), .un, .un, .un]) = _
  have hsl : gSl (.tuple (.str w :: rest)) (some 1) none = some (.p (.tuple rest)) := by
    show some (Slot.p (.tuple (cutD (.str w :: rest) (some 1) none))) = _
    rw [cut_tail]; rfl
  have hix : gIdx (.tuple (.str w :: rest)) (.int 0) = some (.p (.str w)) := Com.gIdx_t0 _ _
  unfold mb_fits_words
  have hs : sPar 2 3 (mCons (mOp gIdx (mVar 1) (mC (.int 0))) (mCons (mSlice (mVar 1) (mPart (mC (.int 1))) mNoPart) mNil)) [.p (.str kind), .p (.tuple (.str w :: rest)), .un, .un, .un] = some (.nx, [.p (.str kind), .p (.tuple (.str w :: rest)), .p (.str w), .p (.tuple rest), .un]) := by
    simp [hix, hsl]
  rw [sSeq_run, hs]
  show runE 2 (sSeq _ _ _) = _
  generalize hE : ([.p (.str kind), .p (.tuple (.str w :: rest)), .p (.str w), .p (.tuple rest), .un] : MM.Env) = E
  have e3 : E[3]? = some (.p (.tuple rest)) := by rw [← hE]; rfl
  have kq : ∀ b : Str, SeqAt.shaped (.str b) = true → mOp gEq (mVar 0) (mC (.str b)) E = some (.ok (.val (.p (.bool (eqS kind b)))), E) := fun b hb => by
    rw [← hE]; simp [gEq_str hk hb]
  have wq : ∀ b : Str, SeqAt.shaped (.str b) = true → mOp gEq (mVar 2) (mC (.str b)) E = some (.ok (.val (.p (.bool (eqS w b)))), E) := fun b hb => by
    rw [← hE]; simp [gEq_str h1 hb]
  have k2 : ∀ b c : Str, SeqAt.shaped (.tuple [.str b, .str c]) = true → mOp (gIn false) (mVar 0) (mTup (mCons (mC (.str b)) (mCons (mC (.str c)) mNil))) E = some (.ok (.val (.p (.bool (eqS b kind || eqS c kind)))), E) := fun b c hb => by
    rw [← hE]; simp [gIn_two hk hb]
  have w2 : ∀ b c : Str, SeqAt.shaped (.tuple [.str b, .str c]) = true → mOp (gIn false) (mVar 2) (mTup (mCons (mC (.str b)) (mCons (mC (.str c)) mNil))) E = some (.ok (.val (.p (.bool (eqS b w || eqS c w)))), E) := fun b c hb => by
    rw [← hE]; simp [gIn_two h1 hb]
  have fin : ∀ {m : StM} {b : Bool} {E' : MM.Env}, m E = some (.rt (.p (.bool b)), E') → E'.take 2 = [.p (.str kind), .p (.tuple (.str w :: rest))] → runE 2 (m E) = some (.ok (.p (.bool b)), [.p (.str kind), .p (.tuple (.str w :: rest))]) := fun {m b E'} h ht => by rw [h, runE_rt, ht]
  have tk : E.take 2 = [.p (.str kind), .p (.tuple (.str w :: rest))] := by rw [← hE]; rfl
  unfold fitsW
  rw [if_b (m3 := sNx) (kq "counter" (by decide +kernel))]
  cases c1 : eqS kind "counter" with
  | true =>
    rw [if_pos rfl, if_pos rfl, ret_b (b := eqS w "more" && (lenIs 1 rest && isAny (at0 rest))) (by rw [mAnd_b (wq "more" (by decide +kernel)), oneI_eq e3]; cases eqS w "more" <;> rfl)]
    show runE 2 (some (.rt _, E)) = _
    rw [runE_rt, tk]
  | false =>
  rw [if_neg Bool.false_ne_true, if_neg Bool.false_ne_true, if_b (m3 := sNx) (k2 "last" "choices" (by decide +kernel))]
  cases c2 : (eqS "last" kind || eqS "choices" kind) with
  | true =>
    rw [if_pos rfl, if_pos rfl, ret_b (b := eqS w "set" && (lenIs 1 rest && isVal (at0 rest))) (by rw [mAnd_b (wq "set" (by decide +kernel)), one_eq is_value_eq e3 h2]; cases eqS w "set" <;> rfl)]
    show runE 2 (some (.rt _, E)) = _
    rw [runE_rt, tk]
  | false =>
  rw [if_neg Bool.false_ne_true, if_neg Bool.false_ne_true, if_b (m3 := sNx) (k2 "keeps" "drops" (by decide +kernel))]
  cases c3 : (eqS "keeps" kind || eqS "drops" kind) with
  | true =>
    rw [if_pos rfl, if_pos rfl, ret_b (b := (eqS "add" w || eqS "drop" w) && (lenIs 1 rest && isVal (at0 rest))) (by rw [mAnd_b (w2 "add" "drop" (by decide +kernel)), one_eq is_value_eq e3 h2]; cases (eqS "add" w || eqS "drop" w) <;> rfl)]
    show runE 2 (some (.rt _, E)) = _
    rw [runE_rt, tk]
  | false =>
  rw [if_neg Bool.false_ne_true, if_neg Bool.false_ne_true, if_b (m3 := sNx) (kq "flag" (by decide +kernel))]
  cases c4 : eqS kind "flag" with
  | true =>
    have hn : mNot (mVar 3) E = some (.ok (.val (.p (.bool rest.isEmpty))), E) := by
      rw [mNot_run, bnd_ok (v3 e3)]
      show some (Res.ok (Opd.val (.p (.bool (!(!rest.isEmpty))))), E) = _
      rw [Bool.not_not]
    rw [if_pos rfl, if_pos rfl, ret_b (b := (eqS "on" w || eqS "off" w) && rest.isEmpty) (by rw [mAnd_b (w2 "on" "off" (by decide +kernel)), hn]; cases (eqS "on" w || eqS "off" w) <;> rfl)]
    show runE 2 (some (.rt _, E)) = _
    rw [runE_rt, tk]
  | false =>
  rw [if_neg Bool.false_ne_true, if_neg Bool.false_ne_true, if_b (m3 := sNx) (kq "map" (by decide +kernel))]
  cases c5 : eqS kind "map" with
  | true =>
    rw [if_pos rfl, if_pos rfl, if_b (m3 := sNx) (wq "drop" (by decide +kernel))]
    cases d1 : eqS w "drop" with
    | true =>
      rw [if_pos rfl, if_pos rfl, ret_b (one_eq is_value_eq e3 h2)]
      show runE 2 (some (.rt _, E)) = _
      rw [runE_rt, tk]
    | false =>
      rw [if_neg Bool.false_ne_true, if_neg Bool.false_ne_true, ret_b (b := eqS w "put" && (lenIs 2 rest && (isVal (at0 rest) && isVal (at1 rest)))) (by rw [mAnd_b (wq "put" (by decide +kernel)), two_eq is_value_eq e3 h2]; cases eqS w "put" <;> rfl)]
      show runE 2 (some (.rt _, E)) = _
      rw [runE_rt, tk]
  | false =>
  rw [if_neg Bool.false_ne_true, if_neg Bool.false_ne_true, if_b (m3 := sNx) (kq "list" (by decide +kernel))]
  cases c6 : eqS kind "list" with
  | true =>
    rw [if_pos rfl, if_pos rfl, if_b (m3 := sNx) (wq "cut" (by decide +kernel))]
    cases d1 : eqS w "cut" with
    | true =>
      rw [if_pos rfl, if_pos rfl, ret_b (one_eq (fun x _ => is_dot_eq x) e3 h2)]
      show runE 2 (some (.rt _, E)) = _
      rw [runE_rt, tk]
    | false =>
      rw [if_neg Bool.false_ne_true, if_neg Bool.false_ne_true]
      have hf : mAnd (mOp gEq (mVar 2) (mC (.str "put"))) (mAnd (mOp gEq (mCall gLen (mCons (mVar 3) mNil)) (mC (.int 2))) (mFn m_is_value (mCons (mOp gIdx (mVar 3) (mC (.int 1))) mNil))) E = some (Res.ok (Opd.val (.p (.bool (eqS w "put" && (lenIs 2 rest && isVal (at1 rest)))))), E) := by
        rw [mAnd_b (wq "put" (by decide +kernel))]
        cases eqS w "put" with
        | false => rfl
        | true =>
          rw [if_pos rfl, mAnd_b (len3 e3 2), len2]
          cases q : lenIs 2 rest with
          | false => rfl
          | true =>
            obtain ⟨x, y, rfl⟩ := two_shape q
            rw [if_pos rfl, mFn1 (ix3_1 e3) (is_value_eq y (sm_cons (sm_cons h2).2).1)]
            rfl
      have ha : sAsg (mAnd (mOp gEq (mVar 2) (mC (.str "put"))) (mAnd (mOp gEq (mCall gLen (mCons (mVar 3) mNil)) (mC (.int 2))) (mFn m_is_value (mCons (mOp gIdx (mVar 3) (mC (.int 1))) mNil)))) (gN 4) E = some (Fl.nx, E.set 4 (.p (.bool (eqS w "put" && (lenIs 2 rest && isVal (at1 rest)))))) := by
        unfold sAsg bndS
        rw [hf, ← hE]; rfl
      rw [sSeq_run, ha]
      have hb : mAnd (mVar 4) (mOr (mOp (gIs false) (mOp gIdx (mVar 3) (mC (.int 0))) (mC .none)) (mFn m_is_dot (mCons (mOp gIdx (mVar 3) (mC (.int 0))) mNil))) (E.set 4 (.p (.bool (eqS w "put" && (lenIs 2 rest && isVal (at1 rest)))))) = some (Res.ok (Opd.val (.p (.bool ((eqS w "put" && (lenIs 2 rest && isVal (at1 rest))) && (isNon (at0 rest) || Com.isDot (at0 rest)))))), E.set 4 (.p (.bool (eqS w "put" && (lenIs 2 rest && isVal (at1 rest)))))) := by
        have h4 : mVar 4 (E.set 4 (.p (.bool (eqS w "put" && (lenIs 2 rest && isVal (at1 rest)))))) = some (Res.ok (Opd.val (.p (.bool (eqS w "put" && (lenIs 2 rest && isVal (at1 rest)))))), E.set 4 (.p (.bool (eqS w "put" && (lenIs 2 rest && isVal (at1 rest)))))) := by rw [← hE]; rfl
        have e3' : (E.set 4 (.p (.bool (eqS w "put" && (lenIs 2 rest && isVal (at1 rest))))))[3]? = some (.p (.tuple rest)) := by rw [← hE]; rfl
        generalize (E.set 4 (.p (.bool (eqS w "put" && (lenIs 2 rest && isVal (at1 rest)))))) = E2 at h4 e3'
        rw [mAnd_b h4]
        cases q : (eqS w "put" && (lenIs 2 rest && isVal (at1 rest))) with
        | false => rfl
        | true =>
          rw [Bool.and_eq_true, Bool.and_eq_true] at q
          obtain ⟨x, y, rfl⟩ := two_shape q.2.1
          have hi := ix3_0 e3'
          have hs : mOp (gIs false) (mOp gIdx (mVar 3) (mC (.int 0))) (mC .none) E2 = some (Res.ok (Opd.val (.p (.bool (isNon x)))), E2) := by
            rw [mOp_run, bnd_ok hi]
            simp [gIs_non]
          rw [if_pos rfl, mOr_b hs, mFn1 hi (is_dot_eq x)]
          show (if isNon x = true then _ else _) = some (Res.ok (Opd.val (.p (.bool (true && (isNon x || Com.isDot x))))), E2)
          cases isNon x <;> rfl
      have tk2 : (E.set 4 (.p (.bool (eqS w "put" && (lenIs 2 rest && isVal (at1 rest)))))).take 2 = [.p (.str kind), .p (.tuple (.str w :: rest))] := by rw [← hE]; rfl
      show runE 2 (match sRet _ (E.set 4 _) with | some (.nx, e) => _ | r => r) = _
      rw [ret_b hb]
      show runE 2 (some (.rt _, E.set 4 _)) = _
      rw [runE_rt, tk2]
  | false =>
  rw [if_neg Bool.false_ne_true, if_neg Bool.false_ne_true, ret_b (b := eqS w "move" && (lenIs 2 rest && (isLab (at0 rest) && isLab (at1 rest)))) (by rw [mAnd_b (wq "move" (by decide +kernel)), two_eq is_label_eq e3 h2]; cases eqS w "move" <;> rfl)]
  show runE 2 (some (.rt _, E)) = _
  rw [runE_rt, tk]
def fitsK (kind : Str) (d : PyData) : Bool := match d with
  | .tuple (.str w :: rest) => if eqS "undo" w || eqS "redo" w then lenIs 1 rest && Com.isDot (at0 rest) else fitsW kind w rest
  | _ => false
theorem fits_kind_eq (kind : Str) (d : PyData) (hk : Sm (.str kind)) (hd : Sm d) : ∃ t, m_fits_kind [.p (.str kind), .p d] = some (.ok (.p (.bool (fitsK kind d))), t) := by
  refine ⟨[.p (.str kind), .p d], ?_⟩
  show runE 2 (mb_fits_kind [.p (.str kind), .p d]) = _
  unfold mb_fits_kind
  cases d with
  | tuple ds =>
    have e : (["tuple"].any fun n => isSub (tyD (.tuple ds)) n) = true := Com.isi_tuple _
    simp only [List.any_cons, List.any_nil, Bool.or_false] at e
    match ds, hd, e with
    | [], hd, e => simp [e, fitsK]; rfl
    | x :: rest, hd, e =>
      have hix : gIdx (.tuple (x :: rest)) (.int 0) = some (.p x) := Com.gIdx_t0 _ _
      have hlen : (((rest.length : Int) + 1 == 0) : Bool) = false := beq_eq_false_iff_ne.mpr (by omega)
      cases x with
      | str w =>
        obtain ⟨h1, h2⟩ := sm_cons hd
        have hin := gIn_two h1 (b := "undo") (c := "redo") (by decide +kernel)
        have hn : mOrT (mNotT (mTruth (mIsi ["tuple"] (mVar 1)))) (mOrT (mTest (mOp gEq (mCall gLen (mCons (mVar 1) mNil)) (mC (.int 0)))) (mNotT (mTruth (mIsi ["str"] (mOp gIdx (mVar 1) (mC (.int 0))))))) [.p (.str kind), .p (.tuple (.str w :: rest))] = some (.ok false, [.p (.str kind), .p (.tuple (.str w :: rest))]) := by
          simp [e, hix, hlen, tyD]
        rw [sSeq_run, if_no hn]
        show runE 2 (sSeq _ _ _) = _
        have hq : mOp (gIn false) (mOp gIdx (mVar 1) (mC (.int 0))) (mC (.tuple [.str "undo", .str "redo"])) [.p (.str kind), .p (.tuple (.str w :: rest))] = some (Res.ok (Opd.val (Slot.p (.bool (eqS "undo" w || eqS "redo" w)))), [.p (.str kind), .p (.tuple (.str w :: rest))]) := by
          simp [hix, hin]
        rw [if_b (m3 := sNx) hq]
        show _ = some (Res.ok (Slot.p (.bool (if (eqS "undo" w || eqS "redo" w) = true then lenIs 1 rest && Com.isDot (at0 rest) else fitsW kind w rest))), _)
        cases q : (eqS "undo" w || eqS "redo" w) with
        | true =>
          rw [if_pos rfl, if_pos rfl]
          match rest with
          | [] => simp [lenIs]; rfl
          | [y] =>
            have hi1 : gIdx (.tuple [.str w, y]) (.int 1) = some (.p y) := Com.gIdx_t1 _ _ _
            simp [hi1, is_dot_eq, lenIs, at0]
            rfl
          | y :: z :: r =>
            have ne : ((((r.length : Int) + 1) + 1 + 1 == 2) : Bool) = false := beq_eq_false_iff_ne.mpr (by omega)
            simp [ne, lenIs]
            rfl
        | false =>
          rw [if_neg Bool.false_ne_true, if_neg Bool.false_ne_true]
          obtain ⟨t, hw⟩ := fits_words_eq kind w rest hk hd
          simp [hw]
          rfl
      | none => simp [e, hix, hlen, tyD, fitsK]; rfl
      | bool b => simp [e, hix, hlen, tyD, fitsK]; rfl
      | int b => simp [e, hix, hlen, tyD, fitsK]; rfl
      | list b => simp [e, hix, hlen, tyD, fitsK]; rfl
      | tuple b => simp [e, hix, hlen, tyD, fitsK]; rfl
      | dict b => simp [e, hix, hlen, tyD, fitsK]; rfl
  | none => simp [tyD, fitsK]; rfl
  | bool b => simp [tyD, fitsK]; rfl
  | int b => simp [tyD, fitsK]; rfl
  | str b => simp [tyD, fitsK]; rfl
  | list b => simp [tyD, fitsK]; rfl
  | dict b => simp [tyD, fitsK]; rfl
end Knd
/-! ### printed by gen.py -/
namespace K01
open PySem PySem.Spec L2 MM
def topS (i : Nat) : Stmt := PySem.Challenge.pw_meetsagain_k01_deeds_and_documents.main.body.getD i (.Pass ⟨0, 0, 0, 0⟩)
def mb__law_draw : StM := (sSeq (sAsg (mC (.int 7)) (gN 1))
 (sSeq (sFor (mSeq (mVar 0)) (tgP (gN 2))
 (sAsg (mOp (gI fMod) (mCall gInt (mCons (mOp gAdd (mOp gAdd (mOp (gI fMul) (mVar 1) (mC (.int 48271))) (mOp (gI fMod) (mCall gAbs (mCons (mCall gInt (mCons (mVar 2) mNil)) mNil)) (mC (.int 65521)))) (mC (.int 1))) mNil)) (mC (.int 2147483647))) (gN 1)))
 (sRet (mLst (mCons (mComp [2] (mSeq (mVar 0)) (tgP (gN 2)) mYes (mCall gAbs (mCons (mCall gInt (mCons (mVar 2) mNil)) mNil))) (mCons (mUn gNeg (mC (.int 1))) (mCons (mC (.int 0)) (mCons (mVar 1) mNil))))))))
abbrev N__law_draw : List Str := ["script", "seed", "cell"]
def m__law_draw : FnM := runB 1 N__law_draw.length mb__law_draw
theorem sc__law_draw : FnScope N__law_draw ["script"] (defScope (topS 28)) := ⟨rfl, rfl, rfl, by decide +kernel, rfl, by decide +kernel, by decide +kernel⟩
def mb__law_take : StM := (sSeq (sIf (mTest (mOp gEq (mOp gIdx (mVar 0) (mC (.int 2))) (mC (.int 0))))
 (sSeq (sSetL 0 (mOp gAdd (mOp gIdx (mVar 0) (mC (.int 1))) (mC (.int 1))) (mC (.int 1)))
 (sSeq (sIf (mTest (mOp gLtI (mOp gIdx (mVar 0) (mC (.int 1))) (mCall gLen (mCons (mOp gIdx (mVar 0) (mC (.int 0))) mNil))))
 (sSetL 0 (mOp gIdx (mOp gIdx (mVar 0) (mC (.int 0))) (mOp gIdx (mVar 0) (mC (.int 1)))) (mC (.int 2)))
 sNx)
 (sIf (mTest (mOp gEq (mOp gIdx (mVar 0) (mC (.int 2))) (mC (.int 0))))
 (sSeq (sSetL 0 (mOp (gI fMod) (mCall gInt (mCons (mOp gAdd (mOp (gI fMul) (mOp gIdx (mVar 0) (mC (.int 3))) (mC (.int 48271))) (mC (.int 11))) mNil)) (mC (.int 2147483647))) (mC (.int 3)))
 (sSetL 0 (mOp gIdx (mVar 0) (mC (.int 3))) (mC (.int 2))))
 sNx)))
 sNx)
 (sSeq (sAsg (mOp (gI fMod) (mCall gInt (mCons (mOp gIdx (mVar 0) (mC (.int 2))) mNil)) (mVar 1)) (gN 2))
 (sSeq (sSetL 0 (mOp (gI fDiv) (mOp gIdx (mVar 0) (mC (.int 2))) (mVar 1)) (mC (.int 2)))
 (sRet (mVar 2)))))
abbrev N__law_take : List Str := ["draw", "many", "found"]
def m__law_take : FnM := runB 2 N__law_take.length mb__law_take
theorem sc__law_take : FnScope N__law_take ["draw", "many"] (defScope (topS 29)) := ⟨rfl, rfl, rfl, by decide +kernel, rfl, by decide +kernel, by decide +kernel⟩
def mb_is_integer : StM := (sSeq (sIf (mOrT (mNotT (mTruth (mIsi ["int"] (mVar 0)))) (mTruth (mIsi ["bool"] (mVar 0))))
 (sRet (mC (.bool false)))
 sNx)
 (sRet (mAnd (mOr (mOp (gIs false) (mVar 1) (mC .none)) (mOp gGeI (mVar 0) (mVar 1))) (mOr (mOp (gIs false) (mVar 2) (mC .none)) (mOp gLeI (mVar 0) (mVar 2))))))
abbrev N_is_integer : List Str := ["value", "low", "high"]
def m_is_integer : FnM := runB 3 N_is_integer.length mb_is_integer
theorem sc_is_integer : FnScope N_is_integer ["value", "low", "high"] (defScope (topS 4)) := ⟨rfl, rfl, rfl, by decide +kernel, rfl, by decide +kernel, by decide +kernel⟩
def mb_is_copy : StM := (sRet (mFn m_is_integer (mCons (mVar 0) (mCons (mC (.int 0)) (mCons (mOp (gI fun i j => some (.int (i - j))) (mC (.int 8)) (mC (.int 1))) mNil)))))
abbrev N_is_copy : List Str := ["value"]
def m_is_copy : FnM := runB 1 N_is_copy.length mb_is_copy
theorem sc_is_copy : FnScope N_is_copy ["value"] (defScope (topS 7)) := ⟨rfl, rfl, rfl, by decide +kernel, rfl, by decide +kernel, by decide +kernel⟩
def mb_is_dot : StM := (sRet (mAnd (mIsi ["tuple"] (mVar 0)) (mAnd (mOp gEq (mCall gLen (mCons (mVar 0) mNil)) (mC (.int 2))) (mAnd (mFn m_is_copy (mCons (mOp gIdx (mVar 0) (mC (.int 0))) mNil)) (mFn m_is_integer (mCons (mOp gIdx (mVar 0) (mC (.int 1))) (mCons (mC (.int 1)) (mCons (mC .none) mNil))))))))
abbrev N_is_dot : List Str := ["value"]
def m_is_dot : FnM := runB 1 N_is_dot.length mb_is_dot
theorem sc_is_dot : FnScope N_is_dot ["value"] (defScope (topS 8)) := ⟨rfl, rfl, rfl, by decide +kernel, rfl, by decide +kernel, by decide +kernel⟩
def mb_is_vector : StM := (sSeq (sIf (mOrT (mNotT (mTruth (mIsi ["tuple"] (mVar 0)))) (mNotT (mTruth (mCall gAll (mCons (mComp [1] (mSeq (mVar 0)) (tgP (gN 1)) mYes (mFnF m_is_dot (mCons (mVar 1) mNil))) mNil)))))
 (sRet (mC (.bool false)))
 sNx)
 (sRet (mCall gAll (mCons (mComp [1, 2] (mZip (mCons (mVar 0) (mCons (mSlice (mVar 0) (mPart (mC (.int 1))) mNoPart) mNil))) (tg2 (gN 1) (gN 2)) mYes (mOp gLtI (mOp gIdx (mVar 1) (mC (.int 0))) (mOp gIdx (mVar 2) (mC (.int 0))))) mNil))))
abbrev N_is_vector : List Str := ["value", "one", "other"]
def m_is_vector : FnM := runB 1 N_is_vector.length mb_is_vector
theorem sc_is_vector : FnScope N_is_vector ["value"] (defScope (topS 9)) := ⟨rfl, rfl, rfl, by decide +kernel, rfl, by decide +kernel, by decide +kernel⟩
def mb_count_of : StM := (sRet (mCall gSum (mCons (mComp [2, 3] (mSeq (mVar 0)) (tgP (gT 2 (gsCons (gN 2) (gsCons (gN 3) gsNil)))) (mTest (mOp gEq (mVar 2) (mVar 1))) (mVar 3)) mNil)))
abbrev N_count_of : List Str := ["vector", "copy", "one", "n"]
def m_count_of : FnM := runB 2 N_count_of.length mb_count_of
theorem sc_count_of : FnScope N_count_of ["vector", "copy"] (defScope (topS 10)) := ⟨rfl, rfl, rfl, by decide +kernel, rfl, by decide +kernel, by decide +kernel⟩
def mb_are_letters : StM := (sRet (mAnd (mIsi ["str"] (mVar 0)) (mAnd (mOp gLeI (mCall gLen (mCons (mVar 0) mNil)) (mVar 1)) (mCall gAll (mCons (mComp [2] (mSeq (mVar 0)) (tgP (gN 2)) mYes (mChain gLeS gLeS (mC (.str "a")) (mVar 2) (mC (.str "z")))) mNil)))))
abbrev N_are_letters : List Str := ["value", "most", "sign"]
def m_are_letters : FnM := runB 2 N_are_letters.length mb_are_letters
theorem sc_are_letters : FnScope N_are_letters ["value", "most"] (defScope (topS 17)) := ⟨rfl, rfl, rfl, by decide +kernel, rfl, by decide +kernel, by decide +kernel⟩
def mb_is_label : StM := (sRet (mAnd (mFn m_are_letters (mCons (mVar 0) (mCons (mC (.int 8)) mNil))) (mOp gNe (mVar 0) (mC (.str "")))))
abbrev N_is_label : List Str := ["value"]
def m_is_label : FnM := runB 1 N_is_label.length mb_is_label
theorem sc_is_label : FnScope N_is_label ["value"] (defScope (topS 18)) := ⟨rfl, rfl, rfl, by decide +kernel, rfl, by decide +kernel, by decide +kernel⟩
def mb_is_value : StM := (sRet (mOr (mFn m_is_integer (mCons (mVar 0) (mCons (mC .none) (mCons (mC .none) mNil)))) (mFn m_are_letters (mCons (mVar 0) (mCons (mC (.int 40)) mNil)))))
abbrev N_is_value : List Str := ["value"]
def m_is_value : FnM := runB 1 N_is_value.length mb_is_value
theorem sc_is_value : FnScope N_is_value ["value"] (defScope (topS 19)) := ⟨rfl, rfl, rfl, by decide +kernel, rfl, by decide +kernel, by decide +kernel⟩
def mb_fits_words : StM := (sSeq (sPar 2 3 (mCons (mOp gIdx (mVar 1) (mC (.int 0))) (mCons (mSlice (mVar 1) (mPart (mC (.int 1))) mNoPart) mNil)))
 (sSeq (sIf (mTest (mOp gEq (mVar 0) (mC (.str "counter"))))
 (sRet (mAnd (mOp gEq (mVar 2) (mC (.str "more"))) (mAnd (mOp gEq (mCall gLen (mCons (mVar 3) mNil)) (mC (.int 1))) (mFn m_is_integer (mCons (mOp gIdx (mVar 3) (mC (.int 0))) (mCons (mC .none) (mCons (mC .none) mNil)))))))
 sNx)
 (sSeq (sIf (mTest (mOp (gIn false) (mVar 0) (mTup (mCons (mC (.str "last")) (mCons (mC (.str "choices")) mNil)))))
 (sRet (mAnd (mOp gEq (mVar 2) (mC (.str "set"))) (mAnd (mOp gEq (mCall gLen (mCons (mVar 3) mNil)) (mC (.int 1))) (mFn m_is_value (mCons (mOp gIdx (mVar 3) (mC (.int 0))) mNil)))))
 sNx)
 (sSeq (sIf (mTest (mOp (gIn false) (mVar 0) (mTup (mCons (mC (.str "keeps")) (mCons (mC (.str "drops")) mNil)))))
 (sRet (mAnd (mOp (gIn false) (mVar 2) (mTup (mCons (mC (.str "add")) (mCons (mC (.str "drop")) mNil)))) (mAnd (mOp gEq (mCall gLen (mCons (mVar 3) mNil)) (mC (.int 1))) (mFn m_is_value (mCons (mOp gIdx (mVar 3) (mC (.int 0))) mNil)))))
 sNx)
 (sSeq (sIf (mTest (mOp gEq (mVar 0) (mC (.str "flag"))))
 (sRet (mAnd (mOp (gIn false) (mVar 2) (mTup (mCons (mC (.str "on")) (mCons (mC (.str "off")) mNil)))) (mNot (mVar 3))))
 sNx)
 (sSeq (sIf (mTest (mOp gEq (mVar 0) (mC (.str "map"))))
 (sSeq (sIf (mTest (mOp gEq (mVar 2) (mC (.str "drop"))))
 (sRet (mAnd (mOp gEq (mCall gLen (mCons (mVar 3) mNil)) (mC (.int 1))) (mFn m_is_value (mCons (mOp gIdx (mVar 3) (mC (.int 0))) mNil))))
 sNx)
 (sRet (mAnd (mOp gEq (mVar 2) (mC (.str "put"))) (mAnd (mOp gEq (mCall gLen (mCons (mVar 3) mNil)) (mC (.int 2))) (mAnd (mFn m_is_value (mCons (mOp gIdx (mVar 3) (mC (.int 0))) mNil)) (mFn m_is_value (mCons (mOp gIdx (mVar 3) (mC (.int 1))) mNil)))))))
 sNx)
 (sSeq (sIf (mTest (mOp gEq (mVar 0) (mC (.str "list"))))
 (sSeq (sIf (mTest (mOp gEq (mVar 2) (mC (.str "cut"))))
 (sRet (mAnd (mOp gEq (mCall gLen (mCons (mVar 3) mNil)) (mC (.int 1))) (mFn m_is_dot (mCons (mOp gIdx (mVar 3) (mC (.int 0))) mNil))))
 sNx)
 (sSeq (sAsg (mAnd (mOp gEq (mVar 2) (mC (.str "put"))) (mAnd (mOp gEq (mCall gLen (mCons (mVar 3) mNil)) (mC (.int 2))) (mFn m_is_value (mCons (mOp gIdx (mVar 3) (mC (.int 1))) mNil)))) (gN 4))
 (sRet (mAnd (mVar 4) (mOr (mOp (gIs false) (mOp gIdx (mVar 3) (mC (.int 0))) (mC .none)) (mFn m_is_dot (mCons (mOp gIdx (mVar 3) (mC (.int 0))) mNil)))))))
 sNx)
 (sRet (mAnd (mOp gEq (mVar 2) (mC (.str "move"))) (mAnd (mOp gEq (mCall gLen (mCons (mVar 3) mNil)) (mC (.int 2))) (mAnd (mFn m_is_label (mCons (mOp gIdx (mVar 3) (mC (.int 0))) mNil)) (mFn m_is_label (mCons (mOp gIdx (mVar 3) (mC (.int 1))) mNil)))))))))))))
abbrev N_fits_words : List Str := ["kind", "what", "word", "rest", "fine"]
def m_fits_words : FnM := runB 2 N_fits_words.length mb_fits_words
theorem sc_fits_words : FnScope N_fits_words ["kind", "what"] (defScope (topS 20)) := ⟨rfl, rfl, rfl, by decide +kernel, rfl, by decide +kernel, by decide +kernel⟩
def mb_fits_kind : StM := (sSeq (sIf (mOrT (mNotT (mTruth (mIsi ["tuple"] (mVar 1)))) (mOrT (mTest (mOp gEq (mCall gLen (mCons (mVar 1) mNil)) (mC (.int 0)))) (mNotT (mTruth (mIsi ["str"] (mOp gIdx (mVar 1) (mC (.int 0))))))))
 (sRet (mC (.bool false)))
 sNx)
 (sSeq (sIf (mTest (mOp (gIn false) (mOp gIdx (mVar 1) (mC (.int 0))) (mC (.tuple [(.str "undo"), (.str "redo")]))))
 (sRet (mAnd (mOp gEq (mCall gLen (mCons (mVar 1) mNil)) (mC (.int 2))) (mFn m_is_dot (mCons (mOp gIdx (mVar 1) (mC (.int 1))) mNil))))
 sNx)
 (sRet (mFn m_fits_words (mCons (mVar 0) (mCons (mVar 1) mNil))))))
abbrev N_fits_kind : List Str := ["kind", "what"]
def m_fits_kind : FnM := runB 2 N_fits_kind.length mb_fits_kind
theorem sc_fits_kind : FnScope N_fits_kind ["kind", "what"] (defScope (topS 21)) := ⟨rfl, rfl, rfl, by decide +kernel, rfl, by decide +kernel, by decide +kernel⟩
def mb_is_deed : StM := (sSeq (sIf (mOrT (mNotT (mTruth (mIsi ["tuple"] (mVar 0)))) (mOrT (mTest (mOp gNe (mCall gLen (mCons (mVar 0) mNil)) (mC (.int 4)))) (mOrT (mNotT (mTruth (mFn m_is_dot (mCons (mOp gIdx (mVar 0) (mC (.int 0))) mNil)))) (mNotT (mTruth (mFn m_is_vector (mCons (mOp gIdx (mVar 0) (mC (.int 1))) mNil)))))))
 (sRet (mC (.bool false)))
 sNx)
 (sSeq (sAsg (mVar 0) (gT 4 (gsCons (gN 1) (gsCons (gN 2) (gsCons (gN 3) (gsCons (gN 4) gsNil))))))
 (sSeq (sIf (mOrT (mTest (mOp gNe (mFnF m_count_of (mCons (mVar 2) (mCons (mOp gIdx (mVar 1) (mC (.int 0))) mNil))) (mOp (gI fun i j => some (.int (i - j))) (mOp gIdx (mVar 1) (mC (.int 1))) (mC (.int 1))))) (mNotT (mTruth (mFnF m_is_label (mCons (mVar 3) mNil)))))
 (sRet (mC (.bool false)))
 sNx)
 (sRet (mCall gAny (mCons (mComp [5] (mSeq (mC (.tuple [(.str "counter"), (.str "last"), (.str "choices"), (.str "keeps"), (.str "drops"), (.str "flag"), (.str "map"), (.str "list"), (.str "tree")]))) (tgP (gN 5)) mYes (mFnF m_fits_kind (mCons (mVar 5) (mCons (mVar 4) mNil)))) mNil))))))
abbrev N_is_deed : List Str := ["value", "dot", "causes", "label", "what", "kind"]
def m_is_deed : FnM := runB 1 N_is_deed.length mb_is_deed
theorem sc_is_deed : FnScope N_is_deed ["value"] (defScope (topS 22)) := ⟨rfl, rfl, rfl, by decide +kernel, rfl, by decide +kernel, by decide +kernel⟩
def mb_check_deed : StM := (sIf (mNotT (mTruth (mFn m_is_deed (mCons (mVar 0) mNil))))
 (sRaise "NotAllowed")
 sNx)
abbrev N_check_deed : List Str := ["deed"]
def m_check_deed : FnM := runB 1 N_check_deed.length mb_check_deed
theorem sc_check_deed : FnScope N_check_deed ["deed"] (defScope (topS 23)) := ⟨rfl, rfl, rfl, by decide +kernel, rfl, by decide +kernel, by decide +kernel⟩
def mb_is_document : StM := (sSeq (sIf (mOrT (mNotT (mTruth (mIsi ["tuple"] (mVar 0)))) (mTest (mOp gEq (mCall gLen (mCons (mVar 0) mNil)) (mC (.int 0)))))
 (sRet (mC (.bool false)))
 sNx)
 (sSeq (sIf (mNotT (mTruth (mCall gAll (mCons (mComp [2] (mSeq (mVar 0)) (tgP (gN 2)) mYes (mAnd (mIsi ["tuple"] (mVar 2)) (mAnd (mOp gEq (mCall gLen (mCons (mVar 2) mNil)) (mC (.int 2))) (mFn m_is_label (mCons (mOp gIdx (mVar 2) (mC (.int 0))) mNil))))) mNil))))
 (sRet (mC (.bool false)))
 sNx)
 (sSeq (sAsg (mComp [2] (mSeq (mVar 0)) (tgP (gN 2)) mYes (mOp gIdx (mVar 2) (mC (.int 0)))) (gN 1))
 (sSeq (sIf (mTest (mOp gNe (mVar 1) (mUn gSortSet (mVar 1))))
 (sRet (mC (.bool false)))
 sNx)
 (sRet (mCall gAll (mCons (mComp [2] (mSeq (mVar 0)) (tgP (gN 2)) mYes (mAnd (mIsi ["str"] (mOp gIdx (mVar 2) (mC (.int 1)))) (mOp (gIn false) (mOp gIdx (mVar 2) (mC (.int 1))) (mC (.tuple [(.str "counter"), (.str "last"), (.str "choices"), (.str "keeps"), (.str "drops"), (.str "flag"), (.str "map"), (.str "list"), (.str "tree")]))))) mNil)))))))
abbrev N_is_document : List Str := ["value", "labels", "one"]
def m_is_document : FnM := runB 1 N_is_document.length mb_is_document
theorem sc_is_document : FnScope N_is_document ["value"] (defScope (topS 25)) := ⟨rfl, rfl, rfl, by decide +kernel, rfl, by decide +kernel, by decide +kernel⟩
def mb_check_document : StM := (sIf (mNotT (mTruth (mFn m_is_document (mCons (mVar 0) mNil))))
 (sRaise "NotAllowed")
 sNx)
abbrev N_check_document : List Str := ["document"]
def m_check_document : FnM := runB 1 N_check_document.length mb_check_document
theorem sc_check_document : FnScope N_check_document ["document"] (defScope (topS 26)) := ⟨rfl, rfl, rfl, by decide +kernel, rfl, by decide +kernel, by decide +kernel⟩
def mb__law_refused : StM := (sSeq (sTry [("MeetingError", false), ("NotAllowed", true)]
 (sIf (mTest (mOp gEq (mVar 0) (mC (.int 0))))
 (sDrop (mFn m_check_deed (mCons (mVar 1) mNil)))
 (sDrop (mFn m_check_document (mCons (mVar 1) mNil))))
 (sRet (mC (.bool true))))
 (sRet (mC (.bool false))))
abbrev N__law_refused : List Str := ["kind", "value"]
def m__law_refused : FnM := runB 2 N__law_refused.length mb__law_refused
theorem sc__law_refused : FnScope N__law_refused ["kind", "value"] (defScope (topS 30)) := ⟨rfl, rfl, rfl, by decide +kernel, rfl, by decide +kernel, by decide +kernel⟩
def mb_size_of : StM := (sRet (mCall gSum (mCons (mComp [1, 2] (mSeq (mVar 0)) (tgP (gT 2 (gsCons (gN 1) (gsCons (gN 2) gsNil)))) mYes (mVar 2)) mNil)))
abbrev N_size_of : List Str := ["vector", "_", "n"]
def m_size_of : FnM := runB 1 N_size_of.length mb_size_of
theorem sc_size_of : FnScope N_size_of ["vector"] (defScope (topS 11)) := ⟨rfl, rfl, rfl, by decide +kernel, rfl, by decide +kernel, by decide +kernel⟩
def mb_rank : StM := (sRet (mTup (mCons (mFn m_size_of (mCons (mOp gIdx (mVar 0) (mC (.int 1))) mNil)) (mCons (mOp gIdx (mOp gIdx (mVar 0) (mC (.int 0))) (mC (.int 0))) mNil))))
abbrev N_rank : List Str := ["deed"]
def m_rank : FnM := runB 1 N_rank.length mb_rank
theorem sc_rank : FnScope N_rank ["deed"] (defScope (topS 24)) := ⟨rfl, rfl, rfl, by decide +kernel, rfl, by decide +kernel, by decide +kernel⟩
def mb__law_kinds : StM := (sSeq (sPar 1 2 (mCons (mOp gIdx (mVar 0) (mC (.int 0))) (mCons (mCall gLen (mCons (mVar 0) mNil)) mNil)))
 (sSeq (sIf (mTest (mOp (gIn false) (mVar 1) (mLst (mCons (mC (.str "undo")) (mCons (mC (.str "redo")) mNil)))))
 (sRet (mCall gList (mCons (mC (.tuple [(.str "counter"), (.str "last"), (.str "choices"), (.str "keeps"), (.str "drops"), (.str "flag"), (.str "map"), (.str "list"), (.str "tree")])) mNil)))
 sNx)
 (sSeq (sIf (mTest (mOp gEq (mVar 1) (mC (.str "drop"))))
 (sRet (mLst (mCons (mC (.str "keeps")) (mCons (mC (.str "drops")) (mCons (mC (.str "map")) mNil)))))
 sNx)
 (sSeq (sIf (mTest (mOp gEq (mVar 1) (mC (.str "put"))))
 (sSeq (sAsg (mOr (mOp (gIs false) (mOp gIdx (mVar 0) (mC (.int 1))) (mC .none)) (mIsi ["tuple"] (mOp gIdx (mVar 0) (mC (.int 1))))) (gN 3))
 (sRet (mIf (mTruth (mVar 3)) (mLst (mCons (mC (.str "list")) mNil)) (mLst (mCons (mC (.str "map")) mNil)))))
 sNx)
 (sRet (mDIxE (mDisp (mpCons (.inr "more") (mLst (mCons (mC (.str "counter")) mNil)) (mpCons (.inr "set") (mLst (mCons (mC (.str "last")) (mCons (mC (.str "choices")) mNil))) (mpCons (.inr "add") (mLst (mCons (mC (.str "keeps")) (mCons (mC (.str "drops")) mNil))) (mpCons (.inr "on") (mLst (mCons (mC (.str "flag")) mNil)) (mpCons (.inr "off") (mLst (mCons (mC (.str "flag")) mNil)) (mpCons (.inr "cut") (mLst (mCons (mC (.str "list")) mNil)) (mpCons (.inr "move") (mLst (mCons (mC (.str "tree")) mNil)) mpNil)))))))) (mVar 1)))))))
abbrev N__law_kinds : List Str := ["what", "word", "many", "two"]
def m__law_kinds : FnM := runB 1 N__law_kinds.length mb__law_kinds
theorem sc__law_kinds : FnScope N__law_kinds ["what"] (defScope (topS 31)) := ⟨rfl, rfl, rfl, by decide +kernel, rfl, by decide +kernel, by decide +kernel⟩
def mb_law : StM := (sSeq (sAsg (mFn m__law_draw (mCons (mVar 0) mNil)) (gN 1))
 (sSeq (sIf (mTest (mOp gNe (mC (.tuple [(.str "counter"), (.str "last"), (.str "choices"), (.str "keeps"), (.str "drops"), (.str "flag"), (.str "map"), (.str "list"), (.str "tree")])) (mTup (mCons (mC (.str "counter")) (mCons (mC (.str "last")) (mCons (mC (.str "choices")) (mCons (mC (.str "keeps")) (mCons (mC (.str "drops")) (mCons (mC (.str "flag")) (mCons (mC (.str "map")) (mCons (mC (.str "list")) (mCons (mC (.str "tree")) mNil))))))))))))
 (sRet (mC (.bool false)))
 sNx)
 (sSeq (sPar 2 3 (mCons (mOp gIdx (mLst (mCons (mOp (gI fun i j => some (.int (i - j))) (mFnL m__law_take (mCons (mVar 1) (mCons (mC (.int 99)) mNil))) (mC (.int 50))) (mCons (mOp gMulS (mC (.str "a")) (mFnL m__law_take (mCons (mVar 1) (mCons (mC (.int 41)) mNil)))) mNil))) (mFnL m__law_take (mCons (mVar 1) (mCons (mC (.int 2)) mNil)))) (mCons (mOp gIdx (mLst (mCons (mC (.str "k")) (mCons (mC (.int 5)) mNil))) (mFnL m__law_take (mCons (mVar 1) (mCons (mC (.int 2)) mNil)))) mNil)))
 (sSeq (sAsg (mTup (mCons (mFnL m__law_take (mCons (mVar 1) (mCons (mC (.int 8)) mNil))) (mCons (mOp gAdd (mC (.int 1)) (mFnL m__law_take (mCons (mVar 1) (mCons (mC (.int 9)) mNil)))) mNil))) (gN 4))
 (sSeq (sAsg (mLst (mCons (mTup (mCons (mC (.str "more")) (mCons (mOp (gI fun i j => some (.int (i - j))) (mFnL m__law_take (mCons (mVar 1) (mCons (mC (.int 9)) mNil))) (mC (.int 4))) mNil))) (mCons (mTup (mCons (mC (.str "set")) (mCons (mVar 2) mNil))) (mCons (mTup (mCons (mC (.str "add")) (mCons (mVar 2) mNil))) (mCons (mTup (mCons (mC (.str "drop")) (mCons (mVar 2) mNil))) (mCons (mTup (mCons (mC (.str "on")) mNil)) (mCons (mTup (mCons (mC (.str "off")) mNil)) (mCons (mTup (mCons (mC (.str "put")) (mCons (mVar 3) (mCons (mVar 2) mNil)))) (mCons (mTup (mCons (mC (.str "put")) (mCons (mC .none) (mCons (mVar 2) mNil)))) (mCons (mTup (mCons (mC (.str "put")) (mCons (mVar 4) (mCons (mVar 2) mNil)))) (mCons (mTup (mCons (mC (.str "cut")) (mCons (mVar 4) mNil))) (mCons (mTup (mCons (mC (.str "move")) (mCons (mC (.str "node")) (mCons (mC (.str "abcdefgh")) mNil)))) (mCons (mTup (mCons (mC (.str "undo")) (mCons (mVar 4) mNil))) (mCons (mTup (mCons (mC (.str "redo")) (mCons (mVar 4) mNil))) mNil)))))))))))))) (gN 5))
 (sSeq (sFor (mSeq (mVar 5)) (tgP (gN 6))
 (sIf (mTest (mOp gNe (mComp [16] (mSeq (mC (.tuple [(.str "counter"), (.str "last"), (.str "choices"), (.str "keeps"), (.str "drops"), (.str "flag"), (.str "map"), (.str "list"), (.str "tree")]))) (tgP (gN 16)) (mTruth (mFnF m_fits_kind (mCons (mVar 16) (mCons (mVar 6) mNil)))) (mVar 16)) (mComp [16] (mSeq (mC (.tuple [(.str "counter"), (.str "last"), (.str "choices"), (.str "keeps"), (.str "drops"), (.str "flag"), (.str "map"), (.str "list"), (.str "tree")]))) (tgP (gN 16)) (mTest (mOp (gIn false) (mVar 16) (mFnF m__law_kinds (mCons (mVar 6) mNil)))) (mVar 16))))
 (sRet (mC (.bool false)))
 sNx))
 (sSeq (sAsg (mLst (mCons (mC .none) (mCons (mTup mNil) (mCons (mC (.str "set")) (mCons (mTup (mCons (mC (.str "set")) mNil)) (mCons (mTup (mCons (mC (.str "set")) (mCons (mC (.int 1)) (mCons (mC (.int 2)) mNil)))) (mCons (mTup (mCons (mC (.str "set")) (mCons (mC (.bool true)) mNil))) (mCons (mTup (mCons (mC (.str "set")) (mCons (mC (.str "A")) mNil))) (mCons (mTup (mCons (mC (.str "set")) (mCons (mOp gMulS (mC (.str "a")) (mC (.int 41))) mNil))) (mCons (mTup (mCons (mC (.str "more")) (mCons (mC (.str "a")) mNil))) (mCons (mTup (mCons (mC (.str "more")) (mCons (mC (.bool true)) mNil))) (mCons (mTup (mCons (mC (.str "put")) (mCons (mTup (mCons (mC (.int 8)) (mCons (mC (.int 1)) mNil))) (mCons (mC (.int 1)) mNil)))) (mCons (mTup (mCons (mC (.str "put")) (mCons (mTup (mCons (mC (.int 0)) (mCons (mC (.int 0)) mNil))) (mCons (mC (.int 1)) mNil)))) (mCons (mTup (mCons (mC (.str "put")) (mCons (mTup (mCons (mC (.int 0)) mNil)) (mCons (mC (.int 1)) mNil)))) (mCons (mTup (mCons (mC (.str "cut")) (mCons (mC (.int 5)) mNil))) (mCons (mTup (mCons (mC (.str "cut")) (mCons (mC .none) mNil))) (mCons (mTup (mCons (mC (.str "move")) (mCons (mC (.str "")) (mCons (mC (.str "a")) mNil)))) (mCons (mTup (mCons (mC (.str "move")) (mCons (mC (.str "a")) (mCons (mC (.str "abcdefghi")) mNil)))) (mCons (mTup (mCons (mC (.str "move")) (mCons (mC (.int 1)) (mCons (mC (.str "a")) mNil)))) (mCons (mTup (mCons (mC (.str "on")) (mCons (mC (.int 1)) mNil))) (mCons (mTup (mCons (mC (.str "undo")) (mCons (mC (.int 3)) mNil))) (mCons (mTup (mCons (mC (.str "undo")) mNil)) (mCons (mLst (mCons (mC (.str "set")) (mCons (mC (.int 1)) mNil))) (mCons (mTup (mCons (mC .none) (mCons (mC (.int 1)) mNil))) (mCons (mTup (mCons (mC (.str "walk")) (mCons (mC (.int 1)) mNil))) (mCons (mTup (mCons (mC (.str "add")) (mCons (mC .none) mNil))) (mCons (mTup (mCons (mC (.str "drop")) mNil)) mNil))))))))))))))))))))))))))) (gN 7))
 (sSeq (sIf (mOrT (mTest (mOp gNe (mComp [6] (mSeq (mVar 7)) (tgP (gN 6)) (mTest (mOp gNe (mComp [16] (mSeq (mC (.tuple [(.str "counter"), (.str "last"), (.str "choices"), (.str "keeps"), (.str "drops"), (.str "flag"), (.str "map"), (.str "list"), (.str "tree")]))) (tgP (gN 16)) (mTruth (mFnF m_fits_kind (mCons (mVar 16) (mCons (mVar 6) mNil)))) (mVar 16)) (mLst mNil))) (mVar 6)) (mLst mNil))) (mNotT (mTruth (mIsi ["bool"] (mFn m_fits_kind (mCons (mC (.str "flag")) (mCons (mTup (mCons (mC (.str "on")) mNil)) mNil)))))))
 (sRet (mC (.bool false)))
 sNx)
 (sSeq (sAsg (mCall gTuple (mCons (mComp [9] (mRng rng1 (mCons (mC (.int 4)) mNil)) (tgP (gN 9)) (mTest (mOp gEq (mFnL m__law_take (mCons (mVar 1) (mCons (mC (.int 2)) mNil))) (mC (.int 0)))) (mTup (mCons (mVar 9) (mCons (mOp gAdd (mC (.int 1)) (mFnL m__law_take (mCons (mVar 1) (mCons (mC (.int 4)) mNil)))) mNil)))) mNil)) (gN 8))
 (sSeq (sAsg (mFnL m__law_take (mCons (mVar 1) (mCons (mC (.int 8)) mNil))) (gN 9))
 (sSeq (sAsg (mDGetE (mCall gDict (mCons (mVar 8) mNil)) (dV 9) (dC (.int 0))) (gN 10))
 (sSeq (sAsg (mTup (mCons (mTup (mCons (mVar 9) (mCons (mOp gAdd (mVar 10) (mC (.int 1))) mNil))) (mCons (mVar 8) (mCons (mC (.str "it")) (mCons (mOp gIdx (mVar 5) (mFnL m__law_take (mCons (mVar 1) (mCons (mC (.int 13)) mNil)))) mNil))))) (gN 11))
 (sSeq (sIf (mOrT (mTruth (mFnF m__law_refused (mCons (mC (.int 0)) (mCons (mVar 11) mNil)))) (mTest (mOp gNe (mFnF m_rank (mCons (mVar 11) mNil)) (mTup (mCons (mCall gSum (mCons (mComp [17, 18] (mSeq (mVar 8)) (tgP (gT 2 (gsCons (gN 17) (gsCons (gN 18) gsNil)))) mYes (mVar 18)) mNil)) (mCons (mVar 9) mNil))))))
 (sRet (mC (.bool false)))
 sNx)
 (sSeq (sAsg (mTup (mCons (mTup (mCons (mVar 9) (mCons (mOp gAdd (mVar 10) (mC (.int 2))) mNil))) (mCons (mCall gTuple (mCons (mSortE (mCall gDict (mCons (mOp gAdd (mCall gList (mCons (mVar 8) mNil)) (mLst (mCons (mTup (mCons (mVar 9) (mCons (mOp gAdd (mVar 10) (mC (.int 1))) mNil))) mNil))) mNil))) mNil)) (mCons (mC (.str "it")) (mCons (mTup (mCons (mC (.str "on")) mNil)) mNil))))) (gN 12))
 (sSeq (sIf (mOrT (mTruth (mFnF m__law_refused (mCons (mC (.int 0)) (mCons (mVar 12) mNil)))) (mNotT (mTest (mOp gLtD (mFnF m_rank (mCons (mVar 11) mNil)) (mFnF m_rank (mCons (mVar 12) mNil))))))
 (sRet (mC (.bool false)))
 sNx)
 (sSeq (sAsg (mLst (mCons (mC .none) (mCons (mTup mNil) (mCons (mSlice (mVar 11) mNoPart (mPart (mC (.int 3)))) (mCons (mOp gAdd (mVar 11) (mTup (mCons (mC (.int 0)) mNil))) (mCons (mTup (mCons (mTup (mCons (mVar 9) (mCons (mOp gAdd (mVar 10) (mC (.int 2))) mNil))) (mCons (mVar 8) (mCons (mC (.str "it")) (mCons (mTup (mCons (mC (.str "on")) mNil)) mNil))))) (mCons (mTup (mCons (mTup (mCons (mVar 9) (mCons (mC (.int 0)) mNil))) (mCons (mVar 8) (mCons (mC (.str "it")) (mCons (mTup (mCons (mC (.str "on")) mNil)) mNil))))) (mCons (mTup (mCons (mOp gIdx (mVar 11) (mC (.int 0))) (mCons (mC .none) (mCons (mC (.str "it")) (mCons (mTup (mCons (mC (.str "on")) mNil)) mNil))))) (mCons (mTup (mCons (mOp gIdx (mVar 11) (mC (.int 0))) (mCons (mVar 8) (mCons (mC (.str "")) (mCons (mTup (mCons (mC (.str "on")) mNil)) mNil))))) (mCons (mTup (mCons (mOp gIdx (mVar 11) (mC (.int 0))) (mCons (mVar 8) (mCons (mC (.str "It")) (mCons (mTup (mCons (mC (.str "on")) mNil)) mNil))))) (mCons (mTup (mCons (mOp gIdx (mVar 11) (mC (.int 0))) (mCons (mVar 8) (mCons (mC (.str "it")) (mCons (mTup (mCons (mC (.str "walk")) mNil)) mNil))))) (mCons (mTup (mCons (mOp gIdx (mVar 11) (mC (.int 0))) (mCons (mTup (mCons (mTup (mCons (mC (.int 1)) (mCons (mC (.int 0)) mNil))) mNil)) (mCons (mC (.str "it")) (mCons (mTup (mCons (mC (.str "on")) mNil)) mNil))))) (mCons (mTup (mCons (mTup (mCons (mC (.int 0)) (mCons (mC (.int 1)) mNil))) (mCons (mTup (mCons (mTup (mCons (mC (.int 2)) (mCons (mC (.int 1)) mNil))) (mCons (mTup (mCons (mC (.int 1)) (mCons (mC (.int 1)) mNil))) mNil))) (mCons (mC (.str "it")) (mCons (mTup (mCons (mC (.str "on")) mNil)) mNil))))) (mCons (mTup (mCons (mTup (mCons (mC (.int 8)) (mCons (mC (.int 1)) mNil))) (mCons (mTup mNil) (mCons (mC (.str "it")) (mCons (mTup (mCons (mC (.str "on")) mNil)) mNil))))) mNil)))))))))))))) (gN 13))
 (sSeq (sIf (mTest (mOp gNe (mComp [2] (mSeq (mVar 13)) (tgP (gN 2)) (mNotT (mTruth (mFnF m__law_refused (mCons (mC (.int 0)) (mCons (mVar 2) mNil))))) (mVar 2)) (mLst mNil)))
 (sRet (mC (.bool false)))
 sNx)
 (sSeq (sAsg (mTup (mCons (mTup (mCons (mC (.str "a")) (mCons (mC (.str "counter")) mNil))) (mCons (mTup (mCons (mC (.str "b")) (mCons (mOp gIdx (mC (.tuple [(.str "counter"), (.str "last"), (.str "choices"), (.str "keeps"), (.str "drops"), (.str "flag"), (.str "map"), (.str "list"), (.str "tree")])) (mFnL m__law_take (mCons (mVar 1) (mCons (mC (.int 9)) mNil)))) mNil))) mNil))) (gN 14))
 (sSeq (sAsg (mLst (mCons (mC .none) (mCons (mTup mNil) (mCons (mTup (mCons (mTup (mCons (mC (.str "b")) (mCons (mC (.str "flag")) mNil))) (mCons (mTup (mCons (mC (.str "a")) (mCons (mC (.str "flag")) mNil))) mNil))) (mCons (mTup (mCons (mTup (mCons (mC (.str "a")) (mCons (mC (.str "flag")) mNil))) (mCons (mTup (mCons (mC (.str "a")) (mCons (mC (.str "list")) mNil))) mNil))) (mCons (mTup (mCons (mTup (mCons (mC (.str "a")) mNil)) mNil)) (mCons (mTup (mCons (mTup (mCons (mC (.str "a")) (mCons (mC (.str "luck")) mNil))) mNil)) (mCons (mTup (mCons (mTup (mCons (mC (.str "")) (mCons (mC (.str "flag")) mNil))) mNil)) (mCons (mTup (mCons (mTup (mCons (mC (.str "a")) (mCons (mC .none) mNil))) mNil)) (mCons (mLst (mCons (mTup (mCons (mC (.str "a")) (mCons (mC (.str "flag")) mNil))) mNil)) (mCons (mTup (mCons (mTup (mCons (mC (.str "abcdefghi")) (mCons (mC (.str "flag")) mNil))) mNil)) (mCons (mTup (mCons (mTup (mCons (mC (.str "a")) (mCons (mC (.str "flag")) (mCons (mC (.int 1)) mNil)))) mNil)) mNil)))))))))))) (gN 15))
 (sRet (mAnd (mNot (mFnF m__law_refused (mCons (mC (.int 1)) (mCons (mVar 14) mNil)))) (mOp gEq (mComp [2] (mSeq (mVar 15)) (tgP (gN 2)) (mNotT (mTruth (mFnF m__law_refused (mCons (mC (.int 1)) (mCons (mVar 2) mNil))))) (mVar 2)) (mLst mNil)))))))))))))))))))))))
abbrev N_law : List Str := ["script", "draw", "value", "key", "dot", "right", "what", "wrong", "causes", "copy", "own", "deed", "later", "bad", "document", "none", "kind", "one", "n"]
def m_law : FnM := runB 1 N_law.length mb_law
theorem sc_law : FnScope N_law ["script"] (defScope (topS 32)) := ⟨rfl, rfl, rfl, by decide +kernel, rfl, by decide +kernel, by decide +kernel⟩
structure Tp (K : PySem.W.Frag) (mg : Str → Option Value) where
  _law_draw : FnH K mg "_law_draw" (topS 28) ["script"]
  _law_take : FnH K mg "_law_take" (topS 29) ["draw", "many"]
  is_integer : FnH K mg "is_integer" (topS 4) ["value", "low", "high"]
  is_copy : FnH K mg "is_copy" (topS 7) ["value"]
  is_dot : FnH K mg "is_dot" (topS 8) ["value"]
  is_vector : FnH K mg "is_vector" (topS 9) ["value"]
  count_of : FnH K mg "count_of" (topS 10) ["vector", "copy"]
  are_letters : FnH K mg "are_letters" (topS 17) ["value", "most"]
  is_label : FnH K mg "is_label" (topS 18) ["value"]
  is_value : FnH K mg "is_value" (topS 19) ["value"]
  fits_words : FnH K mg "fits_words" (topS 20) ["kind", "what"]
  fits_kind : FnH K mg "fits_kind" (topS 21) ["kind", "what"]
  is_deed : FnH K mg "is_deed" (topS 22) ["value"]
  check_deed : FnH K mg "check_deed" (topS 23) ["deed"]
  is_document : FnH K mg "is_document" (topS 25) ["value"]
  check_document : FnH K mg "check_document" (topS 26) ["document"]
  _law_refused : FnH K mg "_law_refused" (topS 30) ["kind", "value"]
  size_of : FnH K mg "size_of" (topS 11) ["vector"]
  rank : FnH K mg "rank" (topS 24) ["deed"]
  _law_kinds : FnH K mg "_law_kinds" (topS 31) ["what"]
  law : FnH K mg "law" (topS 32) ["script"]
  z_abs : mg "abs" = none
  z_all : mg "all" = none
  z_any : mg "any" = none
  z_bool : mg "bool" = none
  z_dict : mg "dict" = none
  z_int : mg "int" = none
  z_isinstance : mg "isinstance" = none
  z_len : mg "len" = none
  z_list : mg "list" = none
  z_range : mg "range" = none
  z_set : mg "set" = none
  z_sorted : mg "sorted" = none
  z_str : mg "str" = none
  z_sum : mg "sum" = none
  z_tuple : mg "tuple" = none
  z_zip : mg "zip" = none
  c_MAX_COPIES : CH K mg "MAX_COPIES" (.int 8)
  c_MAX_LABEL : CH K mg "MAX_LABEL" (.int 8)
  c_MAX_SIGNS : CH K mg "MAX_SIGNS" (.int 40)
  c_TURNS : CH K mg "TURNS" (.tuple [(.str "undo"), (.str "redo")])
  c_KINDS : CH K mg "KINDS" (.tuple [(.str "counter"), (.str "last"), (.str "choices"), (.str "keeps"), (.str "drops"), (.str "flag"), (.str "map"), (.str "list"), (.str "tree")])
  e_NotAllowed : ExH K mg "NotAllowed"
  e_MeetingError : ExH K mg "MeetingError"
  x_MeetingError_NotAllowed : PySem.W.subIn K (.ref e_MeetingError.C) (.ref e_NotAllowed.C) = some false
  x_NotAllowed_NotAllowed : PySem.W.subIn K (.ref e_NotAllowed.C) (.ref e_NotAllowed.C) = some true
section
variable {P : Program} {w : World} {K : PySem.W.Frag} {mg : Str → Option Value} {base : Heap}
theorem ok__law_draw (T : Tp K mg) (k : Nat) : FnG P w K mg base (L2.CX P w) (k + 1) T._law_draw.f T._law_draw.fd ["script"] (spM ⟨K, clOf mg⟩ 1 [] m__law_draw) := by
  have S := sc__law_draw
  refine fn_mir (n := 1) (N := N__law_draw) (lent := []) (mb := mb__law_draw) T._law_draw.F S rfl (by decide) (by decide) (by decide) ?_
  intro cdv A outer s H E W fx hr tk hp hfx
  exact ⟨_, (pss_cons (ps_set (i := 1) S.nd rfl (by first | exact Or.inl rfl | exact Or.inr rfl) pe_int)
 (pss_cons (ps_for hp rfl (pi_seq (pv 0)) (pg_name (i := 2) S.nd rfl (by first | exact Or.inl rfl | exact Or.inr rfl))
 (pss_one (ps_set (i := 1) S.nd rfl (by first | exact Or.inl rfl | exact Or.inr rfl) (pe_op op_mod (pe_callTy call_int1 (by rfl) T.z_int bt_int (pa_cons (pe_op op_addG (pe_op op_addG (pe_op op_mul (pv 1) pe_int) (pe_op op_mod (pe_callB call_abs (by rfl) T.z_abs bt_abs (pa_cons (pe_callTy call_int1 (by rfl) T.z_int bt_int (pa_cons (pv 2) pa_nil)) pa_nil)) pe_int)) pe_int) pa_nil)) pe_int))))
 (pss_one (ps_ret (pe_lst (pa_cons (by exact pe_lc rfl S.nd (pi_seq (pv 0)) (own := [("cell", 2)]) (blkOk_by (by rfl)) (fun _ _ _ _ _ => (pg_name (i := 2) S.nd rfl (by first | exact Or.inl rfl | exact Or.inr rfl))) (fun _ _ _ _ _ => pts_nil) (fun _ _ _ _ _ => (pe_callB call_abs (by rfl) T.z_abs bt_abs (pa_cons (pe_callTy call_int1 (by rfl) T.z_int bt_int (pa_cons (pv 2) pa_nil)) pa_nil)))) (pa_cons (pe_un un_neg pe_int) (pa_cons pe_int (pa_cons (pv 1) pa_nil))))))))),
    (rds_seq (rds_asg (rd_c fun F => .int _) rdg_name (fun p hp => absurd (hfx p hp) (by simp)))
 (rds_seq (rds_for (rdi_seq rd_var) (rdgP rdg_name) (fun p hp => absurd (hfx p hp) (by simp))
 (rds_asg (rd_op opg_mod (rd_call cg_int (rda_cons (rd_op opg_add (rd_op opg_add (rd_op opg_mul rd_var (rd_c fun F => .int _)) (rd_op opg_mod (rd_call cg_abs (rda_cons (rd_call cg_int (rda_cons rd_var rda_nil)) rda_nil)) (rd_c fun F => .int _))) (rd_c fun F => .int _)) rda_nil)) (rd_c fun F => .int _)) rdg_name (fun p hp => absurd (hfx p hp) (by simp))))
 (rds_ret (rd_lst (rda_cons (rd_comp (rdi_seq rd_var) (rdgP rdg_name) (by decide) rdt_yes (rd_call cg_abs (rda_cons (rd_call cg_int (rda_cons rd_var rda_nil)) rda_nil))) (rda_cons (rd_un ung_neg (rd_c fun F => .int _)) (rda_cons (rd_c fun F => .int _) (rda_cons rd_var rda_nil))))))))⟩
theorem ok__law_take (T : Tp K mg) (k : Nat) : FnG P w K mg base (L2.CX P w) (k + 1) T._law_take.f T._law_take.fd ["draw", "many"] (spM ⟨K, clOf mg⟩ 2 [0] m__law_take) := by
  have S := sc__law_take
  refine fn_mir (n := 2) (N := N__law_take) (lent := [0]) (mb := mb__law_take) T._law_take.F S rfl (by decide) (by decide) (by decide) ?_
  intro cdv A outer s H E W fx hr tk hp hfx
  exact ⟨_, (pss_cons (ps_if (pt_cmpR (op_eqD hr.units) (pe_ix ix_seq (pv 0) pe_int (fun _ _ => rfl)) pe_int (nomark _))
 (pss_cons (ps_asg (pe_op op_addG (pe_ix ix_seq (pv 0) pe_int (fun _ _ => rfl)) pe_int) (pg_sub (pv 0) pe_int set_list (fun _ => rfl)))
 (pss_cons (ps_if (pt_cmpR op_lt (pe_ix ix_seq (pv 0) pe_int (fun _ _ => rfl)) (pe_callB (call_len_seq.or call_len_str) (by rfl) T.z_len bt_len (pa_cons (pe_ix ix_seq (pv 0) pe_int (fun _ _ => rfl)) pa_nil)) (nomark _))
 (pss_one (ps_asg (pe_ix ix_seq (pe_ix ix_seq (pv 0) pe_int (fun _ _ => rfl)) (pe_ix ix_seq (pv 0) pe_int (fun _ _ => rfl)) (fun _ _ => rfl)) (pg_sub (pv 0) pe_int set_list (fun _ => rfl))))
 pss_nil)
 (pss_one (ps_if (pt_cmpR (op_eqD hr.units) (pe_ix ix_seq (pv 0) pe_int (fun _ _ => rfl)) pe_int (nomark _))
 (pss_cons (ps_asg (pe_op op_mod (pe_callTy call_int1 (by rfl) T.z_int bt_int (pa_cons (pe_op op_addG (pe_op op_mul (pe_ix ix_seq (pv 0) pe_int (fun _ _ => rfl)) pe_int) pe_int) pa_nil)) pe_int) (pg_sub (pv 0) pe_int set_list (fun _ => rfl)))
 (pss_one (ps_asg (pe_ix ix_seq (pv 0) pe_int (fun _ _ => rfl)) (pg_sub (pv 0) pe_int set_list (fun _ => rfl)))))
 pss_nil))))
 pss_nil)
 (pss_cons (ps_set (i := 2) S.nd rfl (by first | exact Or.inl rfl | exact Or.inr rfl) (pe_op op_mod (pe_callTy call_int1 (by rfl) T.z_int bt_int (pa_cons (pe_ix ix_seq (pv 0) pe_int (fun _ _ => rfl)) pa_nil)) (pv 1)))
 (pss_cons (ps_asg (pe_op op_fdiv (pe_ix ix_seq (pv 0) pe_int (fun _ _ => rfl)) (pv 1)) (pg_sub (pv 0) pe_int set_list (fun _ => rfl)))
 (pss_one (ps_ret (pv 2)))))),
    (rds_seq (rds_if (rdt_test (rd_op opg_eq (rd_op opg_idx rd_var (rd_c fun F => .int _)) (rd_c fun F => .int _)))
 (rds_seq (rds_setL (rd_op opg_add (rd_op opg_idx rd_var (rd_c fun F => .int _)) (rd_c fun F => .int _)) (rd_c fun F => .int _))
 (rds_seq (rds_if (rdt_test (rd_op opg_lt (rd_op opg_idx rd_var (rd_c fun F => .int _)) (rd_call cg_len (rda_cons (rd_op opg_idx rd_var (rd_c fun F => .int _)) rda_nil))))
 (rds_setL (rd_op opg_idx (rd_op opg_idx rd_var (rd_c fun F => .int _)) (rd_op opg_idx rd_var (rd_c fun F => .int _))) (rd_c fun F => .int _))
 rds_pass)
 (rds_if (rdt_test (rd_op opg_eq (rd_op opg_idx rd_var (rd_c fun F => .int _)) (rd_c fun F => .int _)))
 (rds_seq (rds_setL (rd_op opg_mod (rd_call cg_int (rda_cons (rd_op opg_add (rd_op opg_mul (rd_op opg_idx rd_var (rd_c fun F => .int _)) (rd_c fun F => .int _)) (rd_c fun F => .int _)) rda_nil)) (rd_c fun F => .int _)) (rd_c fun F => .int _))
 (rds_setL (rd_op opg_idx rd_var (rd_c fun F => .int _)) (rd_c fun F => .int _)))
 rds_pass)))
 rds_pass)
 (rds_seq (rds_asg (rd_op opg_mod (rd_call cg_int (rda_cons (rd_op opg_idx rd_var (rd_c fun F => .int _)) rda_nil)) rd_var) rdg_name (fxW hfx (by decide)))
 (rds_seq (rds_setL (rd_op opg_fdiv (rd_op opg_idx rd_var (rd_c fun F => .int _)) rd_var) (rd_c fun F => .int _))
 (rds_ret rd_var))))⟩
theorem ok_is_integer (T : Tp K mg) (k : Nat) : FnG P w K mg base (L2.CX P w) (k + 1) T.is_integer.f T.is_integer.fd ["value", "low", "high"] (spM ⟨K, clOf mg⟩ 3 [] m_is_integer) := by
  have S := sc_is_integer
  refine fn_mir (n := 3) (N := N_is_integer) (lent := []) (mb := mb_is_integer) T.is_integer.F S rfl (by decide) (by decide) (by decide) ?_
  intro cdv A outer s H E W fx hr tk hp hfx
  exact ⟨_, (pss_cons (ps_if (pw_or (pt_not (pt_truth (pe_callB call_isi (by rfl) T.z_isinstance bt_isinstance (pa_cons (pv 0) (pa_cons (pe_bltn (v := .ty "int") (by rfl) T.z_int bt_int rfl) pa_nil))) (fun _ => rfl))) (pw_or1 (pt_truth (pe_callB call_isi (by rfl) T.z_isinstance bt_isinstance (pa_cons (pv 0) (pa_cons (pe_bltn (v := .ty "bool") (by rfl) T.z_bool bt_bool rfl) pa_nil))) (fun _ => rfl)))).pt
 (pss_one (ps_ret pe_bl))
 pss_nil)
 (pss_one (ps_ret (pe_andT (pe_orT (pe_cmpR op_isG (pv 1) pe_non (nomark _)) (pe_one (pe_cmpR op_ge (pv 0) (pv 1) (nomark _)))) (pe_one (pe_orT (pe_cmpR op_isG (pv 2) pe_non (nomark _)) (pe_one (pe_cmpR op_le (pv 0) (pv 2) (nomark _))))))))),
    (rds_seq (rds_if (rdt_or (rdt_not (rdt_truth (rd_isi (by decide +kernel) rd_var))) (rdt_truth (rd_isi (by decide +kernel) rd_var)))
 (rds_ret (rd_c fun F => .bl _))
 rds_pass)
 (rds_ret (rd_and (rd_or (rd_op opg_isG rd_var (rd_c fun F => .non)) (rd_op opg_ge rd_var rd_var)) (rd_or (rd_op opg_isG rd_var (rd_c fun F => .non)) (rd_op opg_le rd_var rd_var)))))⟩
theorem ok_is_copy (T : Tp K mg) (k : Nat) : FnG P w K mg base (L2.CX P w) (k + 2) T.is_copy.f T.is_copy.fd ["value"] (spM ⟨K, clOf mg⟩ 1 [] m_is_copy) := by
  have S := sc_is_copy
  refine fn_mir (n := 1) (N := N_is_copy) (lent := []) (mb := mb_is_copy) T.is_copy.F S rfl (by decide) (by decide) (by decide) ?_
  intro cdv A outer s H E W fx hr tk hp hfx
  exact ⟨_, (pss_one (ps_ret (pe_callG (ok_is_integer T (k + 0)) hr (by rfl) T.is_integer.g T.is_integer.F.kp T.is_integer.b (passAt tk) (pa_cons (pv 0) (pa_cons pe_int (pa_cons (pe_op op_sub (pe_glob (by rfl) T.c_MAX_COPIES.g T.c_MAX_COPIES.r) pe_int) pa_nil)))))),
    (rds_ret (rd_fn (fun _ _ _ h => runB_n h) (rda_cons rd_var (rda_cons (rd_c fun F => .int _) (rda_cons (rd_op opg_sub (rd_c T.c_MAX_COPIES.q) (rd_c fun F => .int _)) rda_nil)))))⟩
theorem ok_is_dot (T : Tp K mg) (k : Nat) : FnG P w K mg base (L2.CX P w) (k + 3) T.is_dot.f T.is_dot.fd ["value"] (spM ⟨K, clOf mg⟩ 1 [] m_is_dot) := by
  have S := sc_is_dot
  refine fn_mir (n := 1) (N := N_is_dot) (lent := []) (mb := mb_is_dot) T.is_dot.F S rfl (by decide) (by decide) (by decide) ?_
  intro cdv A outer s H E W fx hr tk hp hfx
  exact ⟨_, (pss_one (ps_ret (pe_andT (pe_callB call_isi (by rfl) T.z_isinstance bt_isinstance (pa_cons (pv 0) (pa_cons (pe_bltn (v := .ty "tuple") (by rfl) T.z_tuple bt_tuple rfl) pa_nil))) (pe_andT (pe_cmpR (op_eqD hr.units) (pe_callB (call_len_seq.or call_len_str) (by rfl) T.z_len bt_len (pa_cons (pv 0) pa_nil)) pe_int (nomark _)) (pe_andT (pe_callG (ok_is_copy T (k + 0)) hr (by rfl) T.is_copy.g T.is_copy.F.kp T.is_copy.b (passAt tk) (pa_cons (pe_ix ix_seq (pv 0) pe_int (fun _ _ => rfl)) pa_nil)) (pe_one (pe_callG (ok_is_integer T (k + 1)) hr (by rfl) T.is_integer.g T.is_integer.F.kp T.is_integer.b (passAt tk) (pa_cons (pe_ix ix_seq (pv 0) pe_int (fun _ _ => rfl)) (pa_cons pe_int (pa_cons pe_non pa_nil)))))))))),
    (rds_ret (rd_and (rd_isi (by decide +kernel) rd_var) (rd_and (rd_op opg_eq (rd_call cg_len (rda_cons rd_var rda_nil)) (rd_c fun F => .int _)) (rd_and (rd_fn (fun _ _ _ h => runB_n h) (rda_cons (rd_op opg_idx rd_var (rd_c fun F => .int _)) rda_nil)) (rd_fn (fun _ _ _ h => runB_n h) (rda_cons (rd_op opg_idx rd_var (rd_c fun F => .int _)) (rda_cons (rd_c fun F => .int _) (rda_cons (rd_c fun F => .non) rda_nil))))))))⟩
theorem ok_is_vector (T : Tp K mg) (k : Nat) : FnG P w K mg base (L2.CX P w) (k + 4) T.is_vector.f T.is_vector.fd ["value"] (spM ⟨K, clOf mg⟩ 1 [] m_is_vector) := by
  have S := sc_is_vector
  refine fn_mir (n := 1) (N := N_is_vector) (lent := []) (mb := mb_is_vector) T.is_vector.F S rfl (by decide) (by decide) (by decide) ?_
  intro cdv A outer s H E W fx hr tk hp hfx
  exact ⟨_, (pss_cons (ps_if (pw_or (pt_not (pt_truth (pe_callB call_isi (by rfl) T.z_isinstance bt_isinstance (pa_cons (pv 0) (pa_cons (pe_bltn (v := .ty "tuple") (by rfl) T.z_tuple bt_tuple rfl) pa_nil))) (fun _ => rfl))) (pw_or1 (pt_not (pt_truth (pe_callB (cr_all rfl) (by rfl) T.z_all bt_all (pa_cons (by exact pe_lc rfl S.nd (pi_seq (pv 0)) (own := [("one", 1)]) (blkOk_by (by rfl)) (fun _ _ _ _ _ => (pg_name (i := 1) S.nd rfl (by first | exact Or.inl rfl | exact Or.inr rfl))) (fun _ _ _ _ _ => pts_nil) (fun _ _ _ _ _ => (pe_callG (ok_is_dot T (k + 0)) hr (by rfl) T.is_dot.g T.is_dot.F.kp T.is_dot.b (passAt takes0) (pa_cons (pv 1) pa_nil)))) pa_nil)) (fun _ => rfl))))).pt
 (pss_one (ps_ret pe_bl))
 pss_nil)
 (pss_one (ps_ret (pe_callB (cr_all rfl) (by rfl) T.z_all bt_all (pa_cons (by exact pe_lc rfl S.nd (RZ.pi_zipA (by rfl) T.z_zip (pa_cons (pv 0) (pa_cons (pe_slice sl_G (pv 0) (po_some pe_int) po_none) pa_nil))) (own := [("one", 1), ("other", 2)]) (blkOk_by (by rfl)) (fun _ _ _ _ _ => (pg_tup rfl (pgs_cons (pg_name (i := 1) S.nd rfl (by first | exact Or.inl rfl | exact Or.inr rfl)) (pgs_cons (pg_name (i := 2) S.nd rfl (by first | exact Or.inl rfl | exact Or.inr rfl)) pgs_nil)))) (fun _ _ _ _ _ => pts_nil) (fun _ _ _ _ _ => (pe_cmpR op_lt (pe_ix ix_seq (pv 1) pe_int (fun _ _ => rfl)) (pe_ix ix_seq (pv 2) pe_int (fun _ _ => rfl)) (nomark _)))) pa_nil))))),
    (rds_seq (rds_if (rdt_or (rdt_not (rdt_truth (rd_isi (by decide +kernel) rd_var))) (rdt_not (rdt_truth (rd_call cg_all (rda_cons (rd_comp (rdi_seq rd_var) (rdgP rdg_name) (by decide) rdt_yes (rd_fnF (fun _ h => runB_n h) (rda_cons rd_var rda_nil))) rda_nil)))))
 (rds_ret (rd_c fun F => .bl _))
 rds_pass)
 (rds_ret (rd_call cg_all (rda_cons (rd_comp (rdi_zip (rda_cons rd_var (rda_cons (rd_slice rd_var (rdo_some (rd_c fun F => .int _)) rdo_none) rda_nil))) (rdg2 rdg_name rdg_name) (by decide) rdt_yes (rd_op opg_lt (rd_op opg_idx rd_var (rd_c fun F => .int _)) (rd_op opg_idx rd_var (rd_c fun F => .int _)))) rda_nil))))⟩
theorem ok_count_of (T : Tp K mg) (k : Nat) : FnG P w K mg base (L2.CX P w) (k + 1) T.count_of.f T.count_of.fd ["vector", "copy"] (spM ⟨K, clOf mg⟩ 2 [] m_count_of) := by
  have S := sc_count_of
  refine fn_mir (n := 2) (N := N_count_of) (lent := []) (mb := mb_count_of) T.count_of.F S rfl (by decide) (by decide) (by decide) ?_
  intro cdv A outer s H E W fx hr tk hp hfx
  exact ⟨_, (pss_one (ps_ret (pe_callB (cr_sum rfl) (by rfl) T.z_sum bt_sum (pa_cons (by exact pe_lc rfl S.nd (pi_seq (pv 0)) (own := [("one", 2), ("n", 3)]) (blkOk_by (by rfl)) (fun _ _ _ _ _ => (pg_tup rfl (pgs_cons (pg_name (i := 2) S.nd rfl (by first | exact Or.inl rfl | exact Or.inr rfl)) (pgs_cons (pg_name (i := 3) S.nd rfl (by first | exact Or.inl rfl | exact Or.inr rfl)) pgs_nil)))) (fun _ _ _ _ _ => (pts_one (pt_cmpR (op_eqD hr.units) (pv 2) (pv 1) (nomark _)))) (fun _ _ _ _ _ => (pv 3))) pa_nil)))),
    (rds_ret (rd_call cg_sum (rda_cons (rd_comp (rdi_seq rd_var) (rdgP (rdg_tup (rdgs_cons rdg_name (rdgs_cons rdg_name rdgs_nil)))) (by decide) (rdt_test (rd_op opg_eq rd_var rd_var)) rd_var) rda_nil)))⟩
theorem ok_are_letters (T : Tp K mg) (k : Nat) : FnG P w K mg base (L2.CX P w) (k + 1) T.are_letters.f T.are_letters.fd ["value", "most"] (spM ⟨K, clOf mg⟩ 2 [] m_are_letters) := by
  have S := sc_are_letters
  refine fn_mir (n := 2) (N := N_are_letters) (lent := []) (mb := mb_are_letters) T.are_letters.F S rfl (by decide) (by decide) (by decide) ?_
  intro cdv A outer s H E W fx hr tk hp hfx
  exact ⟨_, (pss_one (ps_ret (pe_andT (pe_callB call_isi (by rfl) T.z_isinstance bt_isinstance (pa_cons (pv 0) (pa_cons (pe_bltn (v := .ty "str") (by rfl) T.z_str bt_str rfl) pa_nil))) (pe_andT (pe_cmpR op_le (pe_callB (call_len_seq.or call_len_str) (by rfl) T.z_len bt_len (pa_cons (pv 0) pa_nil)) (pv 1) (nomark _)) (pe_one (pe_callB (cr_all rfl) (by rfl) T.z_all bt_all (pa_cons (by exact pe_lc rfl S.nd (pi_seq (pv 0)) (own := [("sign", 2)]) (blkOk_by (by rfl)) (fun _ _ _ _ _ => (pg_name (i := 2) S.nd rfl (by first | exact Or.inl rfl | exact Or.inr rfl))) (fun _ _ _ _ _ => pts_nil) (fun _ _ _ _ _ => (pe_chain op_le_str op_le_str pe_str (pv 2) pe_str))) pa_nil))))))),
    (rds_ret (rd_and (rd_isi (by decide +kernel) rd_var) (rd_and (rd_op opg_le (rd_call cg_len (rda_cons rd_var rda_nil)) rd_var) (rd_call cg_all (rda_cons (rd_comp (rdi_seq rd_var) (rdgP rdg_name) (by decide) rdt_yes (rd_chain opg_leS opg_leS (rd_c fun F => .str _) rd_var (rd_c fun F => .str _))) rda_nil)))))⟩
theorem ok_is_label (T : Tp K mg) (k : Nat) : FnG P w K mg base (L2.CX P w) (k + 2) T.is_label.f T.is_label.fd ["value"] (spM ⟨K, clOf mg⟩ 1 [] m_is_label) := by
  have S := sc_is_label
  refine fn_mir (n := 1) (N := N_is_label) (lent := []) (mb := mb_is_label) T.is_label.F S rfl (by decide) (by decide) (by decide) ?_
  intro cdv A outer s H E W fx hr tk hp hfx
  exact ⟨_, (pss_one (ps_ret (pe_andT (pe_callG (ok_are_letters T (k + 0)) hr (by rfl) T.are_letters.g T.are_letters.F.kp T.are_letters.b (passAt tk) (pa_cons (pv 0) (pa_cons (pe_glob (by rfl) T.c_MAX_LABEL.g T.c_MAX_LABEL.r) pa_nil))) (pe_one (pe_cmpR (op_neD hr.units) (pv 0) pe_str (nomark _)))))),
    (rds_ret (rd_and (rd_fn (fun _ _ _ h => runB_n h) (rda_cons rd_var (rda_cons (rd_c T.c_MAX_LABEL.q) rda_nil))) (rd_op opg_ne rd_var (rd_c fun F => .str _))))⟩
theorem ok_is_value (T : Tp K mg) (k : Nat) : FnG P w K mg base (L2.CX P w) (k + 2) T.is_value.f T.is_value.fd ["value"] (spM ⟨K, clOf mg⟩ 1 [] m_is_value) := by
  have S := sc_is_value
  refine fn_mir (n := 1) (N := N_is_value) (lent := []) (mb := mb_is_value) T.is_value.F S rfl (by decide) (by decide) (by decide) ?_
  intro cdv A outer s H E W fx hr tk hp hfx
  exact ⟨_, (pss_one (ps_ret (pe_orT (pe_callG (ok_is_integer T (k + 0)) hr (by rfl) T.is_integer.g T.is_integer.F.kp T.is_integer.b (passAt tk) (pa_cons (pv 0) (pa_cons pe_non (pa_cons pe_non pa_nil)))) (pe_one (pe_callG (ok_are_letters T (k + 0)) hr (by rfl) T.are_letters.g T.are_letters.F.kp T.are_letters.b (passAt tk) (pa_cons (pv 0) (pa_cons (pe_glob (by rfl) T.c_MAX_SIGNS.g T.c_MAX_SIGNS.r) pa_nil))))))),
    (rds_ret (rd_or (rd_fn (fun _ _ _ h => runB_n h) (rda_cons rd_var (rda_cons (rd_c fun F => .non) (rda_cons (rd_c fun F => .non) rda_nil)))) (rd_fn (fun _ _ _ h => runB_n h) (rda_cons rd_var (rda_cons (rd_c T.c_MAX_SIGNS.q) rda_nil)))))⟩
theorem ok_fits_words (T : Tp K mg) (k : Nat) : FnG P w K mg base (L2.CX P w) (k + 4) T.fits_words.f T.fits_words.fd ["kind", "what"] (spM ⟨K, clOf mg⟩ 2 [] m_fits_words) := by
  have S := sc_fits_words
  refine fn_mir (n := 2) (N := N_fits_words) (lent := []) (mb := mb_fits_words) T.fits_words.F S rfl (by decide) (by decide) (by decide) ?_
  intro cdv A outer s H E W fx hr tk hp hfx
  exact ⟨_, (pss_cons (ps_par (i := 2) (j := 3) rfl S.nd rfl rfl (by decide) rfl rfl (pa_cons (pe_ix ix_seq (pv 1) pe_int (fun _ _ => rfl)) (pa_cons (pe_slice sl_G (pv 1) (po_some pe_int) po_none) pa_nil)) (by rfl))
 (pss_cons (ps_if (pt_cmpR (op_eqD hr.units) (pv 0) pe_str (nomark _))
 (pss_one (ps_ret (pe_andT (pe_cmpR (op_eqD hr.units) (pv 2) pe_str (nomark _)) (pe_andT (pe_cmpR (op_eqD hr.units) (pe_callB (call_len_seq.or call_len_str) (by rfl) T.z_len bt_len (pa_cons (pv 3) pa_nil)) pe_int (nomark _)) (pe_one (pe_callG (ok_is_integer T (k + 2)) hr (by rfl) T.is_integer.g T.is_integer.F.kp T.is_integer.b (passAt tk) (pa_cons (pe_ix ix_seq (pv 3) pe_int (fun _ _ => rfl)) (pa_cons pe_non (pa_cons pe_non pa_nil)))))))))
 pss_nil)
 (pss_cons (ps_if (pt_cmpR (op_inG (un65 hr)) (pv 0) (pe_tupC (pa_cons pe_str (pa_cons pe_str pa_nil))) (by with_unfolding_all rfl))
 (pss_one (ps_ret (pe_andT (pe_cmpR (op_eqD hr.units) (pv 2) pe_str (nomark _)) (pe_andT (pe_cmpR (op_eqD hr.units) (pe_callB (call_len_seq.or call_len_str) (by rfl) T.z_len bt_len (pa_cons (pv 3) pa_nil)) pe_int (nomark _)) (pe_one (pe_callG (ok_is_value T (k + 1)) hr (by rfl) T.is_value.g T.is_value.F.kp T.is_value.b (passAt tk) (pa_cons (pe_ix ix_seq (pv 3) pe_int (fun _ _ => rfl)) pa_nil)))))))
 pss_nil)
 (pss_cons (ps_if (pt_cmpR (op_inG (un65 hr)) (pv 0) (pe_tupC (pa_cons pe_str (pa_cons pe_str pa_nil))) (by with_unfolding_all rfl))
 (pss_one (ps_ret (pe_andT (pe_cmpR (op_inG (un65 hr)) (pv 2) (pe_tupC (pa_cons pe_str (pa_cons pe_str pa_nil))) (by with_unfolding_all rfl)) (pe_andT (pe_cmpR (op_eqD hr.units) (pe_callB (call_len_seq.or call_len_str) (by rfl) T.z_len bt_len (pa_cons (pv 3) pa_nil)) pe_int (nomark _)) (pe_one (pe_callG (ok_is_value T (k + 1)) hr (by rfl) T.is_value.g T.is_value.F.kp T.is_value.b (passAt tk) (pa_cons (pe_ix ix_seq (pv 3) pe_int (fun _ _ => rfl)) pa_nil)))))))
 pss_nil)
 (pss_cons (ps_if (pt_cmpR (op_eqD hr.units) (pv 0) pe_str (nomark _))
 (pss_one (ps_ret (pe_andT (pe_cmpR (op_inG (un65 hr)) (pv 2) (pe_tupC (pa_cons pe_str (pa_cons pe_str pa_nil))) (by with_unfolding_all rfl)) (pe_one (pe_notT (pv 3))))))
 pss_nil)
 (pss_cons (ps_if (pt_cmpR (op_eqD hr.units) (pv 0) pe_str (nomark _))
 (pss_cons (ps_if (pt_cmpR (op_eqD hr.units) (pv 2) pe_str (nomark _))
 (pss_one (ps_ret (pe_andT (pe_cmpR (op_eqD hr.units) (pe_callB (call_len_seq.or call_len_str) (by rfl) T.z_len bt_len (pa_cons (pv 3) pa_nil)) pe_int (nomark _)) (pe_one (pe_callG (ok_is_value T (k + 1)) hr (by rfl) T.is_value.g T.is_value.F.kp T.is_value.b (passAt tk) (pa_cons (pe_ix ix_seq (pv 3) pe_int (fun _ _ => rfl)) pa_nil))))))
 pss_nil)
 (pss_one (ps_ret (pe_andT (pe_cmpR (op_eqD hr.units) (pv 2) pe_str (nomark _)) (pe_andT (pe_cmpR (op_eqD hr.units) (pe_callB (call_len_seq.or call_len_str) (by rfl) T.z_len bt_len (pa_cons (pv 3) pa_nil)) pe_int (nomark _)) (pe_andT (pe_callG (ok_is_value T (k + 1)) hr (by rfl) T.is_value.g T.is_value.F.kp T.is_value.b (passAt tk) (pa_cons (pe_ix ix_seq (pv 3) pe_int (fun _ _ => rfl)) pa_nil)) (pe_one (pe_callG (ok_is_value T (k + 1)) hr (by rfl) T.is_value.g T.is_value.F.kp T.is_value.b (passAt tk) (pa_cons (pe_ix ix_seq (pv 3) pe_int (fun _ _ => rfl)) pa_nil)))))))))
 pss_nil)
 (pss_cons (ps_if (pt_cmpR (op_eqD hr.units) (pv 0) pe_str (nomark _))
 (pss_cons (ps_if (pt_cmpR (op_eqD hr.units) (pv 2) pe_str (nomark _))
 (pss_one (ps_ret (pe_andT (pe_cmpR (op_eqD hr.units) (pe_callB (call_len_seq.or call_len_str) (by rfl) T.z_len bt_len (pa_cons (pv 3) pa_nil)) pe_int (nomark _)) (pe_one (pe_callG (ok_is_dot T (k + 0)) hr (by rfl) T.is_dot.g T.is_dot.F.kp T.is_dot.b (passAt tk) (pa_cons (pe_ix ix_seq (pv 3) pe_int (fun _ _ => rfl)) pa_nil))))))
 pss_nil)
 (pss_cons (ps_set (i := 4) S.nd rfl (by first | exact Or.inl rfl | exact Or.inr rfl) (pe_andT (pe_cmpR (op_eqD hr.units) (pv 2) pe_str (nomark _)) (pe_andT (pe_cmpR (op_eqD hr.units) (pe_callB (call_len_seq.or call_len_str) (by rfl) T.z_len bt_len (pa_cons (pv 3) pa_nil)) pe_int (nomark _)) (pe_one (pe_callG (ok_is_value T (k + 1)) hr (by rfl) T.is_value.g T.is_value.F.kp T.is_value.b (passAt tk) (pa_cons (pe_ix ix_seq (pv 3) pe_int (fun _ _ => rfl)) pa_nil))))))
 (pss_one (ps_ret (pe_andT (pv 4) (pe_one (pe_orT (pe_cmpR op_isG (pe_ix ix_seq (pv 3) pe_int (fun _ _ => rfl)) pe_non (nomark _)) (pe_one (pe_callG (ok_is_dot T (k + 0)) hr (by rfl) T.is_dot.g T.is_dot.F.kp T.is_dot.b (passAt tk) (pa_cons (pe_ix ix_seq (pv 3) pe_int (fun _ _ => rfl)) pa_nil))))))))))
 pss_nil)
 (pss_one (ps_ret (pe_andT (pe_cmpR (op_eqD hr.units) (pv 2) pe_str (nomark _)) (pe_andT (pe_cmpR (op_eqD hr.units) (pe_callB (call_len_seq.or call_len_str) (by rfl) T.z_len bt_len (pa_cons (pv 3) pa_nil)) pe_int (nomark _)) (pe_andT (pe_callG (ok_is_label T (k + 1)) hr (by rfl) T.is_label.g T.is_label.F.kp T.is_label.b (passAt tk) (pa_cons (pe_ix ix_seq (pv 3) pe_int (fun _ _ => rfl)) pa_nil)) (pe_one (pe_callG (ok_is_label T (k + 1)) hr (by rfl) T.is_label.g T.is_label.F.kp T.is_label.b (passAt tk) (pa_cons (pe_ix ix_seq (pv 3) pe_int (fun _ _ => rfl)) pa_nil))))))))))))))),
    (rds_seq (rds_par (rda_cons (rd_op opg_idx rd_var (rd_c fun F => .int _)) (rda_cons (rd_slice rd_var (rdo_some (rd_c fun F => .int _)) rdo_none) rda_nil)) (fun p hp => absurd (hfx p hp) (by simp)))
 (rds_seq (rds_if (rdt_test (rd_op opg_eq rd_var (rd_c fun F => .str _)))
 (rds_ret (rd_and (rd_op opg_eq rd_var (rd_c fun F => .str _)) (rd_and (rd_op opg_eq (rd_call cg_len (rda_cons rd_var rda_nil)) (rd_c fun F => .int _)) (rd_fn (fun _ _ _ h => runB_n h) (rda_cons (rd_op opg_idx rd_var (rd_c fun F => .int _)) (rda_cons (rd_c fun F => .non) (rda_cons (rd_c fun F => .non) rda_nil)))))))
 rds_pass)
 (rds_seq (rds_if (rdt_test (rd_op opg_in rd_var (rd_tup (rda_cons (rd_c fun F => .str _) (rda_cons (rd_c fun F => .str _) rda_nil)))))
 (rds_ret (rd_and (rd_op opg_eq rd_var (rd_c fun F => .str _)) (rd_and (rd_op opg_eq (rd_call cg_len (rda_cons rd_var rda_nil)) (rd_c fun F => .int _)) (rd_fn (fun _ _ _ h => runB_n h) (rda_cons (rd_op opg_idx rd_var (rd_c fun F => .int _)) rda_nil)))))
 rds_pass)
 (rds_seq (rds_if (rdt_test (rd_op opg_in rd_var (rd_tup (rda_cons (rd_c fun F => .str _) (rda_cons (rd_c fun F => .str _) rda_nil)))))
 (rds_ret (rd_and (rd_op opg_in rd_var (rd_tup (rda_cons (rd_c fun F => .str _) (rda_cons (rd_c fun F => .str _) rda_nil)))) (rd_and (rd_op opg_eq (rd_call cg_len (rda_cons rd_var rda_nil)) (rd_c fun F => .int _)) (rd_fn (fun _ _ _ h => runB_n h) (rda_cons (rd_op opg_idx rd_var (rd_c fun F => .int _)) rda_nil)))))
 rds_pass)
 (rds_seq (rds_if (rdt_test (rd_op opg_eq rd_var (rd_c fun F => .str _)))
 (rds_ret (rd_and (rd_op opg_in rd_var (rd_tup (rda_cons (rd_c fun F => .str _) (rda_cons (rd_c fun F => .str _) rda_nil)))) (rd_not rd_var)))
 rds_pass)
 (rds_seq (rds_if (rdt_test (rd_op opg_eq rd_var (rd_c fun F => .str _)))
 (rds_seq (rds_if (rdt_test (rd_op opg_eq rd_var (rd_c fun F => .str _)))
 (rds_ret (rd_and (rd_op opg_eq (rd_call cg_len (rda_cons rd_var rda_nil)) (rd_c fun F => .int _)) (rd_fn (fun _ _ _ h => runB_n h) (rda_cons (rd_op opg_idx rd_var (rd_c fun F => .int _)) rda_nil))))
 rds_pass)
 (rds_ret (rd_and (rd_op opg_eq rd_var (rd_c fun F => .str _)) (rd_and (rd_op opg_eq (rd_call cg_len (rda_cons rd_var rda_nil)) (rd_c fun F => .int _)) (rd_and (rd_fn (fun _ _ _ h => runB_n h) (rda_cons (rd_op opg_idx rd_var (rd_c fun F => .int _)) rda_nil)) (rd_fn (fun _ _ _ h => runB_n h) (rda_cons (rd_op opg_idx rd_var (rd_c fun F => .int _)) rda_nil)))))))
 rds_pass)
 (rds_seq (rds_if (rdt_test (rd_op opg_eq rd_var (rd_c fun F => .str _)))
 (rds_seq (rds_if (rdt_test (rd_op opg_eq rd_var (rd_c fun F => .str _)))
 (rds_ret (rd_and (rd_op opg_eq (rd_call cg_len (rda_cons rd_var rda_nil)) (rd_c fun F => .int _)) (rd_fn (fun _ _ _ h => runB_n h) (rda_cons (rd_op opg_idx rd_var (rd_c fun F => .int _)) rda_nil))))
 rds_pass)
 (rds_seq (rds_asg (rd_and (rd_op opg_eq rd_var (rd_c fun F => .str _)) (rd_and (rd_op opg_eq (rd_call cg_len (rda_cons rd_var rda_nil)) (rd_c fun F => .int _)) (rd_fn (fun _ _ _ h => runB_n h) (rda_cons (rd_op opg_idx rd_var (rd_c fun F => .int _)) rda_nil)))) rdg_name (fun p hp => absurd (hfx p hp) (by simp)))
 (rds_ret (rd_and rd_var (rd_or (rd_op opg_isG (rd_op opg_idx rd_var (rd_c fun F => .int _)) (rd_c fun F => .non)) (rd_fn (fun _ _ _ h => runB_n h) (rda_cons (rd_op opg_idx rd_var (rd_c fun F => .int _)) rda_nil)))))))
 rds_pass)
 (rds_ret (rd_and (rd_op opg_eq rd_var (rd_c fun F => .str _)) (rd_and (rd_op opg_eq (rd_call cg_len (rda_cons rd_var rda_nil)) (rd_c fun F => .int _)) (rd_and (rd_fn (fun _ _ _ h => runB_n h) (rda_cons (rd_op opg_idx rd_var (rd_c fun F => .int _)) rda_nil)) (rd_fn (fun _ _ _ h => runB_n h) (rda_cons (rd_op opg_idx rd_var (rd_c fun F => .int _)) rda_nil)))))))))))))⟩
theorem ok_fits_kind (T : Tp K mg) (k : Nat) : FnG P w K mg base (L2.CX P w) (k + 5) T.fits_kind.f T.fits_kind.fd ["kind", "what"] (spM ⟨K, clOf mg⟩ 2 [] m_fits_kind) := by
  have S := sc_fits_kind
  refine fn_mir (n := 2) (N := N_fits_kind) (lent := []) (mb := mb_fits_kind) T.fits_kind.F S rfl (by decide) (by decide) (by decide) ?_
  intro cdv A outer s H E W fx hr tk hp hfx
  exact ⟨_, (pss_cons (ps_if (pw_or (pt_not (pt_truth (pe_callB call_isi (by rfl) T.z_isinstance bt_isinstance (pa_cons (pv 1) (pa_cons (pe_bltn (v := .ty "tuple") (by rfl) T.z_tuple bt_tuple rfl) pa_nil))) (fun _ => rfl))) (pw_or (pt_cmpR (op_eqD hr.units) (pe_callB (call_len_seq.or call_len_str) (by rfl) T.z_len bt_len (pa_cons (pv 1) pa_nil)) pe_int (nomark _)) (pw_or1 (pt_not (pt_truth (pe_callB call_isi (by rfl) T.z_isinstance bt_isinstance (pa_cons (pe_ix ix_seq (pv 1) pe_int (fun _ _ => rfl)) (pa_cons (pe_bltn (v := .ty "str") (by rfl) T.z_str bt_str rfl) pa_nil))) (fun _ => rfl)))))).pt
 (pss_one (ps_ret pe_bl))
 pss_nil)
 (pss_cons (ps_if (pt_cmpR (op_inG (un65 hr)) (pe_ix ix_seq (pv 1) pe_int (fun _ _ => rfl)) (pe_glob (by rfl) T.c_TURNS.g T.c_TURNS.r) (by with_unfolding_all rfl))
 (pss_one (ps_ret (pe_andT (pe_cmpR (op_eqD hr.units) (pe_callB (call_len_seq.or call_len_str) (by rfl) T.z_len bt_len (pa_cons (pv 1) pa_nil)) pe_int (nomark _)) (pe_one (pe_callG (ok_is_dot T (k + 1)) hr (by rfl) T.is_dot.g T.is_dot.F.kp T.is_dot.b (passAt tk) (pa_cons (pe_ix ix_seq (pv 1) pe_int (fun _ _ => rfl)) pa_nil))))))
 pss_nil)
 (pss_one (ps_ret (pe_callG (ok_fits_words T (k + 0)) hr (by rfl) T.fits_words.g T.fits_words.F.kp T.fits_words.b (passAt tk) (pa_cons (pv 0) (pa_cons (pv 1) pa_nil))))))),
    (rds_seq (rds_if (rdt_or (rdt_not (rdt_truth (rd_isi (by decide +kernel) rd_var))) (rdt_or (rdt_test (rd_op opg_eq (rd_call cg_len (rda_cons rd_var rda_nil)) (rd_c fun F => .int _))) (rdt_not (rdt_truth (rd_isi (by decide +kernel) (rd_op opg_idx rd_var (rd_c fun F => .int _)))))))
 (rds_ret (rd_c fun F => .bl _))
 rds_pass)
 (rds_seq (rds_if (rdt_test (rd_op opg_in (rd_op opg_idx rd_var (rd_c fun F => .int _)) (rd_c T.c_TURNS.q)))
 (rds_ret (rd_and (rd_op opg_eq (rd_call cg_len (rda_cons rd_var rda_nil)) (rd_c fun F => .int _)) (rd_fn (fun _ _ _ h => runB_n h) (rda_cons (rd_op opg_idx rd_var (rd_c fun F => .int _)) rda_nil))))
 rds_pass)
 (rds_ret (rd_fn (fun _ _ _ h => runB_n h) (rda_cons rd_var (rda_cons rd_var rda_nil))))))⟩
theorem ok_is_deed (T : Tp K mg) (k : Nat) : FnG P w K mg base (L2.CX P w) (k + 6) T.is_deed.f T.is_deed.fd ["value"] (spM ⟨K, clOf mg⟩ 1 [] m_is_deed) := by
  have S := sc_is_deed
  refine fn_mir (n := 1) (N := N_is_deed) (lent := []) (mb := mb_is_deed) T.is_deed.F S rfl (by decide) (by decide) (by decide) ?_
  intro cdv A outer s H E W fx hr tk hp hfx
  exact ⟨_, (pss_cons (ps_if (pw_or (pt_not (pt_truth (pe_callB call_isi (by rfl) T.z_isinstance bt_isinstance (pa_cons (pv 0) (pa_cons (pe_bltn (v := .ty "tuple") (by rfl) T.z_tuple bt_tuple rfl) pa_nil))) (fun _ => rfl))) (pw_or (pt_cmpR (op_neD hr.units) (pe_callB (call_len_seq.or call_len_str) (by rfl) T.z_len bt_len (pa_cons (pv 0) pa_nil)) pe_int (nomark _)) (pw_or (pt_not (pt_truth (pe_callG (ok_is_dot T (k + 2)) hr (by rfl) T.is_dot.g T.is_dot.F.kp T.is_dot.b (passAt tk) (pa_cons (pe_ix ix_seq (pv 0) pe_int (fun _ _ => rfl)) pa_nil)) (fun _ => rfl))) (pw_or1 (pt_not (pt_truth (pe_callG (ok_is_vector T (k + 1)) hr (by rfl) T.is_vector.g T.is_vector.F.kp T.is_vector.b (passAt tk) (pa_cons (pe_ix ix_seq (pv 0) pe_int (fun _ _ => rfl)) pa_nil)) (fun _ => rfl))))))).pt
 (pss_one (ps_ret pe_bl))
 pss_nil)
 (pss_cons (ps_asg (pv 0) (pg_tup rfl (pgs_cons (pg_name (i := 1) S.nd rfl (by first | exact Or.inl rfl | exact Or.inr rfl)) (pgs_cons (pg_name (i := 2) S.nd rfl (by first | exact Or.inl rfl | exact Or.inr rfl)) (pgs_cons (pg_name (i := 3) S.nd rfl (by first | exact Or.inl rfl | exact Or.inr rfl)) (pgs_cons (pg_name (i := 4) S.nd rfl (by first | exact Or.inl rfl | exact Or.inr rfl)) pgs_nil))))))
 (pss_cons (ps_if (pw_or (pt_cmpR (op_neD hr.units) (pe_callG (ok_count_of T (k + 4)) hr (by rfl) T.count_of.g T.count_of.F.kp T.count_of.b (passAt tk) (pa_cons (pv 2) (pa_cons (pe_ix ix_seq (pv 1) pe_int (fun _ _ => rfl)) pa_nil))) (pe_op op_sub (pe_ix ix_seq (pv 1) pe_int (fun _ _ => rfl)) pe_int) (nomark _)) (pw_or1 (pt_not (pt_truth (pe_callG (ok_is_label T (k + 3)) hr (by rfl) T.is_label.g T.is_label.F.kp T.is_label.b (passAt tk) (pa_cons (pv 3) pa_nil)) (fun _ => rfl))))).pt
 (pss_one (ps_ret pe_bl))
 pss_nil)
 (pss_one (ps_ret (pe_callB (cr_any rfl) (by rfl) T.z_any bt_any (pa_cons (by exact pe_lc rfl S.nd (pi_seq (pe_glob (by rfl) T.c_KINDS.g T.c_KINDS.r)) (own := [("kind", 5)]) (blkOk_by (by rfl)) (fun _ _ _ _ _ => (pg_name (i := 5) S.nd rfl (by first | exact Or.inl rfl | exact Or.inr rfl))) (fun _ _ _ _ _ => pts_nil) (fun _ _ _ _ _ => (pe_callG (ok_fits_kind T (k + 0)) hr (by rfl) T.fits_kind.g T.fits_kind.F.kp T.fits_kind.b (passAt takes0) (pa_cons (pv 5) (pa_cons (pv 4) pa_nil))))) pa_nil))))))),
    (rds_seq (rds_if (rdt_or (rdt_not (rdt_truth (rd_isi (by decide +kernel) rd_var))) (rdt_or (rdt_test (rd_op opg_ne (rd_call cg_len (rda_cons rd_var rda_nil)) (rd_c fun F => .int _))) (rdt_or (rdt_not (rdt_truth (rd_fn (fun _ _ _ h => runB_n h) (rda_cons (rd_op opg_idx rd_var (rd_c fun F => .int _)) rda_nil)))) (rdt_not (rdt_truth (rd_fn (fun _ _ _ h => runB_n h) (rda_cons (rd_op opg_idx rd_var (rd_c fun F => .int _)) rda_nil)))))))
 (rds_ret (rd_c fun F => .bl _))
 rds_pass)
 (rds_seq (rds_asg rd_var (rdg_tup (rdgs_cons rdg_name (rdgs_cons rdg_name (rdgs_cons rdg_name (rdgs_cons rdg_name rdgs_nil))))) (fun p hp => absurd (hfx p hp) (by simp)))
 (rds_seq (rds_if (rdt_or (rdt_test (rd_op opg_ne (rd_fnF (fun _ h => runB_n h) (rda_cons rd_var (rda_cons (rd_op opg_idx rd_var (rd_c fun F => .int _)) rda_nil))) (rd_op opg_sub (rd_op opg_idx rd_var (rd_c fun F => .int _)) (rd_c fun F => .int _)))) (rdt_not (rdt_truth (rd_fnF (fun _ h => runB_n h) (rda_cons rd_var rda_nil)))))
 (rds_ret (rd_c fun F => .bl _))
 rds_pass)
 (rds_ret (rd_call cg_any (rda_cons (rd_comp (rdi_seq (rd_c T.c_KINDS.q)) (rdgP rdg_name) (by decide) rdt_yes (rd_fnF (fun _ h => runB_n h) (rda_cons rd_var (rda_cons rd_var rda_nil)))) rda_nil))))))⟩
theorem ok_check_deed (T : Tp K mg) (k : Nat) : FnG P w K mg base (L2.CX P w) (k + 7) T.check_deed.f T.check_deed.fd ["deed"] (spM ⟨K, clOf mg⟩ 1 [] m_check_deed) := by
  have S := sc_check_deed
  refine fn_mir (n := 1) (N := N_check_deed) (lent := []) (mb := mb_check_deed) T.check_deed.F S rfl (by decide) (by decide) (by decide) ?_
  intro cdv A outer s H E W fx hr tk hp hfx
  exact ⟨_, (pss_one (ps_if (pt_not (pt_truth (pe_callG (ok_is_deed T (k + 0)) hr (by rfl) T.is_deed.g T.is_deed.F.kp T.is_deed.b (passAt tk) (pa_cons (pv 0) pa_nil)) (fun _ => rfl)))
 (pss_one (ps_raise rfl tk (pmk_own PySem.F.excBase_ValueError T.e_NotAllowed.xp T.e_NotAllowed.g T.e_NotAllowed.kp (raises_own T.e_NotAllowed.bp T.e_NotAllowed.tp) (by rfl))))
 pss_nil)),
    (rds_if (rdt_not (rdt_truth (rd_fn (fun _ _ _ h => runB_n h) (rda_cons rd_var rda_nil))))
 (rds_raise T.e_NotAllowed.cl)
 rds_pass)⟩
theorem ok_is_document (T : Tp K mg) (k : Nat) : FnG P w K mg base (L2.CX P w) (k + 3) T.is_document.f T.is_document.fd ["value"] (spM ⟨K, clOf mg⟩ 1 [] m_is_document) := by
  have S := sc_is_document
  refine fn_mir (n := 1) (N := N_is_document) (lent := []) (mb := mb_is_document) T.is_document.F S rfl (by decide) (by decide) (by decide) ?_
  intro cdv A outer s H E W fx hr tk hp hfx
  exact ⟨_, (pss_cons (ps_if (pw_or (pt_not (pt_truth (pe_callB call_isi (by rfl) T.z_isinstance bt_isinstance (pa_cons (pv 0) (pa_cons (pe_bltn (v := .ty "tuple") (by rfl) T.z_tuple bt_tuple rfl) pa_nil))) (fun _ => rfl))) (pw_or1 (pt_cmpR (op_eqD hr.units) (pe_callB (call_len_seq.or call_len_str) (by rfl) T.z_len bt_len (pa_cons (pv 0) pa_nil)) pe_int (nomark _)))).pt
 (pss_one (ps_ret pe_bl))
 pss_nil)
 (pss_cons (ps_if (pt_not (pt_truth (pe_callB (cr_all rfl) (by rfl) T.z_all bt_all (pa_cons (by exact pe_lc rfl S.nd (pi_seq (pv 0)) (own := [("one", 2)]) (blkOk_by (by rfl)) (fun _ _ _ _ _ => (pg_name (i := 2) S.nd rfl (by first | exact Or.inl rfl | exact Or.inr rfl))) (fun _ _ _ _ _ => pts_nil) (fun _ _ _ _ _ => (pe_andT (pe_callB call_isi (by rfl) T.z_isinstance bt_isinstance (pa_cons (pv 2) (pa_cons (pe_bltn (v := .ty "tuple") (by rfl) T.z_tuple bt_tuple rfl) pa_nil))) (pe_andT (pe_cmpR (op_eqD hr.units) (pe_callB (call_len_seq.or call_len_str) (by rfl) T.z_len bt_len (pa_cons (pv 2) pa_nil)) pe_int (nomark _)) (pe_one (pe_callG (ok_is_label T (k + 0)) hr (by rfl) T.is_label.g T.is_label.F.kp T.is_label.b (passAt takes0) (pa_cons (pe_ix ix_seq (pv 2) pe_int (fun _ _ => rfl)) pa_nil))))))) pa_nil)) (fun _ => rfl)))
 (pss_one (ps_ret pe_bl))
 pss_nil)
 (pss_cons (by exact ps_setLc rfl S.nd (i := 1) rfl rfl (sw_true rfl rfl rfl rfl) (pi_seq (pv 0)) (own := [("one", 2)]) (blkOk_by (by rfl)) (fun _ _ _ _ _ => (pg_name (i := 2) S.nd rfl (by first | exact Or.inl rfl | exact Or.inr rfl))) (fun _ _ _ _ _ => pts_nil) (fun _ _ _ _ _ => (pe_ix ix_seq (pv 2) pe_int (fun _ _ => rfl))))
 (pss_cons (ps_if (pt_cmpR (op_neD hr.units) (pv 1) (pe_callB (MS.cr_sortSet rfl hr.units) (by rfl) T.z_sorted bt_sorted (pa_cons (pe_callTy (cr_setA rfl hr.units) (by rfl) T.z_set bt_set (pa_cons (pv 1) pa_nil)) pa_nil)) (nomark _))
 (pss_one (ps_ret pe_bl))
 pss_nil)
 (pss_one (ps_ret (pe_callB (cr_all rfl) (by rfl) T.z_all bt_all (pa_cons (by exact pe_lc rfl S.nd (pi_seq (pv 0)) (own := [("one", 2)]) (blkOk_by (by rfl)) (fun _ _ _ _ _ => (pg_name (i := 2) S.nd rfl (by first | exact Or.inl rfl | exact Or.inr rfl))) (fun _ _ _ _ _ => pts_nil) (fun _ _ _ _ _ => (pe_andT (pe_callB call_isi (by rfl) T.z_isinstance bt_isinstance (pa_cons (pe_ix ix_seq (pv 2) pe_int (fun _ _ => rfl)) (pa_cons (pe_bltn (v := .ty "str") (by rfl) T.z_str bt_str rfl) pa_nil))) (pe_one (pe_cmpR (op_inG (un65 hr)) (pe_ix ix_seq (pv 2) pe_int (fun _ _ => rfl)) (pe_glob (by rfl) T.c_KINDS.g T.c_KINDS.r) (by with_unfolding_all rfl)))))) pa_nil)))))))),
    (rds_seq (rds_if (rdt_or (rdt_not (rdt_truth (rd_isi (by decide +kernel) rd_var))) (rdt_test (rd_op opg_eq (rd_call cg_len (rda_cons rd_var rda_nil)) (rd_c fun F => .int _))))
 (rds_ret (rd_c fun F => .bl _))
 rds_pass)
 (rds_seq (rds_if (rdt_not (rdt_truth (rd_call cg_all (rda_cons (rd_comp (rdi_seq rd_var) (rdgP rdg_name) (by decide) rdt_yes (rd_and (rd_isi (by decide +kernel) rd_var) (rd_and (rd_op opg_eq (rd_call cg_len (rda_cons rd_var rda_nil)) (rd_c fun F => .int _)) (rd_fn (fun _ _ _ h => runB_n h) (rda_cons (rd_op opg_idx rd_var (rd_c fun F => .int _)) rda_nil))))) rda_nil))))
 (rds_ret (rd_c fun F => .bl _))
 rds_pass)
 (rds_seq (rds_asg (rd_comp (rdi_seq rd_var) (rdgP rdg_name) (by decide) rdt_yes (rd_op opg_idx rd_var (rd_c fun F => .int _))) rdg_name (fun p hp => absurd (hfx p hp) (by simp)))
 (rds_seq (rds_if (rdt_test (rd_op opg_ne rd_var (rd_sortSet rd_var)))
 (rds_ret (rd_c fun F => .bl _))
 rds_pass)
 (rds_ret (rd_call cg_all (rda_cons (rd_comp (rdi_seq rd_var) (rdgP rdg_name) (by decide) rdt_yes (rd_and (rd_isi (by decide +kernel) (rd_op opg_idx rd_var (rd_c fun F => .int _))) (rd_op opg_in (rd_op opg_idx rd_var (rd_c fun F => .int _)) (rd_c T.c_KINDS.q)))) rda_nil)))))))⟩
theorem ok_check_document (T : Tp K mg) (k : Nat) : FnG P w K mg base (L2.CX P w) (k + 4) T.check_document.f T.check_document.fd ["document"] (spM ⟨K, clOf mg⟩ 1 [] m_check_document) := by
  have S := sc_check_document
  refine fn_mir (n := 1) (N := N_check_document) (lent := []) (mb := mb_check_document) T.check_document.F S rfl (by decide) (by decide) (by decide) ?_
  intro cdv A outer s H E W fx hr tk hp hfx
  exact ⟨_, (pss_one (ps_if (pt_not (pt_truth (pe_callG (ok_is_document T (k + 0)) hr (by rfl) T.is_document.g T.is_document.F.kp T.is_document.b (passAt tk) (pa_cons (pv 0) pa_nil)) (fun _ => rfl)))
 (pss_one (ps_raise rfl tk (pmk_own PySem.F.excBase_ValueError T.e_NotAllowed.xp T.e_NotAllowed.g T.e_NotAllowed.kp (raises_own T.e_NotAllowed.bp T.e_NotAllowed.tp) (by rfl))))
 pss_nil)),
    (rds_if (rdt_not (rdt_truth (rd_fn (fun _ _ _ h => runB_n h) (rda_cons rd_var rda_nil))))
 (rds_raise T.e_NotAllowed.cl)
 rds_pass)⟩
theorem ok__law_refused (T : Tp K mg) (k : Nat) : FnG P w K mg base (L2.CX P w) (k + 8) T._law_refused.f T._law_refused.fd ["kind", "value"] (spM ⟨K, clOf mg⟩ 2 [] m__law_refused) := by
  have S := sc__law_refused
  refine fn_mir (n := 2) (N := N__law_refused) (lent := []) (mb := mb__law_refused) T._law_refused.F S rfl (by decide) (by decide) (by decide) ?_
  intro cdv A outer s H E W fx hr tk hp hfx
  exact ⟨_, (pss_cons (ps_try_only rfl rfl ⟨rfl, by decide, .inl T.e_NotAllowed.g⟩ tk (fun W1 pn1 xe1 tk1 _ => (pss_one (ps_if (pt_cmpR (op_eqD hr.units) (pv 0) pe_int (nomark _))
 (pss_one (ps_expr (pe_callG (ok_check_deed T (k + 0)) hr (by rfl) T.check_deed.g T.check_deed.F.kp T.check_deed.b (passAt tk1) (pa_cons (pv 1) pa_nil))))
 (pss_one (ps_expr (pe_callG (ok_check_document T (k + 3)) hr (by rfl) T.check_document.g T.check_document.F.kp T.check_document.b (passAt tk1) (pa_cons (pv 1) pa_nil)))))))
 (fun _ _ _ _ _ _ _ => (pss_one (ps_ret pe_bl))))
 (pss_one (ps_ret pe_bl))),
    (rds_seq (rds_try (fun W1 => (rds_if (rdt_test (rd_op opg_eq rd_var (rd_c fun F => .int _)))
 (rds_drop (rd_fn (fun _ _ _ h => runB_n h) (rda_cons rd_var rda_nil)))
 (rds_drop (rd_fn (fun _ _ _ h => runB_n h) (rda_cons rd_var rda_nil)))))
 (fun _ _ _ => (rds_ret (rd_c fun F => .bl _))) (ct_cons (ki_exm T.e_MeetingError T.e_NotAllowed T.x_MeetingError_NotAllowed) (ct_cons (ki_exm T.e_NotAllowed T.e_NotAllowed T.x_NotAllowed_NotAllowed) ct_nil)))
 (rds_ret (rd_c fun F => .bl _)))⟩
theorem ok_size_of (T : Tp K mg) (k : Nat) : FnG P w K mg base (L2.CX P w) (k + 1) T.size_of.f T.size_of.fd ["vector"] (spM ⟨K, clOf mg⟩ 1 [] m_size_of) := by
  have S := sc_size_of
  refine fn_mir (n := 1) (N := N_size_of) (lent := []) (mb := mb_size_of) T.size_of.F S rfl (by decide) (by decide) (by decide) ?_
  intro cdv A outer s H E W fx hr tk hp hfx
  exact ⟨_, (pss_one (ps_ret (pe_callB (cr_sum rfl) (by rfl) T.z_sum bt_sum (pa_cons (by exact pe_lc rfl S.nd (pi_seq (pv 0)) (own := [("_", 1), ("n", 2)]) (blkOk_by (by rfl)) (fun _ _ _ _ _ => (pg_tup rfl (pgs_cons (pg_name (i := 1) S.nd rfl (by first | exact Or.inl rfl | exact Or.inr rfl)) (pgs_cons (pg_name (i := 2) S.nd rfl (by first | exact Or.inl rfl | exact Or.inr rfl)) pgs_nil)))) (fun _ _ _ _ _ => pts_nil) (fun _ _ _ _ _ => (pv 2))) pa_nil)))),
    (rds_ret (rd_call cg_sum (rda_cons (rd_comp (rdi_seq rd_var) (rdgP (rdg_tup (rdgs_cons rdg_name (rdgs_cons rdg_name rdgs_nil)))) (by decide) rdt_yes rd_var) rda_nil)))⟩
theorem ok_rank (T : Tp K mg) (k : Nat) : FnG P w K mg base (L2.CX P w) (k + 2) T.rank.f T.rank.fd ["deed"] (spM ⟨K, clOf mg⟩ 1 [] m_rank) := by
  have S := sc_rank
  refine fn_mir (n := 1) (N := N_rank) (lent := []) (mb := mb_rank) T.rank.F S rfl (by decide) (by decide) (by decide) ?_
  intro cdv A outer s H E W fx hr tk hp hfx
  exact ⟨_, (pss_one (ps_ret (pe_tupC (pa_cons (pe_callG (ok_size_of T (k + 0)) hr (by rfl) T.size_of.g T.size_of.F.kp T.size_of.b (passAt tk) (pa_cons (pe_ix ix_seq (pv 0) pe_int (fun _ _ => rfl)) pa_nil)) (pa_cons (pe_ix ix_seq (pe_ix ix_seq (pv 0) pe_int (fun _ _ => rfl)) pe_int (fun _ _ => rfl)) pa_nil))))),
    (rds_ret (rd_tup (rda_cons (rd_fn (fun _ _ _ h => runB_n h) (rda_cons (rd_op opg_idx rd_var (rd_c fun F => .int _)) rda_nil)) (rda_cons (rd_op opg_idx (rd_op opg_idx rd_var (rd_c fun F => .int _)) (rd_c fun F => .int _)) rda_nil))))⟩
theorem ok__law_kinds (T : Tp K mg) (k : Nat) : FnG P w K mg base (L2.CX P w) (k + 1) T._law_kinds.f T._law_kinds.fd ["what"] (spM ⟨K, clOf mg⟩ 1 [] m__law_kinds) := by
  have S := sc__law_kinds
  refine fn_mir (n := 1) (N := N__law_kinds) (lent := []) (mb := mb__law_kinds) T._law_kinds.F S rfl (by decide) (by decide) (by decide) ?_
  intro cdv A outer s H E W fx hr tk hp hfx
  exact ⟨_, (pss_cons (ps_par (i := 1) (j := 2) rfl S.nd rfl rfl (by decide) rfl rfl (pa_cons (pe_ix ix_seq (pv 0) pe_int (fun _ _ => rfl)) (pa_cons (pe_callB (call_len_seq.or call_len_str) (by rfl) T.z_len bt_len (pa_cons (pv 0) pa_nil)) pa_nil)) (by rfl))
 (pss_cons (ps_if (pt_cmpR (op_inG (un65 hr)) (pv 1) (pe_lst (pa_cons pe_str (pa_cons pe_str pa_nil))) (by with_unfolding_all rfl))
 (pss_one (ps_ret (pe_callTy call_list_of (by rfl) T.z_list bt_list (pa_cons (pe_glob (by rfl) T.c_KINDS.g T.c_KINDS.r) pa_nil))))
 pss_nil)
 (pss_cons (ps_if (pt_cmpR (op_eqD hr.units) (pv 1) pe_str (nomark _))
 (pss_one (ps_ret (pe_lst (pa_cons pe_str (pa_cons pe_str (pa_cons pe_str pa_nil))))))
 pss_nil)
 (pss_cons (ps_if (pt_cmpR (op_eqD hr.units) (pv 1) pe_str (nomark _))
 (pss_cons (ps_set (i := 3) S.nd rfl (by first | exact Or.inl rfl | exact Or.inr rfl) (pe_orT (pe_cmpR op_isG (pe_ix ix_seq (pv 0) pe_int (fun _ _ => rfl)) pe_non (nomark _)) (pe_one (pe_callB call_isi (by rfl) T.z_isinstance bt_isinstance (pa_cons (pe_ix ix_seq (pv 0) pe_int (fun _ _ => rfl)) (pa_cons (pe_bltn (v := .ty "tuple") (by rfl) T.z_tuple bt_tuple rfl) pa_nil))))))
 (pss_one (ps_ret (pe_ifExp (pt_truth (pv 3) (fun _ => rfl)) (pe_lst (pa_cons pe_str pa_nil)) (pe_lst (pa_cons pe_str pa_nil))))))
 pss_nil)
 (pss_one (ps_ret (pe_dget (un1 hr) (pe_disp (pps_cons pe_str (pe_lst (pa_cons pe_str pa_nil)) (pps_cons pe_str (pe_lst (pa_cons pe_str (pa_cons pe_str pa_nil))) (pps_cons pe_str (pe_lst (pa_cons pe_str (pa_cons pe_str pa_nil))) (pps_cons pe_str (pe_lst (pa_cons pe_str pa_nil)) (pps_cons pe_str (pe_lst (pa_cons pe_str pa_nil)) (pps_cons pe_str (pe_lst (pa_cons pe_str pa_nil)) (pps_cons pe_str (pe_lst (pa_cons pe_str pa_nil)) pps_nil))))))) rfl rfl (fun q => nomatch q) (by decide)) (pv 1) (fun _ _ => rfl)))))))),
    (rds_seq (rds_par (rda_cons (rd_op opg_idx rd_var (rd_c fun F => .int _)) (rda_cons (rd_call cg_len (rda_cons rd_var rda_nil)) rda_nil)) (fun p hp => absurd (hfx p hp) (by simp)))
 (rds_seq (rds_if (rdt_test (rd_op opg_in rd_var (rd_lst (rda_cons (rd_c fun F => .str _) (rda_cons (rd_c fun F => .str _) rda_nil)))))
 (rds_ret (rd_call cg_list (rda_cons (rd_c T.c_KINDS.q) rda_nil)))
 rds_pass)
 (rds_seq (rds_if (rdt_test (rd_op opg_eq rd_var (rd_c fun F => .str _)))
 (rds_ret (rd_lst (rda_cons (rd_c fun F => .str _) (rda_cons (rd_c fun F => .str _) (rda_cons (rd_c fun F => .str _) rda_nil)))))
 rds_pass)
 (rds_seq (rds_if (rdt_test (rd_op opg_eq rd_var (rd_c fun F => .str _)))
 (rds_seq (rds_asg (rd_or (rd_op opg_isG (rd_op opg_idx rd_var (rd_c fun F => .int _)) (rd_c fun F => .non)) (rd_isi (by decide +kernel) (rd_op opg_idx rd_var (rd_c fun F => .int _)))) rdg_name (fun p hp => absurd (hfx p hp) (by simp)))
 (rds_ret (rd_if (rdt_truth rd_var) (rd_lst (rda_cons (rd_c fun F => .str _) rda_nil)) (rd_lst (rda_cons (rd_c fun F => .str _) rda_nil)))))
 rds_pass)
 (rds_ret (rd_dixE (rd_disp (rdp_cons (k := .inr "more") (rd_lst (rda_cons (rd_c fun F => .str _) rda_nil)) (rdp_cons (k := .inr "set") (rd_lst (rda_cons (rd_c fun F => .str _) (rda_cons (rd_c fun F => .str _) rda_nil))) (rdp_cons (k := .inr "add") (rd_lst (rda_cons (rd_c fun F => .str _) (rda_cons (rd_c fun F => .str _) rda_nil))) (rdp_cons (k := .inr "on") (rd_lst (rda_cons (rd_c fun F => .str _) rda_nil)) (rdp_cons (k := .inr "off") (rd_lst (rda_cons (rd_c fun F => .str _) rda_nil)) (rdp_cons (k := .inr "cut") (rd_lst (rda_cons (rd_c fun F => .str _) rda_nil)) (rdp_cons (k := .inr "move") (rd_lst (rda_cons (rd_c fun F => .str _) rda_nil)) rdp_nil)))))))) rd_var))))))⟩
theorem ok_law (T : Tp K mg) (k : Nat) : FnG P w K mg base (L2.CX P w) (k + 9) T.law.f T.law.fd ["script"] (spM ⟨K, clOf mg⟩ 1 [] m_law) := by
  have S := sc_law
  refine fn_mir (n := 1) (N := N_law) (lent := []) (mb := mb_law) T.law.F S rfl (by decide) (by decide) (by decide) ?_
  intro cdv A outer s H E W fx hr tk hp hfx
  exact ⟨_, (pss_cons (ps_set (i := 1) S.nd rfl (by first | exact Or.inl rfl | exact Or.inr rfl) (pe_callG (ok__law_draw T (k + 7)) hr (by rfl) T._law_draw.g T._law_draw.F.kp T._law_draw.b (passAt tk) (pa_cons (pv 0) pa_nil)))
 (pss_cons (ps_if (pt_cmpR (op_neD hr.units) (pe_glob (by rfl) T.c_KINDS.g T.c_KINDS.r) (pe_tupC (pa_cons pe_str (pa_cons pe_str (pa_cons pe_str (pa_cons pe_str (pa_cons pe_str (pa_cons pe_str (pa_cons pe_str (pa_cons pe_str (pa_cons pe_str pa_nil)))))))))) (nomark _))
 (pss_one (ps_ret pe_bl))
 pss_nil)
 (pss_cons (ps_par (i := 2) (j := 3) rfl S.nd rfl rfl (by decide) rfl rfl (pa_cons (pe_ix ix_seq (pe_lst (pa_cons (pe_op op_sub (pe_callG (ok__law_take T (k + 7)) hr (by rfl) T._law_take.g T._law_take.F.kp T._law_take.b (passAt tk) (pa_cons (pv 1) (pa_cons pe_int pa_nil))) pe_int) (pa_cons (pe_op op_mulT pe_str (pe_callG (ok__law_take T (k + 7)) hr (by rfl) T._law_take.g T._law_take.F.kp T._law_take.b (passAt tk) (pa_cons (pv 1) (pa_cons pe_int pa_nil)))) pa_nil))) (pe_callG (ok__law_take T (k + 7)) hr (by rfl) T._law_take.g T._law_take.F.kp T._law_take.b (passAt tk) (pa_cons (pv 1) (pa_cons pe_int pa_nil))) (fun _ _ => rfl)) (pa_cons (pe_ix ix_seq (pe_lst (pa_cons pe_str (pa_cons pe_int pa_nil))) (pe_callG (ok__law_take T (k + 7)) hr (by rfl) T._law_take.g T._law_take.F.kp T._law_take.b (passAt tk) (pa_cons (pv 1) (pa_cons pe_int pa_nil))) (fun _ _ => rfl)) pa_nil)) (by rfl))
 (pss_cons (ps_set (i := 4) S.nd rfl (by first | exact Or.inl rfl | exact Or.inr rfl) (pe_tupC (pa_cons (pe_callG (ok__law_take T (k + 7)) hr (by rfl) T._law_take.g T._law_take.F.kp T._law_take.b (passAt tk) (pa_cons (pv 1) (pa_cons pe_int pa_nil))) (pa_cons (pe_op op_addG pe_int (pe_callG (ok__law_take T (k + 7)) hr (by rfl) T._law_take.g T._law_take.F.kp T._law_take.b (passAt tk) (pa_cons (pv 1) (pa_cons pe_int pa_nil)))) pa_nil))))
 (pss_cons (ps_set (i := 5) S.nd rfl (by first | exact Or.inl rfl | exact Or.inr rfl) (pe_lst (pa_cons (pe_tupC (pa_cons pe_str (pa_cons (pe_op op_sub (pe_callG (ok__law_take T (k + 7)) hr (by rfl) T._law_take.g T._law_take.F.kp T._law_take.b (passAt tk) (pa_cons (pv 1) (pa_cons pe_int pa_nil))) pe_int) pa_nil))) (pa_cons (pe_tupC (pa_cons pe_str (pa_cons (pv 2) pa_nil))) (pa_cons (pe_tupC (pa_cons pe_str (pa_cons (pv 2) pa_nil))) (pa_cons (pe_tupC (pa_cons pe_str (pa_cons (pv 2) pa_nil))) (pa_cons (pe_tupC (pa_cons pe_str pa_nil)) (pa_cons (pe_tupC (pa_cons pe_str pa_nil)) (pa_cons (pe_tupC (pa_cons pe_str (pa_cons (pv 3) (pa_cons (pv 2) pa_nil)))) (pa_cons (pe_tupC (pa_cons pe_str (pa_cons pe_non (pa_cons (pv 2) pa_nil)))) (pa_cons (pe_tupC (pa_cons pe_str (pa_cons (pv 4) (pa_cons (pv 2) pa_nil)))) (pa_cons (pe_tupC (pa_cons pe_str (pa_cons (pv 4) pa_nil))) (pa_cons (pe_tupC (pa_cons pe_str (pa_cons pe_str (pa_cons pe_str pa_nil)))) (pa_cons (pe_tupC (pa_cons pe_str (pa_cons (pv 4) pa_nil))) (pa_cons (pe_tupC (pa_cons pe_str (pa_cons (pv 4) pa_nil))) pa_nil)))))))))))))))
 (pss_cons (ps_for hp rfl (pi_seq (pv 5)) (pg_name (i := 6) S.nd rfl (by first | exact Or.inl rfl | exact Or.inr rfl))
 (pss_one (ps_if (pt_cmpR (op_neD hr.units) (by exact pe_lc rfl S.nd (pi_seq (pe_glob (by rfl) T.c_KINDS.g T.c_KINDS.r)) (own := [("kind", 16)]) (blkOk_by (by rfl)) (fun _ _ _ _ _ => (pg_name (i := 16) S.nd rfl (by first | exact Or.inl rfl | exact Or.inr rfl))) (fun _ _ _ _ _ => (pts_one (pt_truth (pe_callG (ok_fits_kind T (k + 3)) hr (by rfl) T.fits_kind.g T.fits_kind.F.kp T.fits_kind.b (passAt takes0) (pa_cons (pv 16) (pa_cons (pv 6) pa_nil))) (fun _ => rfl)))) (fun _ _ _ _ _ => (pv 16))) (by exact pe_lc rfl S.nd (pi_seq (pe_glob (by rfl) T.c_KINDS.g T.c_KINDS.r)) (own := [("kind", 16)]) (blkOk_by (by rfl)) (fun _ _ _ _ _ => (pg_name (i := 16) S.nd rfl (by first | exact Or.inl rfl | exact Or.inr rfl))) (fun _ _ _ _ _ => (pts_one (pt_cmpR (op_inG (un65 hr)) (pv 16) (pe_callG (ok__law_kinds T (k + 7)) hr (by rfl) T._law_kinds.g T._law_kinds.F.kp T._law_kinds.b (passAt takes0) (pa_cons (pv 6) pa_nil)) (by with_unfolding_all rfl)))) (fun _ _ _ _ _ => (pv 16))) (nomark _))
 (pss_one (ps_ret pe_bl))
 pss_nil)))
 (pss_cons (ps_set (i := 7) S.nd rfl (by first | exact Or.inl rfl | exact Or.inr rfl) (pe_lst (pa_cons pe_non (pa_cons (pe_tupC pa_nil) (pa_cons pe_str (pa_cons (pe_tupC (pa_cons pe_str pa_nil)) (pa_cons (pe_tupC (pa_cons pe_str (pa_cons pe_int (pa_cons pe_int pa_nil)))) (pa_cons (pe_tupC (pa_cons pe_str (pa_cons pe_bl pa_nil))) (pa_cons (pe_tupC (pa_cons pe_str (pa_cons pe_str pa_nil))) (pa_cons (pe_tupC (pa_cons pe_str (pa_cons (pe_op op_mulT pe_str pe_int) pa_nil))) (pa_cons (pe_tupC (pa_cons pe_str (pa_cons pe_str pa_nil))) (pa_cons (pe_tupC (pa_cons pe_str (pa_cons pe_bl pa_nil))) (pa_cons (pe_tupC (pa_cons pe_str (pa_cons (pe_tupC (pa_cons pe_int (pa_cons pe_int pa_nil))) (pa_cons pe_int pa_nil)))) (pa_cons (pe_tupC (pa_cons pe_str (pa_cons (pe_tupC (pa_cons pe_int (pa_cons pe_int pa_nil))) (pa_cons pe_int pa_nil)))) (pa_cons (pe_tupC (pa_cons pe_str (pa_cons (pe_tupC (pa_cons pe_int pa_nil)) (pa_cons pe_int pa_nil)))) (pa_cons (pe_tupC (pa_cons pe_str (pa_cons pe_int pa_nil))) (pa_cons (pe_tupC (pa_cons pe_str (pa_cons pe_non pa_nil))) (pa_cons (pe_tupC (pa_cons pe_str (pa_cons pe_str (pa_cons pe_str pa_nil)))) (pa_cons (pe_tupC (pa_cons pe_str (pa_cons pe_str (pa_cons pe_str pa_nil)))) (pa_cons (pe_tupC (pa_cons pe_str (pa_cons pe_int (pa_cons pe_str pa_nil)))) (pa_cons (pe_tupC (pa_cons pe_str (pa_cons pe_int pa_nil))) (pa_cons (pe_tupC (pa_cons pe_str (pa_cons pe_int pa_nil))) (pa_cons (pe_tupC (pa_cons pe_str pa_nil)) (pa_cons (pe_lst (pa_cons pe_str (pa_cons pe_int pa_nil))) (pa_cons (pe_tupC (pa_cons pe_non (pa_cons pe_int pa_nil))) (pa_cons (pe_tupC (pa_cons pe_str (pa_cons pe_int pa_nil))) (pa_cons (pe_tupC (pa_cons pe_str (pa_cons pe_non pa_nil))) (pa_cons (pe_tupC (pa_cons pe_str pa_nil)) pa_nil))))))))))))))))))))))))))))
 (pss_cons (ps_if (pw_or (pt_cmpR (op_neD hr.units) (by exact pe_lc rfl S.nd (pi_seq (pv 7)) (own := [("what", 6)]) (blkOk_by (by rfl)) (fun _ _ _ _ _ => (pg_name (i := 6) S.nd rfl (by first | exact Or.inl rfl | exact Or.inr rfl))) (fun _ _ _ _ _ => (pts_one (pt_cmpR (op_neD hr.units) (by exact pe_lc rfl S.nd (pi_seq (pe_glob (by rfl) T.c_KINDS.g T.c_KINDS.r)) (own := [("kind", 16)]) (blkOk_by (by rfl)) (fun _ _ _ _ _ => (pg_name (i := 16) S.nd rfl (by first | exact Or.inl rfl | exact Or.inr rfl))) (fun _ _ _ _ _ => (pts_one (pt_truth (pe_callG (ok_fits_kind T (k + 3)) hr (by rfl) T.fits_kind.g T.fits_kind.F.kp T.fits_kind.b (passAt takes0) (pa_cons (pv 16) (pa_cons (pv 6) pa_nil))) (fun _ => rfl)))) (fun _ _ _ _ _ => (pv 16))) (pe_lst pa_nil) (nomark _)))) (fun _ _ _ _ _ => (pv 6))) (pe_lst pa_nil) (nomark _)) (pw_or1 (pt_not (pt_truth (pe_callB call_isi (by rfl) T.z_isinstance bt_isinstance (pa_cons (pe_callG (ok_fits_kind T (k + 3)) hr (by rfl) T.fits_kind.g T.fits_kind.F.kp T.fits_kind.b (passAt tk) (pa_cons pe_str (pa_cons (pe_tupC (pa_cons pe_str pa_nil)) pa_nil))) (pa_cons (pe_bltn (v := .ty "bool") (by rfl) T.z_bool bt_bool rfl) pa_nil))) (fun _ => rfl))))).pt
 (pss_one (ps_ret pe_bl))
 pss_nil)
 (pss_cons (ps_set (i := 8) S.nd rfl (by first | exact Or.inl rfl | exact Or.inr rfl) (pe_callTy call_tuple_ofC (by rfl) T.z_tuple bt_tuple (pa_cons (by exact pe_lc rfl S.nd (pi_range1 (by rfl) T.z_range (pa_cons pe_int pa_nil)) (own := [("copy", 9)]) (blkOk_by (by rfl)) (fun _ _ _ _ _ => (pg_name (i := 9) S.nd rfl (by first | exact Or.inl rfl | exact Or.inr rfl))) (fun _ _ _ _ _ => (pts_one (pt_cmpR (op_eqD hr.units) (pe_callG (ok__law_take T (k + 7)) hr (by rfl) T._law_take.g T._law_take.F.kp T._law_take.b (passAt takes0) (pa_cons (pv 1) (pa_cons pe_int pa_nil))) pe_int (nomark _)))) (fun _ _ _ _ _ => (pe_tupC (pa_cons (pv 9) (pa_cons (pe_op op_addG pe_int (pe_callG (ok__law_take T (k + 7)) hr (by rfl) T._law_take.g T._law_take.F.kp T._law_take.b (passAt takes0) (pa_cons (pv 1) (pa_cons pe_int pa_nil)))) pa_nil))))) pa_nil)))
 (pss_cons (ps_set (i := 9) S.nd rfl (by first | exact Or.inl rfl | exact Or.inr rfl) (pe_callG (ok__law_take T (k + 7)) hr (by rfl) T._law_take.g T._law_take.F.kp T._law_take.b (passAt tk) (pa_cons (pv 1) (pa_cons pe_int pa_nil))))
 (pss_cons (ps_set (i := 10) S.nd rfl (by first | exact Or.inl rfl | exact Or.inr rfl) (pe_dget2 (un1 hr) (pe_callTy (call_dictG rfl) (by rfl) T.z_dict bt_dict (pa_cons (pv 8) pa_nil)) (pv 9) pe_int ⟨rfl, rfl, rfl, rfl⟩))
 (pss_cons (ps_set (i := 11) S.nd rfl (by first | exact Or.inl rfl | exact Or.inr rfl) (pe_tupC (pa_cons (pe_tupC (pa_cons (pv 9) (pa_cons (pe_op op_addG (pv 10) pe_int) pa_nil))) (pa_cons (pv 8) (pa_cons pe_str (pa_cons (pe_ix ix_seq (pv 5) (pe_callG (ok__law_take T (k + 7)) hr (by rfl) T._law_take.g T._law_take.F.kp T._law_take.b (passAt tk) (pa_cons (pv 1) (pa_cons pe_int pa_nil))) (fun _ _ => rfl)) pa_nil))))))
 (pss_cons (ps_if (pw_or (pt_truth (pe_callG (ok__law_refused T (k + 0)) hr (by rfl) T._law_refused.g T._law_refused.F.kp T._law_refused.b (passAt tk) (pa_cons pe_int (pa_cons (pv 11) pa_nil))) (fun _ => rfl)) (pw_or1 (pt_cmpR (op_neD hr.units) (pe_callG (ok_rank T (k + 6)) hr (by rfl) T.rank.g T.rank.F.kp T.rank.b (passAt tk) (pa_cons (pv 11) pa_nil)) (pe_tupC (pa_cons (pe_callB (cr_sum rfl) (by rfl) T.z_sum bt_sum (pa_cons (by exact pe_lc rfl S.nd (pi_seq (pv 8)) (own := [("one", 17), ("n", 18)]) (blkOk_by (by rfl)) (fun _ _ _ _ _ => (pg_tup rfl (pgs_cons (pg_name (i := 17) S.nd rfl (by first | exact Or.inl rfl | exact Or.inr rfl)) (pgs_cons (pg_name (i := 18) S.nd rfl (by first | exact Or.inl rfl | exact Or.inr rfl)) pgs_nil)))) (fun _ _ _ _ _ => pts_nil) (fun _ _ _ _ _ => (pv 18))) pa_nil)) (pa_cons (pv 9) pa_nil))) (nomark _)))).pt
 (pss_one (ps_ret pe_bl))
 pss_nil)
 (pss_cons (ps_set (i := 12) S.nd rfl (by first | exact Or.inl rfl | exact Or.inr rfl) (pe_tupC (pa_cons (pe_tupC (pa_cons (pv 9) (pa_cons (pe_op op_addG (pv 10) pe_int) pa_nil))) (pa_cons (pe_callTy call_tuple_ofC (by rfl) T.z_tuple bt_tuple (pa_cons (pe_callB (cr_sortIt rfl hr.units) (by rfl) T.z_sorted bt_sorted (pa_cons (pe_bm0 PySem.F.plainAttrs_dict PySem.F.slot_dict_items PySem.F.type_dict_items mt_itemsV (pe_callTy (call_dictG rfl) (by rfl) T.z_dict bt_dict (pa_cons (pe_op op_addG (pe_callTy call_list_of (by rfl) T.z_list bt_list (pa_cons (pv 8) pa_nil)) (pe_lst (pa_cons (pe_tupC (pa_cons (pv 9) (pa_cons (pe_op op_addG (pv 10) pe_int) pa_nil))) pa_nil))) pa_nil))) pa_nil)) pa_nil)) (pa_cons pe_str (pa_cons (pe_tupC (pa_cons pe_str pa_nil)) pa_nil))))))
 (pss_cons (ps_if (pw_or (pt_truth (pe_callG (ok__law_refused T (k + 0)) hr (by rfl) T._law_refused.g T._law_refused.F.kp T._law_refused.b (passAt tk) (pa_cons pe_int (pa_cons (pv 12) pa_nil))) (fun _ => rfl)) (pw_or1 (pt_not (pt_cmpR (op_ltD hr.units) (pe_callG (ok_rank T (k + 6)) hr (by rfl) T.rank.g T.rank.F.kp T.rank.b (passAt tk) (pa_cons (pv 11) pa_nil)) (pe_callG (ok_rank T (k + 6)) hr (by rfl) T.rank.g T.rank.F.kp T.rank.b (passAt tk) (pa_cons (pv 12) pa_nil)) (nomark _))))).pt
 (pss_one (ps_ret pe_bl))
 pss_nil)
 (pss_cons (ps_set (i := 13) S.nd rfl (by first | exact Or.inl rfl | exact Or.inr rfl) (pe_lst (pa_cons pe_non (pa_cons (pe_tupC pa_nil) (pa_cons (pe_slice sl_G (pv 11) po_none (po_some pe_int)) (pa_cons (pe_op op_addG (pv 11) (pe_tupC (pa_cons pe_int pa_nil))) (pa_cons (pe_tupC (pa_cons (pe_tupC (pa_cons (pv 9) (pa_cons (pe_op op_addG (pv 10) pe_int) pa_nil))) (pa_cons (pv 8) (pa_cons pe_str (pa_cons (pe_tupC (pa_cons pe_str pa_nil)) pa_nil))))) (pa_cons (pe_tupC (pa_cons (pe_tupC (pa_cons (pv 9) (pa_cons pe_int pa_nil))) (pa_cons (pv 8) (pa_cons pe_str (pa_cons (pe_tupC (pa_cons pe_str pa_nil)) pa_nil))))) (pa_cons (pe_tupC (pa_cons (pe_ix ix_seq (pv 11) pe_int (fun _ _ => rfl)) (pa_cons pe_non (pa_cons pe_str (pa_cons (pe_tupC (pa_cons pe_str pa_nil)) pa_nil))))) (pa_cons (pe_tupC (pa_cons (pe_ix ix_seq (pv 11) pe_int (fun _ _ => rfl)) (pa_cons (pv 8) (pa_cons pe_str (pa_cons (pe_tupC (pa_cons pe_str pa_nil)) pa_nil))))) (pa_cons (pe_tupC (pa_cons (pe_ix ix_seq (pv 11) pe_int (fun _ _ => rfl)) (pa_cons (pv 8) (pa_cons pe_str (pa_cons (pe_tupC (pa_cons pe_str pa_nil)) pa_nil))))) (pa_cons (pe_tupC (pa_cons (pe_ix ix_seq (pv 11) pe_int (fun _ _ => rfl)) (pa_cons (pv 8) (pa_cons pe_str (pa_cons (pe_tupC (pa_cons pe_str pa_nil)) pa_nil))))) (pa_cons (pe_tupC (pa_cons (pe_ix ix_seq (pv 11) pe_int (fun _ _ => rfl)) (pa_cons (pe_tupC (pa_cons (pe_tupC (pa_cons pe_int (pa_cons pe_int pa_nil))) pa_nil)) (pa_cons pe_str (pa_cons (pe_tupC (pa_cons pe_str pa_nil)) pa_nil))))) (pa_cons (pe_tupC (pa_cons (pe_tupC (pa_cons pe_int (pa_cons pe_int pa_nil))) (pa_cons (pe_tupC (pa_cons (pe_tupC (pa_cons pe_int (pa_cons pe_int pa_nil))) (pa_cons (pe_tupC (pa_cons pe_int (pa_cons pe_int pa_nil))) pa_nil))) (pa_cons pe_str (pa_cons (pe_tupC (pa_cons pe_str pa_nil)) pa_nil))))) (pa_cons (pe_tupC (pa_cons (pe_tupC (pa_cons pe_int (pa_cons pe_int pa_nil))) (pa_cons (pe_tupC pa_nil) (pa_cons pe_str (pa_cons (pe_tupC (pa_cons pe_str pa_nil)) pa_nil))))) pa_nil)))))))))))))))
 (pss_cons (ps_if (pt_cmpR (op_neD hr.units) (by exact pe_lc rfl S.nd (pi_seq (pv 13)) (own := [("value", 2)]) (blkOk_by (by rfl)) (fun _ _ _ _ _ => (pg_name (i := 2) S.nd rfl (by first | exact Or.inl rfl | exact Or.inr rfl))) (fun _ _ _ _ _ => (pts_one (pt_not (pt_truth (pe_callG (ok__law_refused T (k + 0)) hr (by rfl) T._law_refused.g T._law_refused.F.kp T._law_refused.b (passAt takes0) (pa_cons pe_int (pa_cons (pv 2) pa_nil))) (fun _ => rfl))))) (fun _ _ _ _ _ => (pv 2))) (pe_lst pa_nil) (nomark _))
 (pss_one (ps_ret pe_bl))
 pss_nil)
 (pss_cons (ps_set (i := 14) S.nd rfl (by first | exact Or.inl rfl | exact Or.inr rfl) (pe_tupC (pa_cons (pe_tupC (pa_cons pe_str (pa_cons pe_str pa_nil))) (pa_cons (pe_tupC (pa_cons pe_str (pa_cons (pe_ix ix_seq (pe_glob (by rfl) T.c_KINDS.g T.c_KINDS.r) (pe_callG (ok__law_take T (k + 7)) hr (by rfl) T._law_take.g T._law_take.F.kp T._law_take.b (passAt tk) (pa_cons (pv 1) (pa_cons pe_int pa_nil))) (fun _ _ => rfl)) pa_nil))) pa_nil))))
 (pss_cons (ps_set (i := 15) S.nd rfl (by first | exact Or.inl rfl | exact Or.inr rfl) (pe_lst (pa_cons pe_non (pa_cons (pe_tupC pa_nil) (pa_cons (pe_tupC (pa_cons (pe_tupC (pa_cons pe_str (pa_cons pe_str pa_nil))) (pa_cons (pe_tupC (pa_cons pe_str (pa_cons pe_str pa_nil))) pa_nil))) (pa_cons (pe_tupC (pa_cons (pe_tupC (pa_cons pe_str (pa_cons pe_str pa_nil))) (pa_cons (pe_tupC (pa_cons pe_str (pa_cons pe_str pa_nil))) pa_nil))) (pa_cons (pe_tupC (pa_cons (pe_tupC (pa_cons pe_str pa_nil)) pa_nil)) (pa_cons (pe_tupC (pa_cons (pe_tupC (pa_cons pe_str (pa_cons pe_str pa_nil))) pa_nil)) (pa_cons (pe_tupC (pa_cons (pe_tupC (pa_cons pe_str (pa_cons pe_str pa_nil))) pa_nil)) (pa_cons (pe_tupC (pa_cons (pe_tupC (pa_cons pe_str (pa_cons pe_non pa_nil))) pa_nil)) (pa_cons (pe_lst (pa_cons (pe_tupC (pa_cons pe_str (pa_cons pe_str pa_nil))) pa_nil)) (pa_cons (pe_tupC (pa_cons (pe_tupC (pa_cons pe_str (pa_cons pe_str pa_nil))) pa_nil)) (pa_cons (pe_tupC (pa_cons (pe_tupC (pa_cons pe_str (pa_cons pe_str (pa_cons pe_int pa_nil)))) pa_nil)) pa_nil)))))))))))))
 (pss_one (ps_ret (pe_andT (pe_notT (pe_callG (ok__law_refused T (k + 0)) hr (by rfl) T._law_refused.g T._law_refused.F.kp T._law_refused.b (passAt tk) (pa_cons pe_int (pa_cons (pv 14) pa_nil)))) (pe_one (pe_cmpR (op_eqD hr.units) (by exact pe_lc rfl S.nd (pi_seq (pv 15)) (own := [("value", 2)]) (blkOk_by (by rfl)) (fun _ _ _ _ _ => (pg_name (i := 2) S.nd rfl (by first | exact Or.inl rfl | exact Or.inr rfl))) (fun _ _ _ _ _ => (pts_one (pt_not (pt_truth (pe_callG (ok__law_refused T (k + 0)) hr (by rfl) T._law_refused.g T._law_refused.F.kp T._law_refused.b (passAt takes0) (pa_cons pe_int (pa_cons (pv 2) pa_nil))) (fun _ => rfl))))) (fun _ _ _ _ _ => (pv 2))) (pe_lst pa_nil) (nomark _))))))))))))))))))))))))),
    (rds_seq (rds_asg (rd_fn (fun _ _ _ h => runB_n h) (rda_cons rd_var rda_nil)) rdg_name (fun p hp => absurd (hfx p hp) (by simp)))
 (rds_seq (rds_if (rdt_test (rd_op opg_ne (rd_c T.c_KINDS.q) (rd_tup (rda_cons (rd_c fun F => .str _) (rda_cons (rd_c fun F => .str _) (rda_cons (rd_c fun F => .str _) (rda_cons (rd_c fun F => .str _) (rda_cons (rd_c fun F => .str _) (rda_cons (rd_c fun F => .str _) (rda_cons (rd_c fun F => .str _) (rda_cons (rd_c fun F => .str _) (rda_cons (rd_c fun F => .str _) rda_nil))))))))))))
 (rds_ret (rd_c fun F => .bl _))
 rds_pass)
 (rds_seq (rds_par (rda_cons (rd_op opg_idx (rd_lst (rda_cons (rd_op opg_sub (rd_fnL (fun _ _ h => runB_n h) (rda_cons rd_var (rda_cons (rd_c fun F => .int _) rda_nil))) (rd_c fun F => .int _)) (rda_cons (rd_op opg_mulS (rd_c fun F => .str _) (rd_fnL (fun _ _ h => runB_n h) (rda_cons rd_var (rda_cons (rd_c fun F => .int _) rda_nil)))) rda_nil))) (rd_fnL (fun _ _ h => runB_n h) (rda_cons rd_var (rda_cons (rd_c fun F => .int _) rda_nil)))) (rda_cons (rd_op opg_idx (rd_lst (rda_cons (rd_c fun F => .str _) (rda_cons (rd_c fun F => .int _) rda_nil))) (rd_fnL (fun _ _ h => runB_n h) (rda_cons rd_var (rda_cons (rd_c fun F => .int _) rda_nil)))) rda_nil)) (fun p hp => absurd (hfx p hp) (by simp)))
 (rds_seq (rds_asg (rd_tup (rda_cons (rd_fnL (fun _ _ h => runB_n h) (rda_cons rd_var (rda_cons (rd_c fun F => .int _) rda_nil))) (rda_cons (rd_op opg_add (rd_c fun F => .int _) (rd_fnL (fun _ _ h => runB_n h) (rda_cons rd_var (rda_cons (rd_c fun F => .int _) rda_nil)))) rda_nil))) rdg_name (fun p hp => absurd (hfx p hp) (by simp)))
 (rds_seq (rds_asg (rd_lst (rda_cons (rd_tup (rda_cons (rd_c fun F => .str _) (rda_cons (rd_op opg_sub (rd_fnL (fun _ _ h => runB_n h) (rda_cons rd_var (rda_cons (rd_c fun F => .int _) rda_nil))) (rd_c fun F => .int _)) rda_nil))) (rda_cons (rd_tup (rda_cons (rd_c fun F => .str _) (rda_cons rd_var rda_nil))) (rda_cons (rd_tup (rda_cons (rd_c fun F => .str _) (rda_cons rd_var rda_nil))) (rda_cons (rd_tup (rda_cons (rd_c fun F => .str _) (rda_cons rd_var rda_nil))) (rda_cons (rd_tup (rda_cons (rd_c fun F => .str _) rda_nil)) (rda_cons (rd_tup (rda_cons (rd_c fun F => .str _) rda_nil)) (rda_cons (rd_tup (rda_cons (rd_c fun F => .str _) (rda_cons rd_var (rda_cons rd_var rda_nil)))) (rda_cons (rd_tup (rda_cons (rd_c fun F => .str _) (rda_cons (rd_c fun F => .non) (rda_cons rd_var rda_nil)))) (rda_cons (rd_tup (rda_cons (rd_c fun F => .str _) (rda_cons rd_var (rda_cons rd_var rda_nil)))) (rda_cons (rd_tup (rda_cons (rd_c fun F => .str _) (rda_cons rd_var rda_nil))) (rda_cons (rd_tup (rda_cons (rd_c fun F => .str _) (rda_cons (rd_c fun F => .str _) (rda_cons (rd_c fun F => .str _) rda_nil)))) (rda_cons (rd_tup (rda_cons (rd_c fun F => .str _) (rda_cons rd_var rda_nil))) (rda_cons (rd_tup (rda_cons (rd_c fun F => .str _) (rda_cons rd_var rda_nil))) rda_nil)))))))))))))) rdg_name (fun p hp => absurd (hfx p hp) (by simp)))
 (rds_seq (rds_for (rdi_seq rd_var) (rdgP rdg_name) (fun p hp => absurd (hfx p hp) (by simp))
 (rds_if (rdt_test (rd_op opg_ne (rd_comp (rdi_seq (rd_c T.c_KINDS.q)) (rdgP rdg_name) (by decide) (rdt_truth (rd_fnF (fun _ h => runB_n h) (rda_cons rd_var (rda_cons rd_var rda_nil)))) rd_var) (rd_comp (rdi_seq (rd_c T.c_KINDS.q)) (rdgP rdg_name) (by decide) (rdt_test (rd_op opg_in rd_var (rd_fnF (fun _ h => runB_n h) (rda_cons rd_var rda_nil)))) rd_var)))
 (rds_ret (rd_c fun F => .bl _))
 rds_pass))
 (rds_seq (rds_asg (rd_lst (rda_cons (rd_c fun F => .non) (rda_cons (rd_tup rda_nil) (rda_cons (rd_c fun F => .str _) (rda_cons (rd_tup (rda_cons (rd_c fun F => .str _) rda_nil)) (rda_cons (rd_tup (rda_cons (rd_c fun F => .str _) (rda_cons (rd_c fun F => .int _) (rda_cons (rd_c fun F => .int _) rda_nil)))) (rda_cons (rd_tup (rda_cons (rd_c fun F => .str _) (rda_cons (rd_c fun F => .bl _) rda_nil))) (rda_cons (rd_tup (rda_cons (rd_c fun F => .str _) (rda_cons (rd_c fun F => .str _) rda_nil))) (rda_cons (rd_tup (rda_cons (rd_c fun F => .str _) (rda_cons (rd_op opg_mulS (rd_c fun F => .str _) (rd_c fun F => .int _)) rda_nil))) (rda_cons (rd_tup (rda_cons (rd_c fun F => .str _) (rda_cons (rd_c fun F => .str _) rda_nil))) (rda_cons (rd_tup (rda_cons (rd_c fun F => .str _) (rda_cons (rd_c fun F => .bl _) rda_nil))) (rda_cons (rd_tup (rda_cons (rd_c fun F => .str _) (rda_cons (rd_tup (rda_cons (rd_c fun F => .int _) (rda_cons (rd_c fun F => .int _) rda_nil))) (rda_cons (rd_c fun F => .int _) rda_nil)))) (rda_cons (rd_tup (rda_cons (rd_c fun F => .str _) (rda_cons (rd_tup (rda_cons (rd_c fun F => .int _) (rda_cons (rd_c fun F => .int _) rda_nil))) (rda_cons (rd_c fun F => .int _) rda_nil)))) (rda_cons (rd_tup (rda_cons (rd_c fun F => .str _) (rda_cons (rd_tup (rda_cons (rd_c fun F => .int _) rda_nil)) (rda_cons (rd_c fun F => .int _) rda_nil)))) (rda_cons (rd_tup (rda_cons (rd_c fun F => .str _) (rda_cons (rd_c fun F => .int _) rda_nil))) (rda_cons (rd_tup (rda_cons (rd_c fun F => .str _) (rda_cons (rd_c fun F => .non) rda_nil))) (rda_cons (rd_tup (rda_cons (rd_c fun F => .str _) (rda_cons (rd_c fun F => .str _) (rda_cons (rd_c fun F => .str _) rda_nil)))) (rda_cons (rd_tup (rda_cons (rd_c fun F => .str _) (rda_cons (rd_c fun F => .str _) (rda_cons (rd_c fun F => .str _) rda_nil)))) (rda_cons (rd_tup (rda_cons (rd_c fun F => .str _) (rda_cons (rd_c fun F => .int _) (rda_cons (rd_c fun F => .str _) rda_nil)))) (rda_cons (rd_tup (rda_cons (rd_c fun F => .str _) (rda_cons (rd_c fun F => .int _) rda_nil))) (rda_cons (rd_tup (rda_cons (rd_c fun F => .str _) (rda_cons (rd_c fun F => .int _) rda_nil))) (rda_cons (rd_tup (rda_cons (rd_c fun F => .str _) rda_nil)) (rda_cons (rd_lst (rda_cons (rd_c fun F => .str _) (rda_cons (rd_c fun F => .int _) rda_nil))) (rda_cons (rd_tup (rda_cons (rd_c fun F => .non) (rda_cons (rd_c fun F => .int _) rda_nil))) (rda_cons (rd_tup (rda_cons (rd_c fun F => .str _) (rda_cons (rd_c fun F => .int _) rda_nil))) (rda_cons (rd_tup (rda_cons (rd_c fun F => .str _) (rda_cons (rd_c fun F => .non) rda_nil))) (rda_cons (rd_tup (rda_cons (rd_c fun F => .str _) rda_nil)) rda_nil))))))))))))))))))))))))))) rdg_name (fun p hp => absurd (hfx p hp) (by simp)))
 (rds_seq (rds_if (rdt_or (rdt_test (rd_op opg_ne (rd_comp (rdi_seq rd_var) (rdgP rdg_name) (by decide) (rdt_test (rd_op opg_ne (rd_comp (rdi_seq (rd_c T.c_KINDS.q)) (rdgP rdg_name) (by decide) (rdt_truth (rd_fnF (fun _ h => runB_n h) (rda_cons rd_var (rda_cons rd_var rda_nil)))) rd_var) (rd_lst rda_nil))) rd_var) (rd_lst rda_nil))) (rdt_not (rdt_truth (rd_isi (by decide +kernel) (rd_fn (fun _ _ _ h => runB_n h) (rda_cons (rd_c fun F => .str _) (rda_cons (rd_tup (rda_cons (rd_c fun F => .str _) rda_nil)) rda_nil)))))))
 (rds_ret (rd_c fun F => .bl _))
 rds_pass)
 (rds_seq (rds_asg (rd_call cg_tuple (rda_cons (rd_comp (rdi_rng1 (rda_cons (rd_c fun F => .int _) rda_nil)) (rdgP rdg_name) (by decide) (rdt_test (rd_op opg_eq (rd_fnL (fun _ _ h => runB_n h) (rda_cons rd_var (rda_cons (rd_c fun F => .int _) rda_nil))) (rd_c fun F => .int _))) (rd_tup (rda_cons rd_var (rda_cons (rd_op opg_add (rd_c fun F => .int _) (rd_fnL (fun _ _ h => runB_n h) (rda_cons rd_var (rda_cons (rd_c fun F => .int _) rda_nil)))) rda_nil)))) rda_nil)) rdg_name (fun p hp => absurd (hfx p hp) (by simp)))
 (rds_seq (rds_asg (rd_fnL (fun _ _ h => runB_n h) (rda_cons rd_var (rda_cons (rd_c fun F => .int _) rda_nil))) rdg_name (fun p hp => absurd (hfx p hp) (by simp)))
 (rds_seq (rds_asg (rd_dgetE (rd_call cg_dict (rda_cons rd_var rda_nil)) rdD_var (rdD_c fun F => .int _)) rdg_name (fun p hp => absurd (hfx p hp) (by simp)))
 (rds_seq (rds_asg (rd_tup (rda_cons (rd_tup (rda_cons rd_var (rda_cons (rd_op opg_add rd_var (rd_c fun F => .int _)) rda_nil))) (rda_cons rd_var (rda_cons (rd_c fun F => .str _) (rda_cons (rd_op opg_idx rd_var (rd_fnL (fun _ _ h => runB_n h) (rda_cons rd_var (rda_cons (rd_c fun F => .int _) rda_nil)))) rda_nil))))) rdg_name (fun p hp => absurd (hfx p hp) (by simp)))
 (rds_seq (rds_if (rdt_or (rdt_truth (rd_fnF (fun _ h => runB_n h) (rda_cons (rd_c fun F => .int _) (rda_cons rd_var rda_nil)))) (rdt_test (rd_op opg_ne (rd_fnF (fun _ h => runB_n h) (rda_cons rd_var rda_nil)) (rd_tup (rda_cons (rd_call cg_sum (rda_cons (rd_comp (rdi_seq rd_var) (rdgP (rdg_tup (rdgs_cons rdg_name (rdgs_cons rdg_name rdgs_nil)))) (by decide) rdt_yes rd_var) rda_nil)) (rda_cons rd_var rda_nil))))))
 (rds_ret (rd_c fun F => .bl _))
 rds_pass)
 (rds_seq (rds_asg (rd_tup (rda_cons (rd_tup (rda_cons rd_var (rda_cons (rd_op opg_add rd_var (rd_c fun F => .int _)) rda_nil))) (rda_cons (rd_call cg_tuple (rda_cons (rd_sortE (rd_call cg_dict (rda_cons (rd_op opg_add (rd_call cg_list (rda_cons rd_var rda_nil)) (rd_lst (rda_cons (rd_tup (rda_cons rd_var (rda_cons (rd_op opg_add rd_var (rd_c fun F => .int _)) rda_nil))) rda_nil))) rda_nil))) rda_nil)) (rda_cons (rd_c fun F => .str _) (rda_cons (rd_tup (rda_cons (rd_c fun F => .str _) rda_nil)) rda_nil))))) rdg_name (fun p hp => absurd (hfx p hp) (by simp)))
 (rds_seq (rds_if (rdt_or (rdt_truth (rd_fnF (fun _ h => runB_n h) (rda_cons (rd_c fun F => .int _) (rda_cons rd_var rda_nil)))) (rdt_not (rdt_test (rd_op opg_ltD (rd_fnF (fun _ h => runB_n h) (rda_cons rd_var rda_nil)) (rd_fnF (fun _ h => runB_n h) (rda_cons rd_var rda_nil))))))
 (rds_ret (rd_c fun F => .bl _))
 rds_pass)
 (rds_seq (rds_asg (rd_lst (rda_cons (rd_c fun F => .non) (rda_cons (rd_tup rda_nil) (rda_cons (rd_slice rd_var rdo_none (rdo_some (rd_c fun F => .int _))) (rda_cons (rd_op opg_add rd_var (rd_tup (rda_cons (rd_c fun F => .int _) rda_nil))) (rda_cons (rd_tup (rda_cons (rd_tup (rda_cons rd_var (rda_cons (rd_op opg_add rd_var (rd_c fun F => .int _)) rda_nil))) (rda_cons rd_var (rda_cons (rd_c fun F => .str _) (rda_cons (rd_tup (rda_cons (rd_c fun F => .str _) rda_nil)) rda_nil))))) (rda_cons (rd_tup (rda_cons (rd_tup (rda_cons rd_var (rda_cons (rd_c fun F => .int _) rda_nil))) (rda_cons rd_var (rda_cons (rd_c fun F => .str _) (rda_cons (rd_tup (rda_cons (rd_c fun F => .str _) rda_nil)) rda_nil))))) (rda_cons (rd_tup (rda_cons (rd_op opg_idx rd_var (rd_c fun F => .int _)) (rda_cons (rd_c fun F => .non) (rda_cons (rd_c fun F => .str _) (rda_cons (rd_tup (rda_cons (rd_c fun F => .str _) rda_nil)) rda_nil))))) (rda_cons (rd_tup (rda_cons (rd_op opg_idx rd_var (rd_c fun F => .int _)) (rda_cons rd_var (rda_cons (rd_c fun F => .str _) (rda_cons (rd_tup (rda_cons (rd_c fun F => .str _) rda_nil)) rda_nil))))) (rda_cons (rd_tup (rda_cons (rd_op opg_idx rd_var (rd_c fun F => .int _)) (rda_cons rd_var (rda_cons (rd_c fun F => .str _) (rda_cons (rd_tup (rda_cons (rd_c fun F => .str _) rda_nil)) rda_nil))))) (rda_cons (rd_tup (rda_cons (rd_op opg_idx rd_var (rd_c fun F => .int _)) (rda_cons rd_var (rda_cons (rd_c fun F => .str _) (rda_cons (rd_tup (rda_cons (rd_c fun F => .str _) rda_nil)) rda_nil))))) (rda_cons (rd_tup (rda_cons (rd_op opg_idx rd_var (rd_c fun F => .int _)) (rda_cons (rd_tup (rda_cons (rd_tup (rda_cons (rd_c fun F => .int _) (rda_cons (rd_c fun F => .int _) rda_nil))) rda_nil)) (rda_cons (rd_c fun F => .str _) (rda_cons (rd_tup (rda_cons (rd_c fun F => .str _) rda_nil)) rda_nil))))) (rda_cons (rd_tup (rda_cons (rd_tup (rda_cons (rd_c fun F => .int _) (rda_cons (rd_c fun F => .int _) rda_nil))) (rda_cons (rd_tup (rda_cons (rd_tup (rda_cons (rd_c fun F => .int _) (rda_cons (rd_c fun F => .int _) rda_nil))) (rda_cons (rd_tup (rda_cons (rd_c fun F => .int _) (rda_cons (rd_c fun F => .int _) rda_nil))) rda_nil))) (rda_cons (rd_c fun F => .str _) (rda_cons (rd_tup (rda_cons (rd_c fun F => .str _) rda_nil)) rda_nil))))) (rda_cons (rd_tup (rda_cons (rd_tup (rda_cons (rd_c fun F => .int _) (rda_cons (rd_c fun F => .int _) rda_nil))) (rda_cons (rd_tup rda_nil) (rda_cons (rd_c fun F => .str _) (rda_cons (rd_tup (rda_cons (rd_c fun F => .str _) rda_nil)) rda_nil))))) rda_nil)))))))))))))) rdg_name (fun p hp => absurd (hfx p hp) (by simp)))
 (rds_seq (rds_if (rdt_test (rd_op opg_ne (rd_comp (rdi_seq rd_var) (rdgP rdg_name) (by decide) (rdt_not (rdt_truth (rd_fnF (fun _ h => runB_n h) (rda_cons (rd_c fun F => .int _) (rda_cons rd_var rda_nil))))) rd_var) (rd_lst rda_nil)))
 (rds_ret (rd_c fun F => .bl _))
 rds_pass)
 (rds_seq (rds_asg (rd_tup (rda_cons (rd_tup (rda_cons (rd_c fun F => .str _) (rda_cons (rd_c fun F => .str _) rda_nil))) (rda_cons (rd_tup (rda_cons (rd_c fun F => .str _) (rda_cons (rd_op opg_idx (rd_c T.c_KINDS.q) (rd_fnL (fun _ _ h => runB_n h) (rda_cons rd_var (rda_cons (rd_c fun F => .int _) rda_nil)))) rda_nil))) rda_nil))) rdg_name (fun p hp => absurd (hfx p hp) (by simp)))
 (rds_seq (rds_asg (rd_lst (rda_cons (rd_c fun F => .non) (rda_cons (rd_tup rda_nil) (rda_cons (rd_tup (rda_cons (rd_tup (rda_cons (rd_c fun F => .str _) (rda_cons (rd_c fun F => .str _) rda_nil))) (rda_cons (rd_tup (rda_cons (rd_c fun F => .str _) (rda_cons (rd_c fun F => .str _) rda_nil))) rda_nil))) (rda_cons (rd_tup (rda_cons (rd_tup (rda_cons (rd_c fun F => .str _) (rda_cons (rd_c fun F => .str _) rda_nil))) (rda_cons (rd_tup (rda_cons (rd_c fun F => .str _) (rda_cons (rd_c fun F => .str _) rda_nil))) rda_nil))) (rda_cons (rd_tup (rda_cons (rd_tup (rda_cons (rd_c fun F => .str _) rda_nil)) rda_nil)) (rda_cons (rd_tup (rda_cons (rd_tup (rda_cons (rd_c fun F => .str _) (rda_cons (rd_c fun F => .str _) rda_nil))) rda_nil)) (rda_cons (rd_tup (rda_cons (rd_tup (rda_cons (rd_c fun F => .str _) (rda_cons (rd_c fun F => .str _) rda_nil))) rda_nil)) (rda_cons (rd_tup (rda_cons (rd_tup (rda_cons (rd_c fun F => .str _) (rda_cons (rd_c fun F => .non) rda_nil))) rda_nil)) (rda_cons (rd_lst (rda_cons (rd_tup (rda_cons (rd_c fun F => .str _) (rda_cons (rd_c fun F => .str _) rda_nil))) rda_nil)) (rda_cons (rd_tup (rda_cons (rd_tup (rda_cons (rd_c fun F => .str _) (rda_cons (rd_c fun F => .str _) rda_nil))) rda_nil)) (rda_cons (rd_tup (rda_cons (rd_tup (rda_cons (rd_c fun F => .str _) (rda_cons (rd_c fun F => .str _) (rda_cons (rd_c fun F => .int _) rda_nil)))) rda_nil)) rda_nil)))))))))))) rdg_name (fun p hp => absurd (hfx p hp) (by simp)))
 (rds_ret (rd_and (rd_not (rd_fnF (fun _ h => runB_n h) (rda_cons (rd_c fun F => .int _) (rda_cons rd_var rda_nil)))) (rd_op opg_eq (rd_comp (rdi_seq rd_var) (rdgP rdg_name) (by decide) (rdt_not (rdt_truth (rd_fnF (fun _ h => runB_n h) (rda_cons (rd_c fun F => .int _) (rda_cons rd_var rda_nil))))) rd_var) (rd_lst rda_nil)))))))))))))))))))))))⟩
end
end K01
/-! P_K01: what the defs give, on small data -/
namespace K01
open PySem PySem.Spec L2 MM
open Knd (Sm isAny isVal isLab fitsK eqS lenIs at0 at1 isLet)
open Com (isDot isVec DrawOK DrawB drD drS)
def kindsS : List Str := ["counter", "last", "choices", "keeps", "drops", "flag", "map", "list", "tree"]
def kindsD : PyData := .tuple (kindsS.map .str)
theorem sm_kind : ∀ k ∈ kindsS, Sm (.str k) := by
  have : ∀ k ∈ kindsS, tm (.str k) = true ∧ sw (.str k) ≤ 60000 := by decide +kernel
  exact this
theorem fits_kind_eq (k : Str) (hk : k ∈ kindsS) (d : PyData) (hd : Sm d) : ∃ t, m_fits_kind [.p (.str k), .p d] = some (.ok (.p (.bool (fitsK k d))), t) := Knd.fits_kind_eq k d (sm_kind k hk) hd
theorem is_dot_eq (d : PyData) : m_is_dot [.p d] = some (.ok (.p (.bool (isDot d))), [.p d]) := Com.is_dot_eq d
theorem is_vector_eq (d : PyData) (hd : ∀ ds, d = .tuple ds → ds.length ≤ 1000000) : m_is_vector [.p d] = some (.ok (.p (.bool (isVec d))), [.p d]) := Com.is_vector_eq d hd
theorem is_label_eq (d : PyData) (h : Sm d) : m_is_label [.p d] = some (.ok (.p (.bool (isLab d))), [.p d]) := Knd.is_label_eq d h
theorem count_of_eq (v : List Pr) (c : Int) (hv : v.length ≤ 1000000) : m_count_of [.p (vD v), .p (.int c)] = some (.ok (.p (.int (cnt v c))), [.p (vD v), .p (.int c)]) := Com.count_of_eq v c hv
theorem size_of_eq (v : List Pr) (hv : v.length ≤ 1000000) : m_size_of [.p (vD v)] = some (.ok (.p (.int (v.map (·.2)).sum)), [.p (vD v)]) := Com.size_of_eq v hv
theorem sm_len {ds : List PyData} (h : Sm (.tuple ds)) : ds.length ≤ 60000 := by
  have : ∀ ds : List PyData, ds.length ≤ swAll ds := by
    intro ds
    induction ds with
    | nil => exact Nat.le_refl _
    | cons d ds ih => show ds.length + 1 ≤ sw d + 1 + swAll ds; omega
  exact Nat.le_trans (this ds) h.2
theorem vec_inv {d : PyData} (h : isVec d = true) : ∃ v : List Pr, d = vD v := by
  cases d with
  | tuple ds =>
    unfold isVec at h
    rw [Bool.and_eq_true] at h
    obtain ⟨l, rfl, _⟩ := Com.dots_inv h.1
    exact ⟨l, rfl⟩
  | _ => cases h
def vecOf (d : PyData) : List Pr := match d with
  | .tuple ds => ds.filterMap fun x => match x with
    | .tuple [.int i, .int j] => some (i, j)
    | _ => none
  | _ => []
theorem vecOf_vD (v : List Pr) : vecOf (vD v) = v := by
  show (v.map prI).filterMap _ = v
  rw [List.filterMap_map]
  induction v with
  | nil => rfl
  | cons p v ih => rw [List.filterMap_cons]; show p :: _ = _; rw [ih]
def dotOf (d : PyData) : Pr := match d with
  | .tuple [.int i, .int j] => (i, j)
  | _ => (0, 0)
def isDeed (d : PyData) : Bool := match d with
  | .tuple [a, c, l, w] => isDot a && (isVec c && (decide (cnt (vecOf c) (dotOf a).1 = (dotOf a).2 - 1) && (isLab l && kindsS.any fun k => fitsK k w)))
  | _ => false
theorem any_fits (w : PyData) (hw : Sm w) (E0 : MM.Env) (s0 s1 s2 s3 : Slot) : compM [5] (tgP (gN 5)) mYes (mFnF m_fits_kind (mCons (mVar 5) (mCons (mVar 4) mNil))) (kindsS.map .str) [] [s0, s1, s2, s3, .p w, .un] = some (kindsS.map (fun k => .bool (fitsK k w)), [s0, s1, s2, s3, .p w, .un]) := by
  have hc := compM_map (own := [5]) (tg := (tgP (gN 5))) (me := (mFnF m_fits_kind (mCons (mVar 5) (mCons (mVar 4) mNil)))) PyData.str (fun k => .bool (fitsK k w)) [s0, s1, s2, s3, .p w, .un] kindsS [] (fun k hk =>
    ⟨[s0, s1, s2, s3, .p w, .p (.str k)], .val (.p (.bool (fitsK k w))), [s0, s1, s2, s3, .p w, .p (.str k)], rfl, by
      obtain ⟨t, h⟩ := fits_kind_eq k hk w hw
      simp [h], rfl, rfl⟩)
  rwa [List.nil_append] at hc
theorem is_deed_eq (d : PyData) (hd : Sm d) : ∃ t, m_is_deed [.p d] = some (.ok (.p (.bool (isDeed d))), t) := by
  refine ⟨[.p d], ?_⟩
  show runE 1 (mb_is_deed [.p d, .un, .un, .un, .un, .un]) = _
  unfold mb_is_deed
  cases d with
  | tuple ds =>
    have e : (["tuple"].any fun n => isSub (tyD (.tuple ds)) n) = true := Com.isi_tuple _
    simp only [List.any_cons, List.any_nil, Bool.or_false] at e
    by_cases hl : ds.length = 4
    case neg =>
      have ne : (((ds.length : Int) == 4) : Bool) = false := beq_eq_false_iff_ne.mpr (by omega)
      have e2 : isDeed (.tuple ds) = false := by
        match ds, hl with
        | [], _ => rfl
        | [_], _ => rfl
        | [_, _], _ => rfl
        | [_, _, _], _ => rfl
        | [_, _, _, _], h => exact absurd rfl h
        | _ :: _ :: _ :: _ :: _ :: _, _ => rfl
      simp [e, ne, e2]
      rfl
    match ds, hl, hd, e with
    | [a, c, l, w], _, hd, e =>
      obtain ⟨ha, h2⟩ := Knd.sm_cons hd
      obtain ⟨hc, h3⟩ := Knd.sm_cons h2
      obtain ⟨hl, h4⟩ := Knd.sm_cons h3
      obtain ⟨hw, _⟩ := Knd.sm_cons h4
      have i0 : gIdx (.tuple [a, c, l, w]) (.int 0) = some (.p a) := Com.gIdx_t0 _ _
      have i1 : gIdx (.tuple [a, c, l, w]) (.int 1) = some (.p c) := Com.gIdx_t1 _ _ _
      have v1 := is_dot_eq a
      have v2 := is_vector_eq c fun ds hds => by subst hds; have := sm_len hc; omega
      have v3 := is_label_eq l hl
      show _ = some (Res.ok (Slot.p (.bool (isDot a && (isVec c && (decide (cnt (vecOf c) (dotOf a).1 = (dotOf a).2 - 1) && (isLab l && kindsS.any fun k => fitsK k w)))))), _)
      cases q1 : isDot a with
      | false => rw [q1] at v1; simp [e, i0, i1, v1]; rfl
      | true =>
        rw [q1] at v1
        cases q2 : isVec c with
        | false => rw [q2] at v2; simp [e, i0, i1, v1, v2]; rfl
        | true =>
          rw [q2] at v2
          obtain ⟨v, rfl⟩ := vec_inv q2
          obtain ⟨p, rfl, _⟩ := Com.isDot_inv q1
          have hv : v.length ≤ 1000000 := by
            have := sm_len (ds := v.map prI) hc
            rw [List.length_map] at this
            omega
          have hcn := count_of_eq v p.1 hv
          have dO : dotOf (prI p) = p := rfl
          have e4 : ((([] : List PyData).length : Int) + 1 + 1 + 1 + 1 == 4) = true := rfl
          rw [vecOf_vD, dO]
          have hn : sIf (mOrT (mNotT (mTruth (mIsi ["tuple"] (mVar 0)))) (mOrT (mTest (mOp gNe (mCall gLen (mCons (mVar 0) mNil)) (mC (.int 4)))) (mOrT (mNotT (mTruth (mFn m_is_dot (mCons (mOp gIdx (mVar 0) (mC (.int 0))) mNil)))) (mNotT (mTruth (mFn m_is_vector (mCons (mOp gIdx (mVar 0) (mC (.int 1))) mNil)))))))
            (sRet (mC (.bool false)))
            sNx [.p (.tuple [prI p, vD v, l, w]), .un, .un, .un, .un, .un] = some (.nx, [.p (.tuple [prI p, vD v, l, w]), .un, .un, .un, .un, .un]) := by
            refine if_no ?_
            simp [e, i0, i1, v1, v2]
          rw [sSeq_run, hn]
          have ha2 : sAsg (mVar 0) (gT 4 (gsCons (gN 1) (gsCons (gN 2) (gsCons (gN 3) (gsCons (gN 4) gsNil))))) [.p (.tuple [prI p, vD v, l, w]), .un, .un, .un, .un, .un] = some (.nx, [.p (.tuple [prI p, vD v, l, w]), .p (prI p), .p (vD v), .p l, .p w, .un]) := rfl
          show runE 1 (sSeq _ _ _) = _
          rw [sSeq_run, ha2]
          show runE 1 (sSeq _ _ _) = _
          have hany := any_fits w hw [] (.p (.tuple [prI p, vD v, l, w])) (.p (prI p)) (.p (vD v)) (.p l)
          have hK : itD (.tuple [.str "counter", .str "last", .str "choices", .str "keeps", .str "drops", .str "flag", .str "map", .str "list", .str "tree"]) = some (kindsS.map .str) := rfl
          have hz : (kindsS.map PyData.str).length ≤ 1000000 := by decide
          have hA : gAny [.list (kindsS.map fun k => .bool (fitsK k w))] = some (.p (.bool (kindsS.any fun k => fitsK k w))) := gAny_run _ _
          rw [sSeq_run]
          by_cases q3 : cnt v p.1 = p.2 - 1
          · have q3' : (cnt v p.1 == p.2 - 1) = true := beq_iff_eq.mpr q3
            cases q4 : isLab l with
            | false =>
              rw [q4] at v3
              simp [hcn, q3', q3, v3]
              rfl
            | true =>
              rw [q4] at v3
              generalize kindsS.map PyData.str = KD at hK hz hany
              simp [-List.map_map, hcn, q3', q3, v3, hK, hz, hany, hA]
              rfl
          · have q3' : (cnt v p.1 == p.2 - 1) = false := beq_eq_false_iff_ne.mpr q3
            simp [hcn, q3', q3]
            rfl
  | none => simp [tyD, isDeed]; rfl
  | bool b => simp [tyD, isDeed]; rfl
  | int b => simp [tyD, isDeed]; rfl
  | str b => simp [tyD, isDeed]; rfl
  | list b => simp [tyD, isDeed]; rfl
  | dict b => simp [tyD, isDeed]; rfl
def noGo : Exn := ⟨"NotAllowed", none⟩
theorem check_deed_eq (d : PyData) (hd : Sm d) : ∃ t, m_check_deed [.p d] = some ((if isDeed d then .ok (.p .none) else .ex noGo), t) := by
  refine ⟨[.p d], ?_⟩
  show runE 1 (mb_check_deed [.p d]) = _
  obtain ⟨t, h⟩ := is_deed_eq d hd
  unfold mb_check_deed
  cases q : isDeed d with
  | true =>
    rw [q] at h
    simp [h]
    rfl
  | false =>
    rw [q] at h
    simp [h]
    rfl
theorem refused_deed (d : PyData) (hd : Sm d) : ∃ t, m__law_refused [.p (.int 0), .p d] = some (.ok (.p (.bool (!isDeed d))), t) := by
  refine ⟨[.p (.int 0), .p d], ?_⟩
  show runE 2 (mb__law_refused [.p (.int 0), .p d]) = _
  obtain ⟨t, h⟩ := check_deed_eq d hd
  have hcs : List.lookup noGo.c [((Str.ofString "MeetingError" : Str), false), ((Str.ofString "NotAllowed" : Str), true)] = some true := by decide +kernel
  unfold mb__law_refused
  cases q : isDeed d with
  | true =>
    rw [q] at h
    simp [sDrop, h]
    rfl
  | false =>
    rw [q] at h
    simp [sDrop, h, hcs]
    rfl
theorem refused_doc (d : PyData) (b : Bool) (t : List Slot) (hd : m_is_document [.p d] = some (.ok (.p (.bool b)), t)) : ∃ t, m__law_refused [.p (.int 1), .p d] = some (.ok (.p (.bool (!b))), t) := by
  refine ⟨[.p (.int 1), .p d], ?_⟩
  have hc : ∃ t, m_check_document [.p d] = some ((if b then .ok (.p .none) else .ex noGo), t) := by
    refine ⟨[.p d], ?_⟩
    show runE 1 (mb_check_document [.p d]) = _
    unfold mb_check_document
    cases b with
    | true => simp [hd]; rfl
    | false => simp [hd]; rfl
  obtain ⟨t2, h⟩ := hc
  show runE 2 (mb__law_refused [.p (.int 1), .p d]) = _
  have hcs : List.lookup noGo.c [((Str.ofString "MeetingError" : Str), false), ((Str.ofString "NotAllowed" : Str), true)] = some true := by decide +kernel
  have h10 : ((1 : Int) == 0) = false := by decide
  unfold mb__law_refused
  cases b with
  | true =>
    simp [sDrop, h, h10]
    rfl
  | false =>
    simp [sDrop, h, hcs, h10]
    rfl
theorem rank_eq (p : Pr) (v : List Pr) (r : List PyData) (hv : v.length ≤ 1000000) : m_rank [.p (.tuple (prI p :: vD v :: r))] = some (.ok (.p (.tuple [.int (v.map (·.2)).sum, .int p.1])), [.p (.tuple (prI p :: vD v :: r))]) := by
  refine fn_rt (e := [.p (.tuple (prI p :: vD v :: r))]) rfl ?_
  show mb_rank [.p (.tuple (prI p :: vD v :: r))] = _
  unfold mb_rank
  have i0 : gIdx (.tuple (prI p :: vD v :: r)) (.int 0) = some (.p (prI p)) := Com.gIdx_t0 _ _
  have i1 : gIdx (.tuple (prI p :: vD v :: r)) (.int 1) = some (.p (vD v)) := Com.gIdx_t1 _ _ _
  simp [i0, i1, size_of_eq v hv]
/-! documents -/
theorem dd2 (a b : PyData) (h : PySem.W.keyToks a ≠ PySem.W.keyToks b) : MS.dd [a, b] = [a, b] := by
  simp [MS.dd, h]
  exact fun z => h z.symm
end K01
/-! P2_K01: documents -/
namespace K01
open PySem PySem.Spec L2 MM
def dc0 : StM := (sIf (mOrT (mNotT (mTruth (mIsi ["tuple"] (mVar 0)))) (mTest (mOp gEq (mCall gLen (mCons (mVar 0) mNil)) (mC (.int 0)))))
 (sRet (mC (.bool false)))
 sNx)
def dc1 : StM := (sIf (mNotT (mTruth (mCall gAll (mCons (mComp [2] (mSeq (mVar 0)) (tgP (gN 2)) mYes (mAnd (mIsi ["tuple"] (mVar 2)) (mAnd (mOp gEq (mCall gLen (mCons (mVar 2) mNil)) (mC (.int 2))) (mFn m_is_label (mCons (mOp gIdx (mVar 2) (mC (.int 0))) mNil))))) mNil))))
 (sRet (mC (.bool false)))
 sNx)
def dc2 : StM := (sAsg (mComp [2] (mSeq (mVar 0)) (tgP (gN 2)) mYes (mOp gIdx (mVar 2) (mC (.int 0)))) (gN 1))
def dc3 : StM := (sIf (mTest (mOp gNe (mVar 1) (mUn gSortSet (mVar 1))))
 (sRet (mC (.bool false)))
 sNx)
def dc4 : StM := (sRet (mCall gAll (mCons (mComp [2] (mSeq (mVar 0)) (tgP (gN 2)) mYes (mAnd (mIsi ["str"] (mOp gIdx (mVar 2) (mC (.int 1)))) (mOp (gIn false) (mOp gIdx (mVar 2) (mC (.int 1))) (mC (.tuple [(.str "counter"), (.str "last"), (.str "choices"), (.str "keeps"), (.str "drops"), (.str "flag"), (.str "map"), (.str "list"), (.str "tree")]))))) mNil)))
def dcB : StM := (sSeq dc0 (sSeq dc1 (sSeq dc2 (sSeq dc3 dc4))))
theorem mb_doc_eq : mb_is_document = dcB := rfl
theorem le_ab : PySem.W.dataLe false id (.str "a") (.str "b") = true := by decide +kernel
theorem le_ba : PySem.W.dataLe false id (.str "b") (.str "a") = false := by decide +kernel
theorem srt1 (a : PyData) : srt [a] = [a] := by simp [srt]
theorem srt2 (a b : PyData) : srt [a, b] = if PySem.W.dataLe false id a b then [a, b] else [b, a] := by
  unfold srt
  rw [List.mergeSort]
  simp [List.MergeSort.Internal.splitInTwo, List.merge]
theorem ss1 : gSortSet (.list [.str "a"]) = some (.l ([PyData.str "a"].map .p)) := by
  show (if keysOk [.str "a"] && sortB [.str "a"] && MS.sortable [.str "a"] && dep40 [.str "a"] then some (Slot.l ((srt (MS.dd [.str "a"])).map .p)) else none) = _
  rw [show (keysOk [.str "a"] && sortB [.str "a"] && MS.sortable [.str "a"] && dep40 [.str "a"]) = true by decide +kernel, if_pos rfl, show MS.dd [.str "a"] = [.str "a"] by kernel_rfl, srt1]
theorem ss2 : gSortSet (.list [.str "a", .str "b"]) = some (.l ([PyData.str "a", .str "b"].map .p)) := by
  show (if keysOk [.str "a", .str "b"] && sortB [.str "a", .str "b"] && MS.sortable [.str "a", .str "b"] && dep40 [.str "a", .str "b"] then some (Slot.l ((srt (MS.dd [.str "a", .str "b"])).map .p)) else none) = _
  rw [show (keysOk [.str "a", .str "b"] && sortB [.str "a", .str "b"] && MS.sortable [.str "a", .str "b"] && dep40 [.str "a", .str "b"]) = true by decide +kernel, if_pos rfl, show MS.dd [.str "a", .str "b"] = [.str "a", .str "b"] by kernel_rfl, srt2, le_ab]
  rfl
theorem ss3 : gSortSet (.list [.str "b", .str "a"]) = some (.l ([PyData.str "a", .str "b"].map .p)) := by
  show (if keysOk [.str "b", .str "a"] && sortB [.str "b", .str "a"] && MS.sortable [.str "b", .str "a"] && dep40 [.str "b", .str "a"] then some (Slot.l ((srt (MS.dd [.str "b", .str "a"])).map .p)) else none) = _
  rw [show (keysOk [.str "b", .str "a"] && sortB [.str "b", .str "a"] && MS.sortable [.str "b", .str "a"] && dep40 [.str "b", .str "a"]) = true by decide +kernel, if_pos rfl, show MS.dd [.str "b", .str "a"] = [.str "b", .str "a"] by kernel_rfl, srt2, le_ba]
  rfl
theorem ss4 : gSortSet (.list [.str "a", .str "a"]) = some (.l ([PyData.str "a"].map .p)) := by
  show (if keysOk [.str "a", .str "a"] && sortB [.str "a", .str "a"] && MS.sortable [.str "a", .str "a"] && dep40 [.str "a", .str "a"] then some (Slot.l ((srt (MS.dd [.str "a", .str "a"])).map .p)) else none) = _
  rw [show (keysOk [.str "a", .str "a"] && sortB [.str "a", .str "a"] && MS.sortable [.str "a", .str "a"] && dep40 [.str "a", .str "a"]) = true by decide +kernel, if_pos rfl, show MS.dd [.str "a", .str "a"] = [.str "a"] by kernel_rfl, srt1]
theorem dc3_eq (d : PyData) (L S : List PyData) (b : Bool) (hs : gSortSet (.list L) = some (.l (S.map .p))) (hn : gNe (.list L) (.list S) = some (.p (.bool b))) : dc3 [.p d, .l (L.map .p), .un] = if b then some (.rt (.p (.bool false)), [.p d, .l (L.map .p), .un]) else some (.nx, [.p d, .l (L.map .p), .un]) := by
  unfold dc3
  cases b <;> simp [-List.map_map, hs, hn]
theorem doc_step (d : PyData) (L S : List PyData) (b c : Bool) (h0 : dc0 [.p d, .un, .un] = some (.nx, [.p d, .un, .un])) (h1 : dc1 [.p d, .un, .un] = some (.nx, [.p d, .un, .un])) (h2 : dc2 [.p d, .un, .un] = some (.nx, [.p d, .l (L.map .p), .un]))
    (hs : gSortSet (.list L) = some (.l (S.map .p))) (hn : gNe (.list L) (.list S) = some (.p (.bool b))) (h4 : b = false → dc4 [.p d, .l (L.map .p), .un] = some (.rt (.p (.bool c)), [.p d, .l (L.map .p), .un])) : ∃ t, m_is_document [.p d] = some (.ok (.p (.bool (!b && c))), t) := by
  refine ⟨[.p d], ?_⟩
  show runE 1 (mb_is_document [.p d, .un, .un]) = _
  rw [mb_doc_eq]
  unfold dcB
  rw [sSeq_run, h0]
  show runE 1 (sSeq _ _ _) = _
  rw [sSeq_run, h1]
  show runE 1 (sSeq _ _ _) = _
  rw [sSeq_run, h2]
  show runE 1 (sSeq _ _ _) = _
  rw [sSeq_run, dc3_eq d L S b hs hn]
  cases b with
  | true => rfl
  | false =>
    show runE 1 (dc4 _) = _
    rw [h4 rfl]; rfl
def isD (d : PyData) (b : Bool) : Prop := ∃ t, m_is_document [.p d] = some (.ok (.p (.bool b)), t)
theorem doc_right : ∀ k ∈ kindsS, isD (.tuple [.tuple [.str "a", .str "counter"], .tuple [.str "b", .str k]]) true := by
  intro k hk
  refine doc_step _ [.str "a", .str "b"] [.str "a", .str "b"] false true (by kernel_rfl) (by kernel_rfl) (by kernel_rfl) ss2 (by kernel_rfl) fun _ => ?_
  simp only [kindsS, List.mem_cons, List.not_mem_nil, or_false] at hk
  rcases hk with rfl | rfl | rfl | rfl | rfl | rfl | rfl | rfl | rfl <;> kernel_rfl
def noDocs : List PyData := [.none, .tuple [], .tuple [.tuple [.str "b", .str "flag"], .tuple [.str "a", .str "flag"]], .tuple [.tuple [.str "a", .str "flag"], .tuple [.str "a", .str "list"]], .tuple [.tuple [.str "a"]], .tuple [.tuple [.str "a", .str "luck"]], .tuple [.tuple [.str "", .str "flag"]], .tuple [.tuple [.str "a", .none]], .list [.tuple [.str "a", .str "flag"]], .tuple [.tuple [.str "abcdefghi", .str "flag"]], .tuple [.tuple [.str "a", .str "flag", .int 1]]]
theorem doc_wrong : ∀ d ∈ noDocs, isD d false := by
  intro d hd
  simp only [noDocs, List.mem_cons, List.not_mem_nil, or_false] at hd
  rcases hd with rfl | rfl | rfl | rfl | rfl | rfl | rfl | rfl | rfl | rfl | rfl
  · exact ⟨[.p .none], by kernel_rfl⟩
  · exact ⟨[.p (.tuple [])], by kernel_rfl⟩
  · exact doc_step _ [.str "b", .str "a"] [.str "a", .str "b"] true false (by kernel_rfl) (by kernel_rfl) (by kernel_rfl) ss3 (by kernel_rfl) fun z => nomatch z
  · exact doc_step _ [.str "a", .str "a"] [.str "a"] true false (by kernel_rfl) (by kernel_rfl) (by kernel_rfl) ss4 (by kernel_rfl) fun z => nomatch z
  · exact ⟨[.p (.tuple [.tuple [.str "a"]])], by kernel_rfl⟩
  · exact doc_step _ [.str "a"] [.str "a"] false false (by kernel_rfl) (by kernel_rfl) (by kernel_rfl) ss1 (by kernel_rfl) fun _ => by kernel_rfl
  · exact ⟨[.p (.tuple [.tuple [.str "", .str "flag"]])], by kernel_rfl⟩
  · exact doc_step _ [.str "a"] [.str "a"] false false (by kernel_rfl) (by kernel_rfl) (by kernel_rfl) ss1 (by kernel_rfl) fun _ => by kernel_rfl
  · exact ⟨[.p (.list [.tuple [.str "a", .str "flag"]])], by kernel_rfl⟩
  · exact ⟨[.p (.tuple [.tuple [.str "abcdefghi", .str "flag"]])], by kernel_rfl⟩
  · exact ⟨[.p (.tuple [.tuple [.str "a", .str "flag", .int 1]])], by kernel_rfl⟩
end K01
/-! L1_K01: the law, its whats -/
namespace K01
open PySem PySem.Spec L2 MM
open Knd (Sm isAny isVal isLab fitsK eqS lenIs at0 at1 isLet)
open Com (isDot isVec DrawOK DrawB drD drS)
def lw0 : StM := (sAsg (mFn m__law_draw (mCons (mVar 0) mNil)) (gN 1))
def lw1 : StM := (sIf (mTest (mOp gNe (mC (.tuple [(.str "counter"), (.str "last"), (.str "choices"), (.str "keeps"), (.str "drops"), (.str "flag"), (.str "map"), (.str "list"), (.str "tree")])) (mTup (mCons (mC (.str "counter")) (mCons (mC (.str "last")) (mCons (mC (.str "choices")) (mCons (mC (.str "keeps")) (mCons (mC (.str "drops")) (mCons (mC (.str "flag")) (mCons (mC (.str "map")) (mCons (mC (.str "list")) (mCons (mC (.str "tree")) mNil))))))))))))
 (sRet (mC (.bool false)))
 sNx)
def lw2 : StM := (sPar 2 3 (mCons (mOp gIdx (mLst (mCons (mOp (gI fun i j => some (.int (i - j))) (mFnL m__law_take (mCons (mVar 1) (mCons (mC (.int 99)) mNil))) (mC (.int 50))) (mCons (mOp gMulS (mC (.str "a")) (mFnL m__law_take (mCons (mVar 1) (mCons (mC (.int 41)) mNil)))) mNil))) (mFnL m__law_take (mCons (mVar 1) (mCons (mC (.int 2)) mNil)))) (mCons (mOp gIdx (mLst (mCons (mC (.str "k")) (mCons (mC (.int 5)) mNil))) (mFnL m__law_take (mCons (mVar 1) (mCons (mC (.int 2)) mNil)))) mNil)))
def lw3 : StM := (sAsg (mTup (mCons (mFnL m__law_take (mCons (mVar 1) (mCons (mC (.int 8)) mNil))) (mCons (mOp gAdd (mC (.int 1)) (mFnL m__law_take (mCons (mVar 1) (mCons (mC (.int 9)) mNil)))) mNil))) (gN 4))
def lw4 : StM := (sAsg (mLst (mCons (mTup (mCons (mC (.str "more")) (mCons (mOp (gI fun i j => some (.int (i - j))) (mFnL m__law_take (mCons (mVar 1) (mCons (mC (.int 9)) mNil))) (mC (.int 4))) mNil))) (mCons (mTup (mCons (mC (.str "set")) (mCons (mVar 2) mNil))) (mCons (mTup (mCons (mC (.str "add")) (mCons (mVar 2) mNil))) (mCons (mTup (mCons (mC (.str "drop")) (mCons (mVar 2) mNil))) (mCons (mTup (mCons (mC (.str "on")) mNil)) (mCons (mTup (mCons (mC (.str "off")) mNil)) (mCons (mTup (mCons (mC (.str "put")) (mCons (mVar 3) (mCons (mVar 2) mNil)))) (mCons (mTup (mCons (mC (.str "put")) (mCons (mC .none) (mCons (mVar 2) mNil)))) (mCons (mTup (mCons (mC (.str "put")) (mCons (mVar 4) (mCons (mVar 2) mNil)))) (mCons (mTup (mCons (mC (.str "cut")) (mCons (mVar 4) mNil))) (mCons (mTup (mCons (mC (.str "move")) (mCons (mC (.str "node")) (mCons (mC (.str "abcdefgh")) mNil)))) (mCons (mTup (mCons (mC (.str "undo")) (mCons (mVar 4) mNil))) (mCons (mTup (mCons (mC (.str "redo")) (mCons (mVar 4) mNil))) mNil)))))))))))))) (gN 5))
def lw5_0 : StM := (sIf (mTest (mOp gNe (mComp [16] (mSeq (mC (.tuple [(.str "counter"), (.str "last"), (.str "choices"), (.str "keeps"), (.str "drops"), (.str "flag"), (.str "map"), (.str "list"), (.str "tree")]))) (tgP (gN 16)) (mTruth (mFnF m_fits_kind (mCons (mVar 16) (mCons (mVar 6) mNil)))) (mVar 16)) (mComp [16] (mSeq (mC (.tuple [(.str "counter"), (.str "last"), (.str "choices"), (.str "keeps"), (.str "drops"), (.str "flag"), (.str "map"), (.str "list"), (.str "tree")]))) (tgP (gN 16)) (mTest (mOp (gIn false) (mVar 16) (mFnF m__law_kinds (mCons (mVar 6) mNil)))) (mVar 16))))
 (sRet (mC (.bool false)))
 sNx)
def lw5_B : StM := lw5_0
def lw5 : StM := (sFor (mSeq (mVar 5)) (tgP (gN 6)) lw5_B)
def lw6 : StM := (sAsg (mLst (mCons (mC .none) (mCons (mTup mNil) (mCons (mC (.str "set")) (mCons (mTup (mCons (mC (.str "set")) mNil)) (mCons (mTup (mCons (mC (.str "set")) (mCons (mC (.int 1)) (mCons (mC (.int 2)) mNil)))) (mCons (mTup (mCons (mC (.str "set")) (mCons (mC (.bool true)) mNil))) (mCons (mTup (mCons (mC (.str "set")) (mCons (mC (.str "A")) mNil))) (mCons (mTup (mCons (mC (.str "set")) (mCons (mOp gMulS (mC (.str "a")) (mC (.int 41))) mNil))) (mCons (mTup (mCons (mC (.str "more")) (mCons (mC (.str "a")) mNil))) (mCons (mTup (mCons (mC (.str "more")) (mCons (mC (.bool true)) mNil))) (mCons (mTup (mCons (mC (.str "put")) (mCons (mTup (mCons (mC (.int 8)) (mCons (mC (.int 1)) mNil))) (mCons (mC (.int 1)) mNil)))) (mCons (mTup (mCons (mC (.str "put")) (mCons (mTup (mCons (mC (.int 0)) (mCons (mC (.int 0)) mNil))) (mCons (mC (.int 1)) mNil)))) (mCons (mTup (mCons (mC (.str "put")) (mCons (mTup (mCons (mC (.int 0)) mNil)) (mCons (mC (.int 1)) mNil)))) (mCons (mTup (mCons (mC (.str "cut")) (mCons (mC (.int 5)) mNil))) (mCons (mTup (mCons (mC (.str "cut")) (mCons (mC .none) mNil))) (mCons (mTup (mCons (mC (.str "move")) (mCons (mC (.str "")) (mCons (mC (.str "a")) mNil)))) (mCons (mTup (mCons (mC (.str "move")) (mCons (mC (.str "a")) (mCons (mC (.str "abcdefghi")) mNil)))) (mCons (mTup (mCons (mC (.str "move")) (mCons (mC (.int 1)) (mCons (mC (.str "a")) mNil)))) (mCons (mTup (mCons (mC (.str "on")) (mCons (mC (.int 1)) mNil))) (mCons (mTup (mCons (mC (.str "undo")) (mCons (mC (.int 3)) mNil))) (mCons (mTup (mCons (mC (.str "undo")) mNil)) (mCons (mLst (mCons (mC (.str "set")) (mCons (mC (.int 1)) mNil))) (mCons (mTup (mCons (mC .none) (mCons (mC (.int 1)) mNil))) (mCons (mTup (mCons (mC (.str "walk")) (mCons (mC (.int 1)) mNil))) (mCons (mTup (mCons (mC (.str "add")) (mCons (mC .none) mNil))) (mCons (mTup (mCons (mC (.str "drop")) mNil)) mNil))))))))))))))))))))))))))) (gN 7))
def lw7 : StM := (sIf (mOrT (mTest (mOp gNe (mComp [6] (mSeq (mVar 7)) (tgP (gN 6)) (mTest (mOp gNe (mComp [16] (mSeq (mC (.tuple [(.str "counter"), (.str "last"), (.str "choices"), (.str "keeps"), (.str "drops"), (.str "flag"), (.str "map"), (.str "list"), (.str "tree")]))) (tgP (gN 16)) (mTruth (mFnF m_fits_kind (mCons (mVar 16) (mCons (mVar 6) mNil)))) (mVar 16)) (mLst mNil))) (mVar 6)) (mLst mNil))) (mNotT (mTruth (mIsi ["bool"] (mFn m_fits_kind (mCons (mC (.str "flag")) (mCons (mTup (mCons (mC (.str "on")) mNil)) mNil)))))))
 (sRet (mC (.bool false)))
 sNx)
def lw8 : StM := (sAsg (mCall gTuple (mCons (mComp [9] (mRng rng1 (mCons (mC (.int 4)) mNil)) (tgP (gN 9)) (mTest (mOp gEq (mFnL m__law_take (mCons (mVar 1) (mCons (mC (.int 2)) mNil))) (mC (.int 0)))) (mTup (mCons (mVar 9) (mCons (mOp gAdd (mC (.int 1)) (mFnL m__law_take (mCons (mVar 1) (mCons (mC (.int 4)) mNil)))) mNil)))) mNil)) (gN 8))
def lw9 : StM := (sAsg (mFnL m__law_take (mCons (mVar 1) (mCons (mC (.int 8)) mNil))) (gN 9))
def lw10 : StM := (sAsg (mDGetE (mCall gDict (mCons (mVar 8) mNil)) (dV 9) (dC (.int 0))) (gN 10))
def lw11 : StM := (sAsg (mTup (mCons (mTup (mCons (mVar 9) (mCons (mOp gAdd (mVar 10) (mC (.int 1))) mNil))) (mCons (mVar 8) (mCons (mC (.str "it")) (mCons (mOp gIdx (mVar 5) (mFnL m__law_take (mCons (mVar 1) (mCons (mC (.int 13)) mNil)))) mNil))))) (gN 11))
def lw12 : StM := (sIf (mOrT (mTruth (mFnF m__law_refused (mCons (mC (.int 0)) (mCons (mVar 11) mNil)))) (mTest (mOp gNe (mFnF m_rank (mCons (mVar 11) mNil)) (mTup (mCons (mCall gSum (mCons (mComp [17, 18] (mSeq (mVar 8)) (tgP (gT 2 (gsCons (gN 17) (gsCons (gN 18) gsNil)))) mYes (mVar 18)) mNil)) (mCons (mVar 9) mNil))))))
 (sRet (mC (.bool false)))
 sNx)
def lw13 : StM := (sAsg (mTup (mCons (mTup (mCons (mVar 9) (mCons (mOp gAdd (mVar 10) (mC (.int 2))) mNil))) (mCons (mCall gTuple (mCons (mSortE (mCall gDict (mCons (mOp gAdd (mCall gList (mCons (mVar 8) mNil)) (mLst (mCons (mTup (mCons (mVar 9) (mCons (mOp gAdd (mVar 10) (mC (.int 1))) mNil))) mNil))) mNil))) mNil)) (mCons (mC (.str "it")) (mCons (mTup (mCons (mC (.str "on")) mNil)) mNil))))) (gN 12))
def lw14 : StM := (sIf (mOrT (mTruth (mFnF m__law_refused (mCons (mC (.int 0)) (mCons (mVar 12) mNil)))) (mNotT (mTest (mOp gLtD (mFnF m_rank (mCons (mVar 11) mNil)) (mFnF m_rank (mCons (mVar 12) mNil))))))
 (sRet (mC (.bool false)))
 sNx)
def lw15 : StM := (sAsg (mLst (mCons (mC .none) (mCons (mTup mNil) (mCons (mSlice (mVar 11) mNoPart (mPart (mC (.int 3)))) (mCons (mOp gAdd (mVar 11) (mTup (mCons (mC (.int 0)) mNil))) (mCons (mTup (mCons (mTup (mCons (mVar 9) (mCons (mOp gAdd (mVar 10) (mC (.int 2))) mNil))) (mCons (mVar 8) (mCons (mC (.str "it")) (mCons (mTup (mCons (mC (.str "on")) mNil)) mNil))))) (mCons (mTup (mCons (mTup (mCons (mVar 9) (mCons (mC (.int 0)) mNil))) (mCons (mVar 8) (mCons (mC (.str "it")) (mCons (mTup (mCons (mC (.str "on")) mNil)) mNil))))) (mCons (mTup (mCons (mOp gIdx (mVar 11) (mC (.int 0))) (mCons (mC .none) (mCons (mC (.str "it")) (mCons (mTup (mCons (mC (.str "on")) mNil)) mNil))))) (mCons (mTup (mCons (mOp gIdx (mVar 11) (mC (.int 0))) (mCons (mVar 8) (mCons (mC (.str "")) (mCons (mTup (mCons (mC (.str "on")) mNil)) mNil))))) (mCons (mTup (mCons (mOp gIdx (mVar 11) (mC (.int 0))) (mCons (mVar 8) (mCons (mC (.str "It")) (mCons (mTup (mCons (mC (.str "on")) mNil)) mNil))))) (mCons (mTup (mCons (mOp gIdx (mVar 11) (mC (.int 0))) (mCons (mVar 8) (mCons (mC (.str "it")) (mCons (mTup (mCons (mC (.str "walk")) mNil)) mNil))))) (mCons (mTup (mCons (mOp gIdx (mVar 11) (mC (.int 0))) (mCons (mTup (mCons (mTup (mCons (mC (.int 1)) (mCons (mC (.int 0)) mNil))) mNil)) (mCons (mC (.str "it")) (mCons (mTup (mCons (mC (.str "on")) mNil)) mNil))))) (mCons (mTup (mCons (mTup (mCons (mC (.int 0)) (mCons (mC (.int 1)) mNil))) (mCons (mTup (mCons (mTup (mCons (mC (.int 2)) (mCons (mC (.int 1)) mNil))) (mCons (mTup (mCons (mC (.int 1)) (mCons (mC (.int 1)) mNil))) mNil))) (mCons (mC (.str "it")) (mCons (mTup (mCons (mC (.str "on")) mNil)) mNil))))) (mCons (mTup (mCons (mTup (mCons (mC (.int 8)) (mCons (mC (.int 1)) mNil))) (mCons (mTup mNil) (mCons (mC (.str "it")) (mCons (mTup (mCons (mC (.str "on")) mNil)) mNil))))) mNil)))))))))))))) (gN 13))
def lw16 : StM := (sIf (mTest (mOp gNe (mComp [2] (mSeq (mVar 13)) (tgP (gN 2)) (mNotT (mTruth (mFnF m__law_refused (mCons (mC (.int 0)) (mCons (mVar 2) mNil))))) (mVar 2)) (mLst mNil)))
 (sRet (mC (.bool false)))
 sNx)
def lw17 : StM := (sAsg (mTup (mCons (mTup (mCons (mC (.str "a")) (mCons (mC (.str "counter")) mNil))) (mCons (mTup (mCons (mC (.str "b")) (mCons (mOp gIdx (mC (.tuple [(.str "counter"), (.str "last"), (.str "choices"), (.str "keeps"), (.str "drops"), (.str "flag"), (.str "map"), (.str "list"), (.str "tree")])) (mFnL m__law_take (mCons (mVar 1) (mCons (mC (.int 9)) mNil)))) mNil))) mNil))) (gN 14))
def lw18 : StM := (sAsg (mLst (mCons (mC .none) (mCons (mTup mNil) (mCons (mTup (mCons (mTup (mCons (mC (.str "b")) (mCons (mC (.str "flag")) mNil))) (mCons (mTup (mCons (mC (.str "a")) (mCons (mC (.str "flag")) mNil))) mNil))) (mCons (mTup (mCons (mTup (mCons (mC (.str "a")) (mCons (mC (.str "flag")) mNil))) (mCons (mTup (mCons (mC (.str "a")) (mCons (mC (.str "list")) mNil))) mNil))) (mCons (mTup (mCons (mTup (mCons (mC (.str "a")) mNil)) mNil)) (mCons (mTup (mCons (mTup (mCons (mC (.str "a")) (mCons (mC (.str "luck")) mNil))) mNil)) (mCons (mTup (mCons (mTup (mCons (mC (.str "")) (mCons (mC (.str "flag")) mNil))) mNil)) (mCons (mTup (mCons (mTup (mCons (mC (.str "a")) (mCons (mC .none) mNil))) mNil)) (mCons (mLst (mCons (mTup (mCons (mC (.str "a")) (mCons (mC (.str "flag")) mNil))) mNil)) (mCons (mTup (mCons (mTup (mCons (mC (.str "abcdefghi")) (mCons (mC (.str "flag")) mNil))) mNil)) (mCons (mTup (mCons (mTup (mCons (mC (.str "a")) (mCons (mC (.str "flag")) (mCons (mC (.int 1)) mNil)))) mNil)) mNil)))))))))))) (gN 15))
def lw19 : StM := (sRet (mAnd (mNot (mFnF m__law_refused (mCons (mC (.int 1)) (mCons (mVar 14) mNil)))) (mOp gEq (mComp [2] (mSeq (mVar 15)) (tgP (gN 2)) (mNotT (mTruth (mFnF m__law_refused (mCons (mC (.int 1)) (mCons (mVar 2) mNil))))) (mVar 2)) (mLst mNil))))
def lwB : StM := (sSeq lw0 (sSeq lw1 (sSeq lw2 (sSeq lw3 (sSeq lw4 (sSeq lw5 (sSeq lw6 (sSeq lw7 (sSeq lw8 (sSeq lw9 (sSeq lw10 (sSeq lw11 (sSeq lw12 (sSeq lw13 (sSeq lw14 (sSeq lw15 (sSeq lw16 (sSeq lw17 (sSeq lw18 lw19)))))))))))))))))))
theorem mb_law_eq : mb_law = lwB := rfl
/-- what is drawn as a value -/
structure ValOK (v : PyData) : Prop where
  val : isVal v = true
  tame : Tame 2 100 v
theorem val_int (i : Int) (h1 : -100 ≤ i) (h2 : i ≤ 100) : ValOK (.int i) := ⟨rfl, (Tame.int (by omega) (by omega)).mono (by decide) (by decide)⟩
theorem val_str (n : Nat) (h : n < 41) : ValOK (.str (repS "a" n)) := by
  have : ∀ n < 41, isVal (.str (repS "a" (n : Nat))) = true ∧ tm (.str (repS "a" (n : Nat))) = true ∧ sw (.str (repS "a" (n : Nat))) ≤ 100 := by decide +kernel
  obtain ⟨a, b, c⟩ := this n h
  exact ⟨a, b, c, by simp [PyData.depth]⟩
def rights (v k : PyData) (p : Pr) (m : Int) : List PyData := [.tuple [.str "more", .int m], .tuple [.str "set", v], .tuple [.str "add", v], .tuple [.str "drop", v], .tuple [.str "on"], .tuple [.str "off"], .tuple [.str "put", k, v], .tuple [.str "put", .none, v], .tuple [.str "put", prI p, v], .tuple [.str "cut", prI p], .tuple [.str "move", .str "node", .str "abcdefgh"], .tuple [.str "undo", prI p], .tuple [.str "redo", prI p]]
def Ts : List (List Str) := [["counter"], ["last", "choices"], ["keeps", "drops"], ["keeps", "drops", "map"], ["flag"], ["map"], ["list"], ["tree"], kindsS]
theorem ts_facts : ∀ T ∈ Ts, (∀ k ∈ kindsS, ((T.map PyData.str).any fun z => PyData.eqv z (.str k)) = decide (k ∈ T)) ∧ SeqAt.shaped (.list (T.map .str)) = true ∧ (kindsS.any fun k => decide (k ∈ T)) = true := by decide +kernel
theorem k_shaped : ∀ k ∈ kindsS, SeqAt.shaped (.str k) = true := by decide +kernel
theorem gIn_T {T : List Str} (hT : T ∈ Ts) {k : Str} (hk : k ∈ kindsS) : gIn false (.str k) (.list (T.map .str)) = some (.p (.bool (decide (k ∈ T)))) := by
  obtain ⟨h1, h2, _⟩ := ts_facts T hT
  show (if SeqAt.shaped (.str k) && SeqAt.shaped (.list (T.map .str)) then some (Slot.p (.bool ((T.map PyData.str).any fun z => PyData.eqv z (.str k)))) else none) = _
  rw [k_shaped k hk, h2, h1 k hk]; rfl
/-- what fits the kinds of T alone -/
structure WOK (w : PyData) (T : List Str) : Prop where
  mem : T ∈ Ts
  fits : ∀ k ∈ kindsS, fitsK k w = decide (k ∈ T)
  kinds : ∃ s t, m__law_kinds [.p w] = some (.ok s, t) ∧ (s = .p (.list (T.map .str)) ∨ s = .l ((T.map .str).map .p))
  tame : Tame 3 1000 w
theorem nine {P : Str → Prop} (h : P "counter" ∧ P "last" ∧ P "choices" ∧ P "keeps" ∧ P "drops" ∧ P "flag" ∧ P "map" ∧ P "list" ∧ P "tree") : ∀ k ∈ kindsS, P k := by
  intro k hk
  simp only [kindsS, List.mem_cons, List.not_mem_nil, or_false] at hk
  obtain ⟨a, b, c, d, e, f, g, i, j⟩ := h
  rcases hk with rfl | rfl | rfl | rfl | rfl | rfl | rfl | rfl | rfl <;> assumption
theorem wok_of {w : PyData} {T : List Str} {X : Bool} (hX : X = true) (hT : T ∈ Ts) (h : ∀ k ∈ kindsS, fitsK k w = (decide (k ∈ T) && X)) (hk : m__law_kinds [.p w] = some (.ok (.p (.list (T.map .str))), [.p w]) ∨ m__law_kinds [.p w] = some (.ok (.l ((T.map .str).map .p)), [.p w])) (tw : Tame 3 1000 w) : WOK w T :=
  ⟨hT, fun k hk => by rw [h k hk, hX, Bool.and_true], hk.elim (fun e => ⟨_, _, e, .inl rfl⟩) (fun e => ⟨_, _, e, .inr rfl⟩), tw⟩
theorem tame_dot {p : Pr} (h0 : 0 ≤ p.1) (h1 : p.1 ≤ 7) (h2 : 1 ≤ p.2) (h3 : p.2 ≤ 9) : Tame 2 200 (prI p) := (Drw.tame_prI h0 (by omega) (by omega) (by omega)).mono (by decide) (by decide)
theorem wok_right {v k : PyData} {p : Pr} {m : Int} (hv : ValOK v) (hk : k = .str "k" ∨ k = .int 5) (h0 : 0 ≤ p.1) (h1 : p.1 ≤ 7) (h2 : 1 ≤ p.2) (h3 : p.2 ≤ 9) (m0 : -4 ≤ m) (m1 : m ≤ 4) : ∀ w ∈ rights v k p m, ∃ T, WOK w T := by
  have td := tame_dot h0 h1 h2 h3
  have tv : Tame 2 200 v := hv.tame.mono (by decide) (by decide)
  have tn : Tame 2 200 .none := Tame.none.mono (by decide) (by decide)
  have tk : Tame 2 200 k := by
    rcases hk with rfl | rfl
    · exact ⟨by decide +kernel, by decide +kernel, by simp [PyData.depth]⟩
    · exact (Tame.int (by decide) (by decide)).mono (by decide) (by decide)
  have hd : isDot (prI p) = true := by rw [Com.isDot_prI]; simp; omega
  have tw := fun (w : Str) (hw : w ∈ (["undo", "redo", "more", "set", "add", "drop", "on", "off", "put", "move", "cut"] : List Str)) (rest : List PyData) (hr : ∀ d ∈ rest, Tame 2 200 d) (hl : rest.length ≤ 3) => Drw.tame_w hw hr hl
  have one : ∀ {x : PyData}, Tame 2 200 x → ∀ d ∈ [x], Tame 2 200 d := fun h d hd => by rw [List.mem_singleton.mp hd]; exact h
  have two : ∀ {x y : PyData}, Tame 2 200 x → Tame 2 200 y → ∀ d ∈ [x, y], Tame 2 200 d := fun h h' d hd => by
    rcases List.mem_cons.mp hd with rfl | hd
    · exact h
    · rw [List.mem_singleton.mp hd]; exact h'
  have none0 : ∀ d ∈ ([] : List PyData), Tame 2 200 d := fun _ q => nomatch q
  intro w hw
  simp only [rights, List.mem_cons, List.not_mem_nil, or_false] at hw
  rcases hw with rfl | rfl | rfl | rfl | rfl | rfl | rfl | rfl | rfl | rfl | rfl | rfl | rfl
  · exact ⟨["counter"], wok_of (X := true) rfl (by decide +kernel) (nine ⟨by kernel_rfl, by kernel_rfl, by kernel_rfl, by kernel_rfl, by kernel_rfl, by kernel_rfl, by kernel_rfl, by kernel_rfl, by kernel_rfl⟩) (.inl (by kernel_rfl)) (tw _ (by decide +kernel) _ (one ((Tame.int (by omega) (by omega)).mono (by decide) (by decide))) (by show 1 ≤ 3; decide))⟩
  · exact ⟨["last", "choices"], wok_of (X := isVal v) hv.val (by decide +kernel) (nine ⟨by kernel_rfl, by kernel_rfl, by kernel_rfl, by kernel_rfl, by kernel_rfl, by kernel_rfl, by kernel_rfl, by kernel_rfl, by kernel_rfl⟩) (.inl (by kernel_rfl)) (tw _ (by decide +kernel) _ (one tv) (by show 1 ≤ 3; decide))⟩
  · exact ⟨["keeps", "drops"], wok_of (X := isVal v) hv.val (by decide +kernel) (nine ⟨by kernel_rfl, by kernel_rfl, by kernel_rfl, by kernel_rfl, by kernel_rfl, by kernel_rfl, by kernel_rfl, by kernel_rfl, by kernel_rfl⟩) (.inl (by kernel_rfl)) (tw _ (by decide +kernel) _ (one tv) (by show 1 ≤ 3; decide))⟩
  · exact ⟨["keeps", "drops", "map"], wok_of (X := isVal v) hv.val (by decide +kernel) (nine ⟨by kernel_rfl, by kernel_rfl, by kernel_rfl, by kernel_rfl, by kernel_rfl, by kernel_rfl, by kernel_rfl, by kernel_rfl, by kernel_rfl⟩) (.inr (by kernel_rfl)) (tw _ (by decide +kernel) _ (one tv) (by show 1 ≤ 3; decide))⟩
  · exact ⟨["flag"], wok_of (X := true) rfl (by decide +kernel) (nine ⟨by kernel_rfl, by kernel_rfl, by kernel_rfl, by kernel_rfl, by kernel_rfl, by kernel_rfl, by kernel_rfl, by kernel_rfl, by kernel_rfl⟩) (.inl (by kernel_rfl)) (tw _ (by decide +kernel) _ none0 (by decide))⟩
  · exact ⟨["flag"], wok_of (X := true) rfl (by decide +kernel) (nine ⟨by kernel_rfl, by kernel_rfl, by kernel_rfl, by kernel_rfl, by kernel_rfl, by kernel_rfl, by kernel_rfl, by kernel_rfl, by kernel_rfl⟩) (.inl (by kernel_rfl)) (tw _ (by decide +kernel) _ none0 (by decide))⟩
  · have hl : ∀ b : Bool, (b && false) = false := fun b => by cases b <;> rfl
    rcases hk with rfl | rfl
    · exact ⟨["map"], wok_of (X := isVal v) hv.val (by decide +kernel) (nine ⟨by kernel_rfl, by kernel_rfl, by kernel_rfl, by kernel_rfl, by kernel_rfl, by kernel_rfl, by kernel_rfl, (show fitsK "list" (.tuple [.str "put", .str "k", v]) = (isVal v && false) by kernel_rfl).trans (hl _), by kernel_rfl⟩) (.inr (by kernel_rfl)) (tw _ (by decide +kernel) _ (two tk tv) (by show 2 ≤ 3; decide))⟩
    · exact ⟨["map"], wok_of (X := isVal v) hv.val (by decide +kernel) (nine ⟨by kernel_rfl, by kernel_rfl, by kernel_rfl, by kernel_rfl, by kernel_rfl, by kernel_rfl, by kernel_rfl, (show fitsK "list" (.tuple [.str "put", .int 5, v]) = (isVal v && false) by kernel_rfl).trans (hl _), by kernel_rfl⟩) (.inr (by kernel_rfl)) (tw _ (by decide +kernel) _ (two tk tv) (by show 2 ≤ 3; decide))⟩
  · exact ⟨["list"], wok_of (X := isVal v && true) (by rw [hv.val]; rfl) (by decide +kernel) (nine ⟨by kernel_rfl, by kernel_rfl, by kernel_rfl, by kernel_rfl, by kernel_rfl, by kernel_rfl, by kernel_rfl, by kernel_rfl, by kernel_rfl⟩) (.inr (by kernel_rfl)) (tw _ (by decide +kernel) _ (two tn tv) (by show 2 ≤ 3; decide))⟩
  · exact ⟨["list"], wok_of (X := isVal v && (false || isDot (prI p))) (by rw [hv.val, hd]; rfl) (by decide +kernel) (nine ⟨by kernel_rfl, by kernel_rfl, by kernel_rfl, by kernel_rfl, by kernel_rfl, by kernel_rfl, by kernel_rfl, by kernel_rfl, by kernel_rfl⟩) (.inr (by kernel_rfl)) (tw _ (by decide +kernel) _ (two td tv) (by show 2 ≤ 3; decide))⟩
  · exact ⟨["list"], wok_of (X := isDot (prI p)) hd (by decide +kernel) (nine ⟨by kernel_rfl, by kernel_rfl, by kernel_rfl, by kernel_rfl, by kernel_rfl, by kernel_rfl, by kernel_rfl, by kernel_rfl, by kernel_rfl⟩) (.inl (by kernel_rfl)) (tw _ (by decide +kernel) _ (one td) (by show 1 ≤ 3; decide))⟩
  · have ts : ∀ d ∈ [PyData.str "node", .str "abcdefgh"], Tame 2 200 d := fun d hd => by
      have : ∀ d ∈ [PyData.str "node", .str "abcdefgh"], tm d = true ∧ sw d ≤ 200 ∧ d.depth ≤ 2 := by decide +kernel
      exact this d hd
    exact ⟨["tree"], wok_of (X := true) rfl (by decide +kernel) (nine ⟨by kernel_rfl, by kernel_rfl, by kernel_rfl, by kernel_rfl, by kernel_rfl, by kernel_rfl, by kernel_rfl, by kernel_rfl, by kernel_rfl⟩) (.inl (by kernel_rfl)) (tw _ (by decide +kernel) _ ts (by decide))⟩
  · exact ⟨kindsS, wok_of (X := isDot (prI p)) hd (by decide +kernel) (nine ⟨by kernel_rfl, by kernel_rfl, by kernel_rfl, by kernel_rfl, by kernel_rfl, by kernel_rfl, by kernel_rfl, by kernel_rfl, by kernel_rfl⟩) (.inr (by kernel_rfl)) (tw _ (by decide +kernel) _ (one td) (by show 1 ≤ 3; decide))⟩
  · exact ⟨kindsS, wok_of (X := isDot (prI p)) hd (by decide +kernel) (nine ⟨by kernel_rfl, by kernel_rfl, by kernel_rfl, by kernel_rfl, by kernel_rfl, by kernel_rfl, by kernel_rfl, by kernel_rfl, by kernel_rfl⟩) (.inr (by kernel_rfl)) (tw _ (by decide +kernel) _ (one td) (by show 1 ≤ 3; decide))⟩
end K01
/-! L2_K01: the law, statement by statement: whats -/
namespace K01
open PySem PySem.Spec L2 MM
open Knd (Sm isAny isVal isLab fitsK eqS lenIs at0 at1 isLet)
open Com (isDot isVec DrawOK DrawB drD drS)
theorem law_draw_eq (ns : List Int) (hn : ns.length ≤ 1000000) : ∃ s, DrawOK s ∧ m__law_draw [.p (.list (ns.map .int))] = some (.ok s, [.p (.list (ns.map .int))]) := Com.law_draw_eq ns hn
theorem law_take_eq (s : Slot) (many : Int) (h : DrawOK s) (h1 : 0 < many) (h2 : many < 1073741824) : ∃ r s', DrawOK s' ∧ 0 ≤ r ∧ r < many ∧ m__law_take [s, .p (.int many)] = some (.ok (.p (.int r)), [s', .p (.int many)]) := Com.law_take_eq s many h h1 h2
theorem takeL1 (s : Slot) (many : Int) (h : DrawOK s) (h1 : 0 < many) (h2 : many < 1073741824) : ∃ r s', DrawOK s' ∧ 0 ≤ r ∧ r < many ∧ ∀ me s0 t, me (s0 :: s :: t) = some (.ok (.val (.p (.int many))), s0 :: s :: t) → mFnL m__law_take (mCons (mVar 1) (mCons me mNil)) (s0 :: s :: t) = some (.ok (.val (.p (.int r))), s0 :: s' :: t) := by
  obtain ⟨r, s', h3, r0, r1, e⟩ := law_take_eq s many h h1 h2
  refine ⟨r, s', h3, r0, r1, fun me s0 t hm => ?_⟩
  obtain ⟨cells, i, cur, seed, b, rfl⟩ := h
  have hv : mVar 1 (s0 :: drS cells i cur seed :: t) = some (.ok (.ref 1), s0 :: drS cells i cur seed :: t) := rfl
  have hm2 : mCons (mVar 1) (mCons me mNil) (s0 :: drS cells i cur seed :: t) = some (.ok [.ref 1, .val (.p (.int many))], s0 :: drS cells i cur seed :: t) := by
    show bnd (mVar 1) _ _ = _
    rw [bnd_ok hv]
    show bnd (bnd me _) _ _ = _
    rw [bnd_assoc, bnd_ok hm]
    rfl
  rw [mFnL_run, bnd_ok hm2]
  simp [e]
/-- a draw of a constant number -/
theorem takeC (s : Slot) (many : Int) (h : DrawOK s) (h1 : 0 < many) (h2 : many < 1073741824) : ∃ r s', DrawOK s' ∧ 0 ≤ r ∧ r < many ∧ ∀ s0 t, mFnL m__law_take (mCons (mVar 1) (mCons (mC (.int many)) mNil)) (s0 :: s :: t) = some (.ok (.val (.p (.int r))), s0 :: s' :: t) := by
  obtain ⟨r, s', h3, r0, r1, e⟩ := takeL1 s many h h1 h2
  exact ⟨r, s', h3, r0, r1, fun s0 t => e (mC (.int many)) s0 t rfl⟩
abbrev E19 (c s s2 s3 s4 s5 s6 s7 s8 s9 s10 s11 s12 s13 s14 s15 s16 s17 s18 : Slot) : MM.Env := [c, s, s2, s3, s4, s5, s6, s7, s8, s9, s10, s11, s12, s13, s14, s15, s16, s17, s18]
variable (c : Slot)
theorem l2 (s s2 s3 s4 s5 s6 s7 s8 s9 s10 s11 s12 s13 s14 s15 s16 s17 s18 : Slot) (h : DrawOK s) : ∃ v k s', DrawOK s' ∧ ValOK v ∧ (k = .str "k" ∨ k = .int 5) ∧ lw2 (E19 c s s2 s3 s4 s5 s6 s7 s8 s9 s10 s11 s12 s13 s14 s15 s16 s17 s18) = some (.nx, E19 c s' (.p v) (.p k) s4 s5 s6 s7 s8 s9 s10 s11 s12 s13 s14 s15 s16 s17 s18) := by
  obtain ⟨r1, d1, h1, a1, b1, q1⟩ := takeC s 99 h (by decide) (by decide)
  obtain ⟨r2, d2, h2, a2, b2, q2⟩ := takeC d1 41 h1 (by decide) (by decide)
  obtain ⟨r3, d3, h3, a3, b3, q3⟩ := takeC d2 2 h2 (by decide) (by decide)
  obtain ⟨r4, d4, h4, a4, b4, q4⟩ := takeC d3 2 h3 (by decide) (by decide)
  obtain ⟨n, rfl⟩ := Int.eq_ofNat_of_zero_le a2
  have gm : gMulS (.str "a") (.int (n : Int)) = some (.p (.str (repS "a" n))) := by
    show (if (0 : Int) ≤ (n : Int) ∧ (n : Int) ≤ 1000 ∧ 0 < ("a" : Str).length ∧ ("a" : Str).length ≤ 1000 then _ else _) = _
    rw [if_pos ⟨by omega, by omega, by decide +kernel, by decide +kernel⟩]
  have hi3 : r3 = 0 ∨ r3 = 1 := by omega
  have hi4 : r4 = 0 ∨ r4 = 1 := by omega
  refine ⟨if r3 = 0 then .int (r1 - 50) else .str (repS "a" n), if r4 = 0 then .str "k" else .int 5, d4, h4, ?_, ?_, ?_⟩
  · rcases hi3 with rfl | rfl
    · exact val_int _ (by omega) (by omega)
    · exact val_str n (by omega)
  · rcases hi4 with rfl | rfl
    · exact .inl rfl
    · exact .inr rfl
  · have g1 : gIdx (.list [.int (r1 - 50), .str (repS "a" n)]) (.int r3) = some (.p (if r3 = 0 then .int (r1 - 50) else .str (repS "a" n))) := by rcases hi3 with rfl | rfl <;> rfl
    have g2 : gIdx (.list [.str "k", .int 5]) (.int r4) = some (.p (if r4 = 0 then .str "k" else .int 5)) := by rcases hi4 with rfl | rfl <;> rfl
    unfold lw2
    simp [-mFnL_run, q1, q2, q3, q4, gm, g1, g2]
theorem l3 (s s2 s3 s4 s5 s6 s7 s8 s9 s10 s11 s12 s13 s14 s15 s16 s17 s18 : Slot) (h : DrawOK s) : ∃ (p : Pr) (s' : Slot), DrawOK s' ∧ 0 ≤ p.1 ∧ p.1 ≤ 7 ∧ 1 ≤ p.2 ∧ p.2 ≤ 9 ∧ lw3 (E19 c s s2 s3 s4 s5 s6 s7 s8 s9 s10 s11 s12 s13 s14 s15 s16 s17 s18) = some (.nx, E19 c s' s2 s3 (.p (prI p)) s5 s6 s7 s8 s9 s10 s11 s12 s13 s14 s15 s16 s17 s18) := by
  obtain ⟨r1, d1, h1, a1, b1, q1⟩ := takeC s 8 h (by decide) (by decide)
  obtain ⟨r2, d2, h2, a2, b2, q2⟩ := takeC d1 9 h1 (by decide) (by decide)
  refine ⟨(r1, 1 + r2), d2, h2, by show 0 ≤ r1; omega, by show r1 ≤ 7; omega, by show 1 ≤ 1 + r2; omega, by show 1 + r2 ≤ 9; omega, ?_⟩
  unfold lw3
  simp [-mFnL_run, q1, q2, prI]
theorem l4 (s s5 s6 s7 s8 s9 s10 s11 s12 s13 s14 s15 s16 s17 s18 : Slot) (v k : PyData) (p : Pr) (h : DrawOK s) : ∃ (m : Int) (s' : Slot), DrawOK s' ∧ -4 ≤ m ∧ m ≤ 4 ∧ lw4 (E19 c s (.p v) (.p k) (.p (prI p)) s5 s6 s7 s8 s9 s10 s11 s12 s13 s14 s15 s16 s17 s18) = some (.nx, E19 c s' (.p v) (.p k) (.p (prI p)) (.l ((rights v k p m).map .p)) s6 s7 s8 s9 s10 s11 s12 s13 s14 s15 s16 s17 s18) := by
  obtain ⟨r1, d1, h1, a1, b1, q1⟩ := takeC s 9 h (by decide) (by decide)
  refine ⟨r1 - 4, d1, h1, by omega, by omega, ?_⟩
  unfold lw4
  simp [-mFnL_run, q1, rights]
/-- rows of kinds alike -/
theorem ne_kinds (T : List Str) (hT : ∀ k ∈ T, k ∈ kindsS) (hl : T.length ≤ 9) : gNe (.list (T.map .str)) (.list (T.map .str)) = some (.p (.bool false)) := by
  refine Tame.ne (k := 1) (n := 2000) (Tame.lst (k := 0) (n := 100) (fun d hd => ?_) (by rw [List.length_map]; omega)) (by decide)
  obtain ⟨k, hk, rfl⟩ := List.mem_map.mp hd
  have : ∀ k ∈ kindsS, tm (.str k) = true ∧ sw (.str k) ≤ 100 := by decide +kernel
  exact ⟨(this k (hT k hk)).1, (this k (hT k hk)).2, by simp [PyData.depth]⟩
def KC : PyData := .tuple [(.str "counter"), (.str "last"), (.str "choices"), (.str "keeps"), (.str "drops"), (.str "flag"), (.str "map"), (.str "list"), (.str "tree")]
theorem itD_KC : itD KC = some (kindsS.map .str) := rfl
/-- [kind for kind in KINDS if fits_kind(kind, what)] -/
theorem fits_row {w : PyData} (hw : Sm w) (s s2 s3 s4 s5 s7 s8 s9 s10 s11 s12 s13 s14 s15 s16 s17 s18 : Slot) : mComp [16] (mSeq (mC KC)) (tgP (gN 16)) (mTruth (mFnF m_fits_kind (mCons (mVar 16) (mCons (mVar 6) mNil)))) (mVar 16) (E19 c s s2 s3 s4 s5 (.p w) s7 s8 s9 s10 s11 s12 s13 s14 s15 s16 s17 s18) = some (.ok (.val (.l (((kindsS.filter fun k => fitsK k w).map .str).map .p))), E19 c s s2 s3 s4 s5 (.p w) s7 s8 s9 s10 s11 s12 s13 s14 s15 s16 s17 s18) := by
  have hc := compM_run (own := [16]) (tg := (tgP (gN 16))) (mt := (mTruth (mFnF m_fits_kind (mCons (mVar 16) (mCons (mVar 6) mNil))))) (me := (mVar 16)) PyData.str (fun k => fitsK k w) PyData.str (E19 c s s2 s3 s4 s5 (.p w) s7 s8 s9 s10 s11 s12 s13 s14 s15 .un s17 s18) kindsS [] (fun k hk =>
    ⟨E19 c s s2 s3 s4 s5 (.p w) s7 s8 s9 s10 s11 s12 s13 s14 s15 (.p (.str k)) s17 s18, E19 c s s2 s3 s4 s5 (.p w) s7 s8 s9 s10 s11 s12 s13 s14 s15 (.p (.str k)) s17 s18, rfl, by
      obtain ⟨t, h⟩ := fits_kind_eq k hk w hw
      simp [h], fun _ => rfl, fun _ => ⟨.val (.p (.str k)), _, rfl, rfl, rfl⟩⟩)
  rw [List.nil_append] at hc
  have hz : (kindsS.map PyData.str).length ≤ 1000000 := by decide
  have hK := itD_KC
  generalize kindsS.map PyData.str = KD at hc hz hK
  generalize KC = K0 at hK
  simp [-List.map_map, hK, hz, hc]
theorem sm_tame {k n : Nat} {d : PyData} (h : Tame k n d) (hn : n ≤ 60000) : Sm d := ⟨h.1, Nat.le_trans h.2.1 hn⟩
theorem testOp {g : PyData → PyData → Option Slot} {ma mb : ExM} {E : MM.Env} {x y : List PyData} {b : Bool} (h1 : ma E = some (Res.ok (Opd.val (.l (x.map .p))), E)) (h2 : mb E = some (Res.ok (Opd.val (.l (y.map .p))), E)) (hg : g (.list x) (.list y) = some (.p (.bool b))) : mTest (mOp g ma mb) E = some (Res.ok b, E) := by
  have h : mOp g ma mb E = some (Res.ok (Opd.val (.p (.bool b))), E) := by
    rw [mOp_run, bnd_ok h1, bnd_ok h2]
    simp [-List.map_map, hg]
  rw [mTest_run, bnd_ok h]
  rfl
theorem turn5 {w : PyData} {T : List Str} (hw : WOK w T) (s s2 s3 s4 s5 s7 s8 s9 s10 s11 s12 s13 s14 s15 s16 s17 s18 : Slot) : lw5_B (E19 c s s2 s3 s4 s5 (.p w) s7 s8 s9 s10 s11 s12 s13 s14 s15 s16 s17 s18) = some (.nx, E19 c s s2 s3 s4 s5 (.p w) s7 s8 s9 s10 s11 s12 s13 s14 s15 s16 s17 s18) := by
  have h1 := fits_row c (sm_tame hw.tame (by decide)) s s2 s3 s4 s5 s7 s8 s9 s10 s11 s12 s13 s14 s15 s16 s17 s18
  have hf : (kindsS.filter fun k => fitsK k w) = kindsS.filter fun k => decide (k ∈ T) := List.filter_congr fun k hk => hw.fits k hk
  rw [hf] at h1
  obtain ⟨ks, kt, hkk, hs⟩ := hw.kinds
  have h2 : mComp [16] (mSeq (mC KC)) (tgP (gN 16)) (mTest (mOp (gIn false) (mVar 16) (mFnF m__law_kinds (mCons (mVar 6) mNil)))) (mVar 16) (E19 c s s2 s3 s4 s5 (.p w) s7 s8 s9 s10 s11 s12 s13 s14 s15 s16 s17 s18) = some (.ok (.val (.l (((kindsS.filter fun k => decide (k ∈ T)).map .str).map .p))), E19 c s s2 s3 s4 s5 (.p w) s7 s8 s9 s10 s11 s12 s13 s14 s15 s16 s17 s18) := by
    have hc := compM_run (own := [16]) (tg := (tgP (gN 16))) (mt := (mTest (mOp (gIn false) (mVar 16) (mFnF m__law_kinds (mCons (mVar 6) mNil))))) (me := (mVar 16)) PyData.str (fun k => decide (k ∈ T)) PyData.str (E19 c s s2 s3 s4 s5 (.p w) s7 s8 s9 s10 s11 s12 s13 s14 s15 .un s17 s18) kindsS [] (fun k hk =>
      ⟨E19 c s s2 s3 s4 s5 (.p w) s7 s8 s9 s10 s11 s12 s13 s14 s15 (.p (.str k)) s17 s18, E19 c s s2 s3 s4 s5 (.p w) s7 s8 s9 s10 s11 s12 s13 s14 s15 (.p (.str k)) s17 s18, rfl, by
        have hg := gIn_T hw.mem hk
        rcases hs with rfl | rfl
        · simp [-List.map_map, hkk, hg]
        · simp [-List.map_map, hkk, hg], fun _ => rfl, fun _ => ⟨.val (.p (.str k)), _, rfl, rfl, rfl⟩⟩)
    rw [List.nil_append] at hc
    have hz : (kindsS.map PyData.str).length ≤ 1000000 := by decide
    have hK := itD_KC
    generalize kindsS.map PyData.str = KD at hc hz hK
    generalize KC = K0 at hK
    simp [-List.map_map, hK, hz, hc]
  have hne := ne_kinds (kindsS.filter fun k => decide (k ∈ T)) (fun k hk => (List.mem_filter.mp hk).1) (Nat.le_trans (List.length_filter_le _ _) (by decide))
  show lw5_0 _ = _
  unfold lw5_0
  refine if_no ?_
  have h1 : mComp [16] (mSeq (mC (.tuple [(.str "counter"), (.str "last"), (.str "choices"), (.str "keeps"), (.str "drops"), (.str "flag"), (.str "map"), (.str "list"), (.str "tree")]))) (tgP (gN 16)) (mTruth (mFnF m_fits_kind (mCons (mVar 16) (mCons (mVar 6) mNil)))) (mVar 16) _ = _ := h1
  have h2 : mComp [16] (mSeq (mC (.tuple [(.str "counter"), (.str "last"), (.str "choices"), (.str "keeps"), (.str "drops"), (.str "flag"), (.str "map"), (.str "list"), (.str "tree")]))) (tgP (gN 16)) (mTest (mOp (gIn false) (mVar 16) (mFnF m__law_kinds (mCons (mVar 6) mNil)))) (mVar 16) _ = _ := h2
  generalize (kindsS.filter fun k => decide (k ∈ T)) = F at h1 h2 hne
  exact testOp h1 h2 hne
theorem l5 (s s2 s3 s4 s6 s7 s8 s9 s10 s11 s12 s13 s14 s15 s16 s17 s18 : Slot) (R : List PyData) (hR : ∀ w ∈ R, ∃ T, WOK w T) : ∃ s6', lw5 (E19 c s s2 s3 s4 (.l (R.map .p)) s6 s7 s8 s9 s10 s11 s12 s13 s14 s15 s16 s17 s18) = some (.nx, E19 c s s2 s3 s4 (.p (.list R)) s6' s7 s8 s9 s10 s11 s12 s13 s14 s15 s16 s17 s18) := by
  obtain ⟨E', h1, s6', h2⟩ := forM_inv (tg := tgP (gN 6)) (mb := lw5_B) (fun x : PyData => x)
    (fun done E => ∃ s6', E = E19 c s s2 s3 s4 (.p (.list R)) s6' s7 s8 s9 s10 s11 s12 s13 s14 s15 s16 s17 s18) R (fun done w rest E e h => by
      obtain ⟨s6', rfl⟩ := h
      obtain ⟨T, hw⟩ := hR w (by rw [e]; exact List.mem_append_right _ List.mem_cons_self)
      exact ⟨E19 c s s2 s3 s4 (.p (.list R)) (.p w) s7 s8 s9 s10 s11 s12 s13 s14 s15 s16 s17 s18, _, .nx, rfl, turn5 c hw s s2 s3 s4 (.p (.list R)) s7 s8 s9 s10 s11 s12 s13 s14 s15 s16 s17 s18, .inl rfl, _, rfl⟩)
    (E19 c s s2 s3 s4 (.p (.list R)) s6 s7 s8 s9 s10 s11 s12 s13 s14 s15 s16 s17 s18) ⟨_, rfl⟩
  subst h2
  rw [List.map_id'] at h1
  refine ⟨s6', ?_⟩
  unfold lw5
  have hi : itD (.list R) = some R := rfl
  simp [hi, h1]
def wrongs : List PyData := [.none, .tuple [], .str "set", .tuple [.str "set"], .tuple [.str "set", .int 1, .int 2], .tuple [.str "set", .bool true], .tuple [.str "set", .str "A"], .tuple [.str "set", .str (repS "a" 41)], .tuple [.str "more", .str "a"], .tuple [.str "more", .bool true], .tuple [.str "put", .tuple [.int 8, .int 1], .int 1], .tuple [.str "put", .tuple [.int 0, .int 0], .int 1], .tuple [.str "put", .tuple [.int 0], .int 1], .tuple [.str "cut", .int 5], .tuple [.str "cut", .none], .tuple [.str "move", .str "", .str "a"], .tuple [.str "move", .str "a", .str "abcdefghi"], .tuple [.str "move", .int 1, .str "a"], .tuple [.str "on", .int 1], .tuple [.str "undo", .int 3], .tuple [.str "undo"], .list [.str "set", .int 1], .tuple [.none, .int 1], .tuple [.str "walk", .int 1], .tuple [.str "add", .none], .tuple [.str "drop"]]
theorem wrong_facts : ∀ w ∈ wrongs, tm w = true ∧ sw w ≤ 60000 ∧ ∀ k ∈ kindsS, fitsK k w = false := by decide +kernel
theorem l6 (s s2 s3 s4 s5 s6 s7 s8 s9 s10 s11 s12 s13 s14 s15 s16 s17 s18 : Slot) : lw6 (E19 c s s2 s3 s4 s5 s6 s7 s8 s9 s10 s11 s12 s13 s14 s15 s16 s17 s18) = some (.nx, E19 c s s2 s3 s4 s5 s6 (.l (wrongs.map .p)) s8 s9 s10 s11 s12 s13 s14 s15 s16 s17 s18) := by kernel_rfl
theorem l7 (s s2 s3 s4 s5 s6 s8 s9 s10 s11 s12 s13 s14 s15 s16 s17 s18 : Slot) : lw7 (E19 c s s2 s3 s4 s5 s6 (.l (wrongs.map .p)) s8 s9 s10 s11 s12 s13 s14 s15 s16 s17 s18) = some (.nx, E19 c s s2 s3 s4 s5 s6 (.p (.list wrongs)) s8 s9 s10 s11 s12 s13 s14 s15 s16 s17 s18) := by
  have gn : gNe (.list []) (.list []) = some (.p (.bool false)) := rfl
  have hc := compM_run (own := [6]) (tg := (tgP (gN 6))) (mt := (mTest (mOp gNe (mComp [16] (mSeq (mC KC)) (tgP (gN 16)) (mTruth (mFnF m_fits_kind (mCons (mVar 16) (mCons (mVar 6) mNil)))) (mVar 16)) (mLst mNil)))) (me := (mVar 6)) (fun x : PyData => x) (fun _ => false) (fun x => x) (E19 c s s2 s3 s4 s5 .un (.p (.list wrongs)) s8 s9 s10 s11 s12 s13 s14 s15 s16 s17 s18) wrongs [] (fun w hw =>
    ⟨E19 c s s2 s3 s4 s5 (.p w) (.p (.list wrongs)) s8 s9 s10 s11 s12 s13 s14 s15 s16 s17 s18, E19 c s s2 s3 s4 s5 (.p w) (.p (.list wrongs)) s8 s9 s10 s11 s12 s13 s14 s15 s16 s17 s18, rfl, by
      obtain ⟨a, b, d⟩ := wrong_facts w hw
      have h1 := fits_row c ⟨a, b⟩ s s2 s3 s4 s5 (.p (.list wrongs)) s8 s9 s10 s11 s12 s13 s14 s15 s16 s17 s18
      have hf : (kindsS.filter fun k => fitsK k w) = [] := by
        rw [List.filter_eq_nil_iff]
        intro k hk z
        rw [d k hk] at z; cases z
      rw [hf] at h1
      exact testOp (y := []) h1 rfl gn, fun _ => rfl, fun q => nomatch q⟩)
  rw [List.map_id', List.nil_append, List.filter_eq_nil_iff.mpr (fun _ _ => Bool.false_ne_true)] at hc
  have hz : wrongs.length ≤ 1000000 := by decide
  have hfl : Sm (.tuple [.str "on"]) := by
    have : tm (.tuple [.str "on"]) = true ∧ sw (.tuple [.str "on"]) ≤ 60000 := by decide +kernel
    exact this
  obtain ⟨t, hb⟩ := fits_kind_eq "flag" (by decide +kernel) (.tuple [.str "on"]) hfl
  have hi : itD (.list wrongs) = some wrongs := rfl
  unfold lw7
  have hc : compM [6] (tgP (gN 6)) (mTest (mOp gNe (mComp [16] (mSeq (mC (.tuple [(.str "counter"), (.str "last"), (.str "choices"), (.str "keeps"), (.str "drops"), (.str "flag"), (.str "map"), (.str "list"), (.str "tree")]))) (tgP (gN 16)) (mTruth (mFnF m_fits_kind (mCons (mVar 16) (mCons (mVar 6) mNil)))) (mVar 16)) (mLst mNil))) (mVar 6) wrongs [] (E19 c s s2 s3 s4 s5 .un (.p (.list wrongs)) s8 s9 s10 s11 s12 s13 s14 s15 s16 s17 s18) = some ([], E19 c s s2 s3 s4 s5 .un (.p (.list wrongs)) s8 s9 s10 s11 s12 s13 s14 s15 s16 s17 s18) := hc
  generalize wrongs = W at hc hz hi
  refine if_no (or_no (e := E19 c s s2 s3 s4 s5 s6 (.p (.list W)) s8 s9 s10 s11 s12 s13 s14 s15 s16 s17 s18) ?_ ?_)
  · simp [-List.map_map, hi, hz, hc, gn]
  · simp [hb, tyD]
end K01
/-! L3_K01: the law, statement by statement: deeds -/
namespace K01
open PySem PySem.Spec L2 MM
open Knd (Sm isAny isVal isLab fitsK eqS lenIs at0 at1 isLet)
open Com (isDot isVec DrawOK DrawB drD drS)
variable (c : Slot)
theorem comp8 (s2 s3 s4 s5 s6 s7 s8 s10 s11 s12 s13 s14 s15 s16 s17 s18 : Slot) : ∀ (xs : List Int) (v : List Pr) (s : Slot), DrawOK s → xs.Pairwise (· < ·) → (∀ p ∈ v, ∀ x ∈ xs, p.1 < x) → (ks v).Pairwise (· < ·) →
    ∃ s' v', DrawOK s' ∧ compM [9] (tgP (gN 9)) (mTest (mOp gEq (mFnL m__law_take (mCons (mVar 1) (mCons (mC (.int 2)) mNil))) (mC (.int 0)))) (mTup (mCons (mVar 9) (mCons (mOp gAdd (mC (.int 1)) (mFnL m__law_take (mCons (mVar 1) (mCons (mC (.int 4)) mNil)))) mNil))) (xs.map .int) (v.map prI) (E19 c s s2 s3 s4 s5 s6 s7 s8 .un s10 s11 s12 s13 s14 s15 s16 s17 s18) = some (v'.map prI, E19 c s' s2 s3 s4 s5 s6 s7 s8 .un s10 s11 s12 s13 s14 s15 s16 s17 s18) ∧ (ks v').Pairwise (· < ·) ∧ ∀ p ∈ v', p ∈ v ∨ (p.1 ∈ xs ∧ 1 ≤ p.2 ∧ p.2 ≤ 4)
  | [], v, s, h, _, _, hv => ⟨s, v, h, rfl, hv, fun p hp => .inl hp⟩
  | x :: xs, v, s, h, hx, hlt, hv => by
    obtain ⟨r1, d1, h1, a1, b1, q1⟩ := takeC s 2 h (by decide) (by decide)
    have hx2 := List.pairwise_cons.mp hx
    rw [List.map_cons]
    unfold compM
    have ht : tgP (gN 9) (.int x) (E19 c s s2 s3 s4 s5 s6 s7 s8 .un s10 s11 s12 s13 s14 s15 s16 s17 s18) = some (E19 c s s2 s3 s4 s5 s6 s7 s8 (.p (.int x)) s10 s11 s12 s13 s14 s15 s16 s17 s18) := rfl
    rw [ht, Option.bind_some]
    have hm : mTest (mOp gEq (mFnL m__law_take (mCons (mVar 1) (mCons (mC (.int 2)) mNil))) (mC (.int 0))) (E19 c s s2 s3 s4 s5 s6 s7 s8 (.p (.int x)) s10 s11 s12 s13 s14 s15 s16 s17 s18) = some (.ok (r1 == 0), E19 c d1 s2 s3 s4 s5 s6 s7 s8 (.p (.int x)) s10 s11 s12 s13 s14 s15 s16 s17 s18) := by
      simp [-mFnL_run, q1]
    rw [hm]
    by_cases hr : r1 = 0
    · have hr' : (r1 == 0) = true := beq_iff_eq.mpr hr
      rw [hr']
      obtain ⟨r2, d2, h2, a2, b2, q2⟩ := takeC d1 4 h1 (by decide) (by decide)
      have he : mTup (mCons (mVar 9) (mCons (mOp gAdd (mC (.int 1)) (mFnL m__law_take (mCons (mVar 1) (mCons (mC (.int 4)) mNil)))) mNil)) (E19 c d1 s2 s3 s4 s5 s6 s7 s8 (.p (.int x)) s10 s11 s12 s13 s14 s15 s16 s17 s18) = some (.ok (.val (.p (prI (x, 1 + r2)))), E19 c d2 s2 s3 s4 s5 s6 s7 s8 (.p (.int x)) s10 s11 s12 s13 s14 s15 s16 s17 s18) := by
        simp [-mFnL_run, q2, prI]
      obtain ⟨s', v', g1, g2, g3, g4⟩ := comp8 s2 s3 s4 s5 s6 s7 s8 s10 s11 s12 s13 s14 s15 s16 s17 s18 xs (v ++ [(x, 1 + r2)]) d2 h2 hx2.2 (fun p hp y hy => by
        rcases List.mem_append.mp hp with hp | hp
        · exact hlt p hp y (List.mem_cons_of_mem _ hy)
        · rw [List.mem_singleton.mp hp]; exact hx2.1 y hy) (by
        show ((v ++ [(x, 1 + r2)]).map (·.1)).Pairwise (· < ·)
        rw [List.map_append, List.pairwise_append]
        refine ⟨hv, List.pairwise_singleton _ _, fun a ha b hb => ?_⟩
        obtain ⟨p, hp, rfl⟩ := List.mem_map.mp ha
        rw [List.mem_singleton.mp hb]
        exact hlt p hp x List.mem_cons_self)
      refine ⟨s', v', g1, ?_, g3, fun p hp => ?_⟩
      · simp only [he, Opd.own]
        rw [List.map_append] at g2
        exact g2
      · rcases g4 p hp with g | ⟨g, g5⟩
        · rcases List.mem_append.mp g with g | g
          · exact .inl g
          · rw [List.mem_singleton.mp g]
            exact .inr ⟨List.mem_cons_self, by show 1 ≤ 1 + r2; omega, by show 1 + r2 ≤ 4; omega⟩
        · exact .inr ⟨List.mem_cons_of_mem _ g, g5⟩
    · have hr' : (r1 == 0) = false := beq_eq_false_iff_ne.mpr hr
      rw [hr']
      obtain ⟨s', v', g1, g2, g3, g4⟩ := comp8 s2 s3 s4 s5 s6 s7 s8 s10 s11 s12 s13 s14 s15 s16 s17 s18 xs v d1 h1 hx2.2 (fun p hp y hy => hlt p hp y (List.mem_cons_of_mem _ hy)) hv
      exact ⟨s', v', g1, g2, g3, fun p hp => (g4 p hp).imp id fun ⟨a, b⟩ => ⟨List.mem_cons_of_mem _ a, b⟩⟩
/-- drawn causes -/
structure CauOK (v : List Pr) : Prop where
  asc : (ks v).Pairwise (· < ·)
  rng : ∀ p ∈ v, 0 ≤ p.1 ∧ p.1 ≤ 3 ∧ 1 ≤ p.2 ∧ p.2 ≤ 4
theorem CauOK.len {v : List Pr} (h : CauOK v) : v.length ≤ 4 := by
  have := Drw.pigeon 4 (ks v) (lt_nodup h.asc) fun x hx => by
    obtain ⟨p, hp, rfl⟩ := List.mem_map.mp hx
    have := h.rng p hp; omega
  rw [List.length_map] at this; exact this
theorem l8 (s s2 s3 s4 s5 s6 s7 s8 s10 s11 s12 s13 s14 s15 s16 s17 s18 : Slot) (h : DrawOK s) : ∃ v s', DrawOK s' ∧ CauOK v ∧ lw8 (E19 c s s2 s3 s4 s5 s6 s7 s8 .un s10 s11 s12 s13 s14 s15 s16 s17 s18) = some (.nx, E19 c s' s2 s3 s4 s5 s6 s7 (.p (vD v)) .un s10 s11 s12 s13 s14 s15 s16 s17 s18) := by
  obtain ⟨s', v, h1, e, h2, h3⟩ := comp8 c s2 s3 s4 s5 s6 s7 s8 s10 s11 s12 s13 s14 s15 s16 s17 s18 [0, 1, 2, 3] [] s h (by decide) (fun _ q => nomatch q) List.Pairwise.nil
  refine ⟨v, s', h1, ⟨h2, fun p hp => ?_⟩, ?_⟩
  · rcases h3 p hp with z | ⟨z, z2⟩
    · cases z
    · simp only [List.mem_cons, List.not_mem_nil, or_false] at z
      omega
  · have hr : rng1 [.int 4] = some ([0, 1, 2, 3].map .int) := by rfl
    have e : compM [9] (tgP (gN 9)) (mTest (mOp gEq (mFnL m__law_take (mCons (mVar 1) (mCons (mC (.int 2)) mNil))) (mC (.int 0)))) (mTup (mCons (mVar 9) (mCons (mOp gAdd (mC (.int 1)) (mFnL m__law_take (mCons (mVar 1) (mCons (mC (.int 4)) mNil)))) mNil))) (([0, 1, 2, 3] : List Int).map .int) [] (E19 c s s2 s3 s4 s5 s6 s7 s8 .un s10 s11 s12 s13 s14 s15 s16 s17 s18) = _ := e
    have hz : (([0, 1, 2, 3] : List Int).map PyData.int).length ≤ 1000000 := by decide
    generalize (([0, 1, 2, 3] : List Int).map PyData.int) = X at hr e hz
    unfold lw8
    simp [-List.map_map, -mFnL_run, hr, hz, e]
    rfl
theorem l9 (s s2 s3 s4 s5 s6 s7 s8 s9 s10 s11 s12 s13 s14 s15 s16 s17 s18 : Slot) (h : DrawOK s) : ∃ (o : Int) (s' : Slot), DrawOK s' ∧ 0 ≤ o ∧ o ≤ 7 ∧ lw9 (E19 c s s2 s3 s4 s5 s6 s7 s8 s9 s10 s11 s12 s13 s14 s15 s16 s17 s18) = some (.nx, E19 c s' s2 s3 s4 s5 s6 s7 s8 (.p (.int o)) s10 s11 s12 s13 s14 s15 s16 s17 s18) := by
  obtain ⟨r1, d1, h1, a1, b1, q1⟩ := takeC s 8 h (by decide) (by decide)
  refine ⟨r1, d1, h1, a1, by omega, ?_⟩
  unfold lw9
  simp [-mFnL_run, q1]
theorem l10 (s s2 s3 s4 s5 s6 s7 s10 s11 s12 s13 s14 s15 s16 s17 s18 : Slot) (v : List Pr) (o : Int) (hv : CauOK v) : lw10 (E19 c s s2 s3 s4 s5 s6 s7 (.p (vD v)) (.p (.int o)) s10 s11 s12 s13 s14 s15 s16 s17 s18) = some (.nx, E19 c s s2 s3 s4 s5 s6 s7 (.p (vD v)) (.p (.int o)) (.p (.int (cnt v o))) s11 s12 s13 s14 s15 s16 s17 s18) := by
  have hn := lt_nodup hv.asc
  have hm := merge_id hn
  have hg := cnt_get o hn
  unfold lw10
  cases q : getI v o with
  | none =>
    rw [q] at hg
    simp [hm, q, ← hg]
  | some n =>
    rw [q] at hg
    simp [hm, q, ← hg]
abbrev dD (o n : Int) (v : List Pr) (l w : PyData) : PyData := .tuple [prI (o, n), vD v, l, w]
theorem l11 (s s2 s3 s4 s6 s7 s11 s12 s13 s14 s15 s16 s17 s18 : Slot) (v : List Pr) (o n : Int) (R : List PyData) (hR : R.length = 13) (h : DrawOK s) : ∃ w s', DrawOK s' ∧ w ∈ R ∧ lw11 (E19 c s s2 s3 s4 (.p (.list R)) s6 s7 (.p (vD v)) (.p (.int o)) (.p (.int n)) s11 s12 s13 s14 s15 s16 s17 s18) = some (.nx, E19 c s' s2 s3 s4 (.p (.list R)) s6 s7 (.p (vD v)) (.p (.int o)) (.p (.int n)) (.p (dD o (n + 1) v (.str "it") w)) s12 s13 s14 s15 s16 s17 s18) := by
  obtain ⟨r1, d1, h1, a1, b1, q1⟩ := takeC s 13 h (by decide) (by decide)
  obtain ⟨w, hw, e⟩ := Drw.gIdx_lst (l := R) a1 (by omega)
  refine ⟨w, d1, h1, hw, ?_⟩
  unfold lw11
  simp [-mFnL_run, q1, e, prI]
end K01
/-! L_K01: the law -/
namespace K01
open PySem PySem.Spec L2 MM
open Knd (Sm isAny isVal isLab fitsK eqS lenIs at0 at1 isLet)
open Com (isDot isVec DrawOK DrawB drD drS)
/-! plain things -/
theorem asc_of : ∀ {l : List Pr}, (ks l).Pairwise (· < ·) → Com.asc l = true
  | [], _ => rfl
  | [_], _ => rfl
  | p :: q :: l, h => by
    have h1 := List.pairwise_cons.mp (show (p.1 :: ks (q :: l)).Pairwise (· < ·) from h)
    have ih := asc_of h1.2
    have h2 := h1.1 q.1 (by show q.1 ∈ q.1 :: ks l; exact List.mem_cons_self)
    unfold Com.asc at ih ⊢
    show ((p, q) :: ((q :: l).zip ((q :: l).drop 1))).all _ = true
    rw [List.all_cons, ih, Bool.and_true]
    exact decide_eq_true h2
theorem isVec_of {v : List Pr} (h : (ks v).Pairwise (· < ·)) (hr : ∀ p ∈ v, 0 ≤ p.1 ∧ p.1 ≤ 7 ∧ 1 ≤ p.2) : isVec (vD v) = true := by
  rw [Com.isVec_prI, asc_of h, Bool.and_true, List.all_map, List.all_eq_true]
  intro p hp
  have := hr p hp
  show isDot (prI p) = true
  rw [Com.isDot_prI]
  simp; omega
theorem sum_map (c n : Int) : ∀ (l : List Pr), (ks l).Nodup → c ∈ ks l → ((l.map fun p => if p.1 = c then (p.1, n) else p).map (·.2)).sum = (l.map (·.2)).sum - cnt l c + n
  | [], _, h => nomatch h
  | p :: l, nd, h => by
    have nd2 := List.nodup_cons.mp (show (p.1 :: ks l).Nodup from nd)
    rw [cnt_cons]
    by_cases q : p.1 = c
    · have hno : c ∉ ks l := by rw [← q]; exact nd2.1
      have hid : (l.map fun p => if p.1 = c then (p.1, n) else p) = l := by
        refine (List.map_congr_left fun r hr => ?_).trans (List.map_id _)
        rw [if_neg fun z => hno (List.mem_map.mpr ⟨r, hr, z⟩)]; rfl
      rw [List.map_cons, if_pos q, hid, if_pos q, cnt_no hno, List.map_cons, List.map_cons, List.sum_cons, List.sum_cons]
      generalize (l.map (·.2)).sum = S
      show n + S = p.2 + S - (p.2 + 0) + n
      omega
    · have hc : c ∈ ks l := (List.mem_cons.mp h).resolve_left fun z => q z.symm
      have ih := sum_map c n l nd2.2 hc
      rw [List.map_cons, if_neg q, if_neg q, List.map_cons, List.map_cons, List.sum_cons, List.sum_cons, ih]
      generalize (l.map (·.2)).sum = S
      show p.2 + (S - cnt l c + n) = p.2 + S - (0 + cnt l c) + n
      omega
theorem sum_perm {a b : List Int} (h : a.Perm b) : a.sum = b.sum := by
  induction h with
  | nil => rfl
  | cons x _ ih => rw [List.sum_cons, List.sum_cons, ih]
  | swap x y l => rw [List.sum_cons, List.sum_cons, List.sum_cons, List.sum_cons]; omega
  | trans _ _ i1 i2 => exact i1.trans i2
theorem put_sum {l : List Pr} (nd : (ks l).Nodup) (c n : Int) : ((putI l c n).map (·.2)).sum = (l.map (·.2)).sum - cnt l c + n := by
  unfold putI
  split
  · rename_i h
    exact sum_map c n l nd ((any_iff l c).mp h)
  · rename_i h
    have : c ∉ ks l := fun z => h ((any_iff l c).mpr z)
    rw [cnt_no this, List.map_append, List.sum_append]
    simp
/-- the later one's causes -/
def later (v : List Pr) (o : Int) : List Pr := sortI (putI v o (cnt v o + 1))
theorem merge_snoc {v : List Pr} (nd : (ks v).Nodup) (o n : Int) : mergeI [] (v ++ [(o, n)]) = putI v o n := by
  unfold mergeI
  rw [List.foldl_append]
  have := merge_id nd
  unfold mergeI at this
  rw [this]; rfl
theorem cnt_rng {v : List Pr} (h : CauOK v) (o : Int) : 0 ≤ cnt v o ∧ cnt v o ≤ 4 := by
  by_cases z : o ∈ ks v
  · obtain ⟨p, hp, rfl⟩ := List.mem_map.mp z
    rw [cnt_at (lt_nodup h.asc) hp]
    have := h.rng p hp; omega
  · rw [cnt_no z]; omega
theorem later_facts {v : List Pr} (h : CauOK v) {o : Int} (h0 : 0 ≤ o) (h7 : o ≤ 7) : (ks (later v o)).Pairwise (· < ·) ∧ (∀ p ∈ later v o, 0 ≤ p.1 ∧ p.1 ≤ 7 ∧ 1 ≤ p.2 ∧ p.2 ≤ 5) ∧ cnt (later v o) o = cnt v o + 1 ∧ ((later v o).map (·.2)).sum = (v.map (·.2)).sum + 1 ∧ (later v o).length ≤ 5 := by
  have nd := lt_nodup h.asc
  have hc := cnt_rng h o
  refine ⟨sort_keys (put_nodup _ _ nd), fun p hp => ?_, ?_, ?_, ?_⟩
  · rcases put_mem (sortI_mem.mp hp) with hp | rfl
    · have := h.rng p hp; omega
    · exact ⟨h0, h7, by show 1 ≤ cnt v o + 1; omega, by show cnt v o + 1 ≤ 5; omega⟩
  · unfold later
    rw [cnt_perm (sortI_perm _), put_cnt _ _ _ nd, if_pos rfl]
  · unfold later
    have hp := sum_perm ((sortI_perm (putI v o (cnt v o + 1))).map (·.2))
    rw [hp, put_sum nd]
    omega
  · unfold later
    rw [(sortI_perm _).length_eq]
    have := Com.putI_len v o (cnt v o + 1)
    have := h.len
    omega
theorem tame_v {v : List Pr} (hl : v.length ≤ 10) (h : ∀ p ∈ v, 0 ≤ p.1 ∧ p.1 ≤ 7 ∧ 1 ≤ p.2 ∧ p.2 ≤ 5) : Tame 2 1000 (vD v) := by
  refine Tame.tup (k := 1) (n := 82) (fun d hd => ?_) (by rw [List.length_map]; omega)
  obtain ⟨p, hp, rfl⟩ := List.mem_map.mp hd
  have := h p hp
  exact Drw.tame_prI (by omega) (by omega) (by omega) (by omega)
theorem sm_deed {o n : Int} {c l w : PyData} (h0 : 0 ≤ o) (h1 : o ≤ 100) (h2 : 0 ≤ n) (h3 : n ≤ 100) (hc : Tame 2 1000 c) (hl : Tame 2 1000 l) (hw : Tame 3 1000 w) : Sm (.tuple [prI (o, n), c, l, w]) := by
  refine sm_tame (k := 4) (n := 10000) (Tame.tup (k := 3) (n := 1000) (fun d hd => ?_) (by show 4 * 1001 ≤ 10000; decide)) (by decide)
  rcases List.mem_cons.mp hd with rfl | hd
  · exact (Drw.tame_prI (p := (o, n)) h0 (by show o ≤ 1000; omega) h2 (by show n ≤ 1000; omega)).mono (by decide) (by decide)
  rcases List.mem_cons.mp hd with rfl | hd
  · exact hc.mono (by decide) (by decide)
  rcases List.mem_cons.mp hd with rfl | hd
  · exact hl.mono (by decide) (by decide)
  rcases List.mem_cons.mp hd with rfl | hd
  · exact hw
  cases hd
theorem tame_str {x : Str} (h : (tm (.str x) && decide (x.cps.size ≤ 1000)) = true) : Tame 2 1000 (.str x) := by
  rw [Bool.and_eq_true, decide_eq_true_eq] at h
  exact ⟨h.1, h.2, by simp [PyData.depth]⟩
theorem isDeed4 (a c l w : PyData) : isDeed (.tuple [a, c, l, w]) = (isDot a && (isVec c && (decide (cnt (vecOf c) (dotOf a).1 = (dotOf a).2 - 1) && (isLab l && kindsS.any fun k => fitsK k w)))) := rfl
theorem dot_ok {o n : Int} (h0 : 0 ≤ o) (h7 : o ≤ 7) (h1 : 1 ≤ n) : isDot (prI (o, n)) = true := by
  rw [Com.isDot_prI]; simp; omega
theorem lab_it : isLab (.str "it") = true := by decide +kernel
theorem any_T {w : PyData} {T : List Str} (h : WOK w T) : (kindsS.any fun k => fitsK k w) = true := by
  have h1 := (ts_facts T h.mem).2.2
  rw [List.any_eq_true] at h1 ⊢
  obtain ⟨k, hk, h2⟩ := h1
  exact ⟨k, hk, by rw [h.fits k hk]; exact h2⟩
def onD : PyData := .tuple [.str "on"]
theorem any_on : (kindsS.any fun k => fitsK k onD) = true := by decide +kernel
theorem tame_on : Tame 3 1000 onD := by
  have : tm onD = true ∧ sw onD ≤ 1000 ∧ onD.depth ≤ 3 := by decide +kernel
  exact this
variable (c : Slot)
theorem l12 (s s2 s3 s4 s5 s6 s7 s12 s13 s14 s15 s16 s17 s18 : Slot) {v : List Pr} {o : Int} {w : PyData} {T : List Str} (hv : CauOK v) (h0 : 0 ≤ o) (h7 : o ≤ 7) (hw : WOK w T) :
    lw12 (E19 c s s2 s3 s4 s5 s6 s7 (.p (vD v)) (.p (.int o)) (.p (.int (cnt v o))) (.p (dD o (cnt v o + 1) v (.str "it") w)) s12 s13 s14 s15 s16 .un .un) = some (.nx, E19 c s s2 s3 s4 s5 s6 s7 (.p (vD v)) (.p (.int o)) (.p (.int (cnt v o))) (.p (dD o (cnt v o + 1) v (.str "it") w)) s12 s13 s14 s15 s16 .un .un) := by
  have hc := cnt_rng hv o
  have hl := hv.len
  have hsm : Sm (dD o (cnt v o + 1) v (.str "it") w) := sm_deed h0 (by omega) (by omega) (by omega) (tame_v (by omega) fun p hp => by have := hv.rng p hp; omega) (tame_str (by decide +kernel)) hw.tame
  obtain ⟨t, e1⟩ := refused_deed _ hsm
  have hd : isDeed (dD o (cnt v o + 1) v (.str "it") w) = true := by
    have e : (cnt (vecOf (vD v)) (dotOf (prI (o, cnt v o + 1))).1 = (dotOf (prI (o, cnt v o + 1))).2 - 1) := by
      rw [vecOf_vD]
      show cnt v o = cnt v o + 1 - 1
      omega
    rw [isDeed4, dot_ok h0 h7 (by omega), isVec_of hv.asc (fun p hp => by have := hv.rng p hp; omega), decide_eq_true e, lab_it, any_T hw]
    rfl
  rw [hd] at e1
  have e2 : m_rank [.p (dD o (cnt v o + 1) v (.str "it") w)] = some (.ok (.p (.tuple [.int (v.map (·.2)).sum, .int o])), _) := rank_eq (o, cnt v o + 1) v [.str "it", w] (by omega)
  have e3 := compM_map (own := [17, 18]) (tg := (tgP (gT 2 (gsCons (gN 17) (gsCons (gN 18) gsNil))))) (me := (mVar 18)) prI (fun p => .int p.2) (E19 c s s2 s3 s4 s5 s6 s7 (.p (vD v)) (.p (.int o)) (.p (.int (cnt v o))) (.p (dD o (cnt v o + 1) v (.str "it") w)) s12 s13 s14 s15 s16 .un .un) v [] (fun p hp => ⟨_, _, _, rfl, rfl, rfl, rfl⟩)
  rw [List.nil_append] at e3
  have hz : v.length ≤ 1000000 := by omega
  have hs : gSum [.list (v.map fun p => .int p.2)] = some (.p (.int (v.map (·.2)).sum)) := gSum_run _ _
  have hn : gNe (prI ((v.map (·.2)).sum, o)) (prI ((v.map (·.2)).sum, o)) = some (.p (.bool false)) := by
    rw [gNe_of (b := true) (shaped_prI ((v.map (·.2)).sum, o)) (shaped_prI ((v.map (·.2)).sum, o)) ((eqv_prI ((v.map (·.2)).sum, o) ((v.map (·.2)).sum, o)).trans (decide_eq_true rfl))]
    rfl
  have hn : gNe (.tuple [.int (v.map (·.2)).sum, .int o]) (.tuple [.int (v.map (·.2)).sum, .int o]) = some (.p (.bool false)) := hn
  unfold lw12
  generalize (dD o (cnt v o + 1) v (.str "it") w) = D at *
  refine if_no (or_no (e := E19 c s s2 s3 s4 s5 s6 s7 (.p (vD v)) (.p (.int o)) (.p (.int (cnt v o))) (.p D) s12 s13 s14 s15 s16 .un .un) ?_ ?_)
  · simp [e1]
  · simp only [E19] at e3
    generalize (v.map (·.2)).sum = S at *
    simp [-List.map_map, e2, e3, hz, hs, hn]
theorem l13 (s s2 s3 s4 s5 s6 s7 s11 s12 s13 s14 s15 s16 s17 s18 : Slot) {v : List Pr} {o : Int} (hv : CauOK v) :
    lw13 (E19 c s s2 s3 s4 s5 s6 s7 (.p (vD v)) (.p (.int o)) (.p (.int (cnt v o))) s11 s12 s13 s14 s15 s16 s17 s18) = some (.nx, E19 c s s2 s3 s4 s5 s6 s7 (.p (vD v)) (.p (.int o)) (.p (.int (cnt v o))) s11 (.p (dD o (cnt v o + 2) (later v o) (.str "it") onD)) s13 s14 s15 s16 s17 s18) := by
  have hl := hv.len
  have g1 : gList [vD v] = some (.l ((v.map prI).map .p)) := rfl
  have g2 : gAdd (.list (v.map prI)) (.list [prI (o, cnt v o + 1)]) = some (.l (((v ++ [(o, cnt v o + 1)]).map prI).map .p)) := by
    show (if smallL ((v.map prI).length + 1) then some (Slot.l ((v.map prI ++ [prI (o, cnt v o + 1)]).map .p)) else none) = _
    rw [List.length_map, show smallL (v.length + 1) = true from decide_eq_true (by omega), if_pos rfl]
    simp only [List.map_append]; rfl
  have g3 := Drw.gDict_lD (v ++ [(o, cnt v o + 1)])
  rw [merge_snoc (lt_nodup hv.asc)] at g3
  unfold lw13
  unfold later dD
  generalize cnt v o = n at *
  generalize (v ++ [(o, n + 1)]).map prI = X at g2 g3
  have g2 : gAdd (.list (v.map prI)) (.list [.tuple [.int o, .int (n + 1)]]) = some (.l (X.map .p)) := g2
  simp [-List.map_map, g1, g2, g3]
  exact ⟨rfl, rfl, rfl⟩
theorem l14 (s s2 s3 s4 s5 s6 s7 s8 s9 s10 s13 s14 s15 s16 s17 s18 : Slot) {v : List Pr} {o : Int} {w : PyData} (hv : CauOK v) (h0 : 0 ≤ o) (h7 : o ≤ 7) :
    lw14 (E19 c s s2 s3 s4 s5 s6 s7 s8 s9 s10 (.p (dD o (cnt v o + 1) v (.str "it") w)) (.p (dD o (cnt v o + 2) (later v o) (.str "it") onD)) s13 s14 s15 s16 s17 s18) = some (.nx, E19 c s s2 s3 s4 s5 s6 s7 s8 s9 s10 (.p (dD o (cnt v o + 1) v (.str "it") w)) (.p (dD o (cnt v o + 2) (later v o) (.str "it") onD)) s13 s14 s15 s16 s17 s18) := by
  have hc := cnt_rng hv o
  have hl := hv.len
  obtain ⟨f1, f2, f3, f4, f5⟩ := later_facts hv h0 h7
  have hsm : Sm (dD o (cnt v o + 2) (later v o) (.str "it") onD) := sm_deed h0 (by omega) (by omega) (by omega) (tame_v (by omega) f2) (tame_str (by decide +kernel)) tame_on
  obtain ⟨t, e1⟩ := refused_deed _ hsm
  have hd : isDeed (dD o (cnt v o + 2) (later v o) (.str "it") onD) = true := by
    have e : (cnt (vecOf (vD (later v o))) (dotOf (prI (o, cnt v o + 2))).1 = (dotOf (prI (o, cnt v o + 2))).2 - 1) := by
      rw [vecOf_vD]
      show cnt (later v o) o = cnt v o + 2 - 1
      omega
    rw [isDeed4, dot_ok h0 h7 (by omega), isVec_of f1 (fun p hp => by have := f2 p hp; omega), decide_eq_true e, lab_it, any_on]
    rfl
  rw [hd] at e1
  have e2 : m_rank [.p (dD o (cnt v o + 1) v (.str "it") w)] = some (.ok (.p (.tuple [.int (v.map (·.2)).sum, .int o])), _) := rank_eq (o, cnt v o + 1) v [.str "it", w] (by omega)
  have e3 : m_rank [.p (dD o (cnt v o + 2) (later v o) (.str "it") onD)] = some (.ok (.p (.tuple [.int ((later v o).map (·.2)).sum, .int o])), _) := rank_eq (o, cnt v o + 2) (later v o) [.str "it", onD] (by omega)
  rw [f4] at e3
  generalize (v.map (·.2)).sum = S at *
  have hg : gLtD (.tuple [.int S, .int o]) (.tuple [.int (S + 1), .int o]) = some (.p (.bool true)) := by
    have a1 : PySem.W.alike (.tuple [.int S, .int o]) (.tuple [.int (S + 1), .int o]) = true := by simp [PySem.W.alike, PySem.W.alikeAll]
    have a2 : PySem.W.alike (.int S) (.int (S + 1)) = true := by simp [PySem.W.alike]
    have a3 : PySem.W.alike (.int o) (.int o) = true := by simp [PySem.W.alike]
    have hlt : PySem.W.dataLt (.tuple [.int S, .int o]) (.tuple [.int (S + 1), .int o]) = true := by
      rw [PySem.W.dataLt_pair a2 a3, eqv_int, show (S == S + 1) = false from beq_eq_false_iff_ne.mpr (by omega), if_neg Bool.false_ne_true, PySem.W.dataLt_int]
      exact decide_eq_true (by omega)
    unfold gLtD
    rw [a1, hlt]
    simp [isN, PyData.depth, PyData.depthAll]
  unfold lw14
  generalize (dD o (cnt v o + 1) v (.str "it") w) = D1 at *
  generalize (dD o (cnt v o + 2) (later v o) (.str "it") onD) = D2 at *
  refine if_no (or_no (e := E19 c s s2 s3 s4 s5 s6 s7 s8 s9 s10 (.p D1) (.p D2) s13 s14 s15 s16 s17 s18) ?_ ?_)
  · simp [e1]
  · simp [e2, e3, hg]
def bads (v : List Pr) (o n : Int) (w : PyData) : List PyData := [.none, .tuple [], .tuple [prI (o, n + 1), vD v, .str "it"], .tuple [prI (o, n + 1), vD v, .str "it", w, .int 0], .tuple [prI (o, n + 2), vD v, .str "it", onD], .tuple [prI (o, 0), vD v, .str "it", onD], .tuple [prI (o, n + 1), .none, .str "it", onD], .tuple [prI (o, n + 1), vD v, .str "", onD], .tuple [prI (o, n + 1), vD v, .str "It", onD], .tuple [prI (o, n + 1), vD v, .str "it", .tuple [.str "walk"]], .tuple [prI (o, n + 1), .tuple [.tuple [.int 1, .int 0]], .str "it", onD], .tuple [.tuple [.int 0, .int 1], .tuple [.tuple [.int 2, .int 1], .tuple [.int 1, .int 1]], .str "it", onD], .tuple [.tuple [.int 8, .int 1], .tuple [], .str "it", onD]]
theorem bad_facts {v : List Pr} {o : Int} {w : PyData} (hv : CauOK v) (h0 : 0 ≤ o) (h7 : o ≤ 7) (hw : Tame 3 1000 w) : ∀ d ∈ bads v o (cnt v o) w, Sm d ∧ isDeed d = false := by
  have hc := cnt_rng hv o
  have hl := hv.len
  have tv : Tame 2 1000 (vD v) := tame_v (by omega) fun p hp => by have := hv.rng p hp; omega
  have ti : Tame 2 1000 (.str "it") := tame_str (by decide +kernel)
  have tn : Tame 2 1000 .none := Tame.none.mono (by decide) (by decide)
  have td : Tame 3 1000 (prI (o, cnt v o + 1)) := (Drw.tame_prI (p := (o, cnt v o + 1)) h0 (by show o ≤ 1000; omega) (by show 0 ≤ cnt v o + 1; omega) (by show cnt v o + 1 ≤ 1000; omega)).mono (by decide) (by decide)
  have sm := fun {n : Int} {c l w : PyData} (h2 : 0 ≤ n) (h3 : n ≤ 100) (hc : Tame 2 1000 c) (hl : Tame 2 1000 l) (hw : Tame 3 1000 w) => sm_deed (o := o) (n := n) h0 (by omega) h2 h3 hc hl hw
  have c1 : ∀ (b : Bool) (x y z : Bool), b = false → (b && (x && (y && z))) = false := fun b x y z h => by rw [h]; rfl
  intro d hd
  simp only [bads, List.mem_cons, List.not_mem_nil, or_false] at hd
  rcases hd with rfl | rfl | rfl | rfl | rfl | rfl | rfl | rfl | rfl | rfl | rfl | rfl | rfl
  · exact ⟨⟨by decide +kernel, by decide +kernel⟩, rfl⟩
  · exact ⟨⟨by decide +kernel, by decide +kernel⟩, rfl⟩
  · refine ⟨sm_tame (k := 4) (n := 10000) (Tame.tup (k := 3) (n := 1000) (fun d hd => ?_) (by show 3 * 1001 ≤ 10000; decide)) (by decide), rfl⟩
    rcases List.mem_cons.mp hd with rfl | hd
    · exact td
    rcases List.mem_cons.mp hd with rfl | hd
    · exact tv.mono (by decide) (by decide)
    rcases List.mem_cons.mp hd with rfl | hd
    · exact ti.mono (by decide) (by decide)
    cases hd
  · refine ⟨sm_tame (k := 4) (n := 10000) (Tame.tup (k := 3) (n := 1000) (fun d hd => ?_) (by show 5 * 1001 ≤ 10000; decide)) (by decide), rfl⟩
    rcases List.mem_cons.mp hd with rfl | hd
    · exact td
    rcases List.mem_cons.mp hd with rfl | hd
    · exact tv.mono (by decide) (by decide)
    rcases List.mem_cons.mp hd with rfl | hd
    · exact ti.mono (by decide) (by decide)
    rcases List.mem_cons.mp hd with rfl | hd
    · exact hw
    rcases List.mem_cons.mp hd with rfl | hd
    · exact (Tame.int (by decide) (by decide)).mono (by decide) (by decide)
    cases hd
  · refine ⟨sm (by omega) (by omega) tv ti tame_on, ?_⟩
    have e : ¬ (cnt (vecOf (vD v)) (dotOf (prI (o, cnt v o + 2))).1 = (dotOf (prI (o, cnt v o + 2))).2 - 1) := by
      rw [vecOf_vD]
      show ¬ cnt v o = cnt v o + 2 - 1
      omega
    rw [isDeed4, decide_eq_false e]
    cases isDot (prI (o, cnt v o + 2)) <;> cases isVec (vD v) <;> rfl
  · refine ⟨sm (by omega) (by omega) tv ti tame_on, ?_⟩
    have e : isDot (prI (o, 0)) = false := by rw [Com.isDot_prI]; simp
    rw [isDeed4, e]; rfl
  · refine ⟨sm (by omega) (by omega) tn ti tame_on, ?_⟩
    rw [isDeed4, show isVec .none = false from rfl]
    cases isDot (prI (o, cnt v o + 1)) <;> rfl
  · refine ⟨sm (by omega) (by omega) tv (tame_str (by decide +kernel)) tame_on, ?_⟩
    rw [isDeed4, show isLab (.str "") = false by decide +kernel]
    cases isDot (prI (o, cnt v o + 1)) <;> cases isVec (vD v) <;> cases decide (cnt (vecOf (vD v)) (dotOf (prI (o, cnt v o + 1))).1 = (dotOf (prI (o, cnt v o + 1))).2 - 1) <;> rfl
  · refine ⟨sm (by omega) (by omega) tv (tame_str (by decide +kernel)) tame_on, ?_⟩
    rw [isDeed4, show isLab (.str "It") = false by decide +kernel]
    cases isDot (prI (o, cnt v o + 1)) <;> cases isVec (vD v) <;> cases decide (cnt (vecOf (vD v)) (dotOf (prI (o, cnt v o + 1))).1 = (dotOf (prI (o, cnt v o + 1))).2 - 1) <;> rfl
  · have tw : Tame 3 1000 (.tuple [.str "walk"]) := by
      have : tm (.tuple [.str "walk"]) = true ∧ sw (.tuple [.str "walk"]) ≤ 1000 ∧ (PyData.tuple [.str "walk"]).depth ≤ 3 := by decide +kernel
      exact this
    refine ⟨sm (by omega) (by omega) tv ti tw, ?_⟩
    rw [isDeed4, show (kindsS.any fun k => fitsK k (.tuple [.str "walk"])) = false by decide +kernel]
    cases isDot (prI (o, cnt v o + 1)) <;> cases isVec (vD v) <;> cases decide (cnt (vecOf (vD v)) (dotOf (prI (o, cnt v o + 1))).1 = (dotOf (prI (o, cnt v o + 1))).2 - 1) <;> cases isLab (.str "it") <;> rfl
  · have t1 : Tame 2 1000 (.tuple [.tuple [.int 1, .int 0]]) := by
      have : tm (.tuple [.tuple [.int 1, .int 0]]) = true ∧ sw (.tuple [.tuple [.int 1, .int 0]]) ≤ 1000 ∧ (PyData.tuple [.tuple [.int 1, .int 0]]).depth ≤ 2 := by decide +kernel
      exact this
    refine ⟨sm (by omega) (by omega) t1 ti tame_on, ?_⟩
    rw [isDeed4, show isVec (.tuple [.tuple [.int 1, .int 0]]) = false by decide +kernel]
    cases isDot (prI (o, cnt v o + 1)) <;> rfl
  · exact ⟨⟨by decide +kernel, by decide +kernel⟩, by decide +kernel⟩
  · exact ⟨⟨by decide +kernel, by decide +kernel⟩, by decide +kernel⟩
theorem l15 (s s2 s3 s4 s5 s6 s7 s12 s13 s14 s15 s16 s17 s18 : Slot) (v : List Pr) (o n : Int) (w : PyData) :
    lw15 (E19 c s s2 s3 s4 s5 s6 s7 (.p (vD v)) (.p (.int o)) (.p (.int n)) (.p (dD o (n + 1) v (.str "it") w)) s12 s13 s14 s15 s16 s17 s18) = some (.nx, E19 c s s2 s3 s4 s5 s6 s7 (.p (vD v)) (.p (.int o)) (.p (.int n)) (.p (dD o (n + 1) v (.str "it") w)) s12 (.l ((bads v o n w).map .p)) s14 s15 s16 s17 s18) := by kernel_rfl
theorem l16 (s s2 s3 s4 s5 s6 s7 s8 s9 s10 s11 s12 s14 s15 s16 s17 s18 : Slot) (B : List PyData) (hl : B.length ≤ 100) (hB : ∀ d ∈ B, Sm d ∧ isDeed d = false) :
    lw16 (E19 c s s2 s3 s4 s5 s6 s7 s8 s9 s10 s11 s12 (.l (B.map .p)) s14 s15 s16 s17 s18) = some (.nx, E19 c s s2 s3 s4 s5 s6 s7 s8 s9 s10 s11 s12 (.p (.list B)) s14 s15 s16 s17 s18) := by
  have gn : gNe (.list []) (.list []) = some (.p (.bool false)) := rfl
  have hc := compM_run (own := [2]) (tg := (tgP (gN 2))) (mt := (mNotT (mTruth (mFnF m__law_refused (mCons (mC (.int 0)) (mCons (mVar 2) mNil)))))) (me := (mVar 2)) (fun x : PyData => x) (fun _ => false) (fun x => x) (E19 c s .un s3 s4 s5 s6 s7 s8 s9 s10 s11 s12 (.p (.list B)) s14 s15 s16 s17 s18) B [] (fun d hd =>
    ⟨E19 c s (.p d) s3 s4 s5 s6 s7 s8 s9 s10 s11 s12 (.p (.list B)) s14 s15 s16 s17 s18, E19 c s (.p d) s3 s4 s5 s6 s7 s8 s9 s10 s11 s12 (.p (.list B)) s14 s15 s16 s17 s18, rfl, by
      obtain ⟨h1, h2⟩ := hB d hd
      obtain ⟨t, h⟩ := refused_deed d h1
      rw [h2] at h
      simp [h], fun _ => rfl, fun q => nomatch q⟩)
  rw [List.map_id', List.nil_append, List.filter_eq_nil_iff.mpr (fun _ _ => Bool.false_ne_true)] at hc
  simp only [E19] at hc
  have hz : B.length ≤ 1000000 := by omega
  have hi : itD (.list B) = some B := rfl
  unfold lw16
  refine if_no ?_
  simp [-List.map_map, hi, hz, hc, gn]
theorem l17 (s s2 s3 s4 s5 s6 s7 s8 s9 s10 s11 s12 s13 s14 s15 s16 s17 s18 : Slot) (h : DrawOK s) : ∃ k s', DrawOK s' ∧ k ∈ kindsS ∧ lw17 (E19 c s s2 s3 s4 s5 s6 s7 s8 s9 s10 s11 s12 s13 s14 s15 s16 s17 s18) = some (.nx, E19 c s' s2 s3 s4 s5 s6 s7 s8 s9 s10 s11 s12 s13 (.p (.tuple [.tuple [.str "a", .str "counter"], .tuple [.str "b", .str k]])) s15 s16 s17 s18) := by
  obtain ⟨r1, d1, h1, a1, b1, q1⟩ := takeC s 9 h (by decide) (by decide)
  obtain ⟨d, hd, e⟩ := Drw.gIdx_lst (l := kindsS.map PyData.str) a1 (by show r1 < 9; omega)
  obtain ⟨k, hk, rfl⟩ := List.mem_map.mp hd
  refine ⟨k, d1, h1, hk, ?_⟩
  have e : gIdx (.tuple [(.str "counter"), (.str "last"), (.str "choices"), (.str "keeps"), (.str "drops"), (.str "flag"), (.str "map"), (.str "list"), (.str "tree")]) (.int r1) = some (.p (.str k)) := e
  unfold lw17
  simp [-mFnL_run, q1, e]
theorem l18 (s s2 s3 s4 s5 s6 s7 s8 s9 s10 s11 s12 s13 s14 s15 s16 s17 s18 : Slot) : lw18 (E19 c s s2 s3 s4 s5 s6 s7 s8 s9 s10 s11 s12 s13 s14 s15 s16 s17 s18) = some (.nx, E19 c s s2 s3 s4 s5 s6 s7 s8 s9 s10 s11 s12 s13 s14 (.l (noDocs.map .p)) s16 s17 s18) := by kernel_rfl
theorem l19 (s s2 s3 s4 s5 s6 s7 s8 s9 s10 s11 s12 s13 s16 s17 s18 : Slot) (k : Str) (hk : k ∈ kindsS) : ∃ E', lw19 (E19 c s s2 s3 s4 s5 s6 s7 s8 s9 s10 s11 s12 s13 (.p (.tuple [.tuple [.str "a", .str "counter"], .tuple [.str "b", .str k]])) (.l (noDocs.map .p)) s16 s17 s18) = some (.rt (.p (.bool true)), E') ∧ E'.take 1 = [c] := by
  have gn : gEq (.list []) (.list []) = some (.p (.bool true)) := rfl
  obtain ⟨t0, h0⟩ := doc_right k hk
  obtain ⟨t1, h1⟩ := refused_doc _ _ _ h0
  have hc := compM_run (own := [2]) (tg := (tgP (gN 2))) (mt := (mNotT (mTruth (mFnF m__law_refused (mCons (mC (.int 1)) (mCons (mVar 2) mNil)))))) (me := (mVar 2)) (fun x : PyData => x) (fun _ => false) (fun x => x) (E19 c s .un s3 s4 s5 s6 s7 s8 s9 s10 s11 s12 s13 (.p (.tuple [.tuple [.str "a", .str "counter"], .tuple [.str "b", .str k]])) (.p (.list noDocs)) s16 s17 s18) noDocs [] (fun d hd =>
    ⟨E19 c s (.p d) s3 s4 s5 s6 s7 s8 s9 s10 s11 s12 s13 (.p (.tuple [.tuple [.str "a", .str "counter"], .tuple [.str "b", .str k]])) (.p (.list noDocs)) s16 s17 s18, E19 c s (.p d) s3 s4 s5 s6 s7 s8 s9 s10 s11 s12 s13 (.p (.tuple [.tuple [.str "a", .str "counter"], .tuple [.str "b", .str k]])) (.p (.list noDocs)) s16 s17 s18, rfl, by
      obtain ⟨t, h2⟩ := doc_wrong d hd
      obtain ⟨t', h3⟩ := refused_doc _ _ _ h2
      simp [h3], fun _ => rfl, fun q => nomatch q⟩)
  rw [List.map_id', List.nil_append, List.filter_eq_nil_iff.mpr (fun _ _ => Bool.false_ne_true)] at hc
  simp only [E19] at hc
  have hz : noDocs.length ≤ 1000000 := by decide
  have hi : itD (.list noDocs) = some noDocs := rfl
  refine ⟨E19 c s s2 s3 s4 s5 s6 s7 s8 s9 s10 s11 s12 s13 (.p (.tuple [.tuple [.str "a", .str "counter"], .tuple [.str "b", .str k]])) (.p (.list noDocs)) s16 s17 s18, ?_, rfl⟩
  unfold lw19
  generalize noDocs = W at *
  simp [-List.map_map, h1, hi, hz, hc, gn]
theorem law_eq (ns : List Int) (hn : ns.length ≤ 63) : ∃ ss', m_law [.p (.list (ns.map .int))] = some (.ok (.p (.bool true)), ss') := by
  obtain ⟨d0, hd0, e0⟩ := law_draw_eq ns (by omega)
  have g1 : gNe KC KC = some (.p (.bool false)) := Tame.ne (k := 1) (n := 2000) (by
    have : tm KC = true ∧ sw KC ≤ 2000 ∧ KC.depth ≤ 1 := by decide +kernel
    exact this) (by decide)
  generalize hcc : Slot.p (.list (ns.map .int)) = c at e0
  obtain ⟨v, k, d2, hd2, hv, hk, e2⟩ := l2 c d0 .un .un .un .un .un .un .un .un .un .un .un .un .un .un .un .un .un hd0
  obtain ⟨p, d3, hd3, p0, p1, p2, p3, e3⟩ := l3 c d2 (.p v) (.p k) .un .un .un .un .un .un .un .un .un .un .un .un .un .un .un hd2
  obtain ⟨m, d4, hd4, m0, m1, e4⟩ := l4 c d3 .un .un .un .un .un .un .un .un .un .un .un .un .un .un v k p hd3
  have hR := wok_right hv hk p0 p1 p2 p3 m0 m1
  have hRl : (rights v k p m).length = 13 := rfl
  obtain ⟨s6, e5⟩ := l5 c d4 (.p v) (.p k) (.p (prI p)) .un .un .un .un .un .un .un .un .un .un .un .un .un (rights v k p m) hR
  have e6 := l6 c d4 (.p v) (.p k) (.p (prI p)) (.p (.list (rights v k p m))) s6 .un .un .un .un .un .un .un .un .un .un .un .un
  have e7 := l7 c d4 (.p v) (.p k) (.p (prI p)) (.p (.list (rights v k p m))) s6 .un .un .un .un .un .un .un .un .un .un .un
  obtain ⟨cv, d8, hd8, hcv, e8⟩ := l8 c d4 (.p v) (.p k) (.p (prI p)) (.p (.list (rights v k p m))) s6 (.p (.list wrongs)) .un .un .un .un .un .un .un .un .un .un hd4
  obtain ⟨o, d9, hd9, o0, o7, e9⟩ := l9 c d8 (.p v) (.p k) (.p (prI p)) (.p (.list (rights v k p m))) s6 (.p (.list wrongs)) (.p (vD cv)) .un .un .un .un .un .un .un .un .un .un hd8
  have e10 := l10 c d9 (.p v) (.p k) (.p (prI p)) (.p (.list (rights v k p m))) s6 (.p (.list wrongs)) .un .un .un .un .un .un .un .un .un cv o hcv
  obtain ⟨w, d11, hd11, hw, e11⟩ := l11 c d9 (.p v) (.p k) (.p (prI p)) s6 (.p (.list wrongs)) .un .un .un .un .un .un .un .un cv o (cnt cv o) (rights v k p m) hRl hd9
  obtain ⟨T, hwT⟩ := hR w hw
  have e12 := l12 c d11 (.p v) (.p k) (.p (prI p)) (.p (.list (rights v k p m))) s6 (.p (.list wrongs)) .un .un .un .un .un .un .un hcv o0 o7 hwT
  have e13 := l13 c d11 (.p v) (.p k) (.p (prI p)) (.p (.list (rights v k p m))) s6 (.p (.list wrongs)) (.p (dD o (cnt cv o + 1) cv (.str "it") w)) .un .un .un .un .un .un .un (o := o) hcv
  have e14 := l14 c d11 (.p v) (.p k) (.p (prI p)) (.p (.list (rights v k p m))) s6 (.p (.list wrongs)) (.p (vD cv)) (.p (.int o)) (.p (.int (cnt cv o))) .un .un .un .un .un .un (w := w) hcv o0 o7
  have e15 := l15 c d11 (.p v) (.p k) (.p (prI p)) (.p (.list (rights v k p m))) s6 (.p (.list wrongs)) (.p (dD o (cnt cv o + 2) (later cv o) (.str "it") onD)) .un .un .un .un .un .un cv o (cnt cv o) w
  have e16 := l16 c d11 (.p v) (.p k) (.p (prI p)) (.p (.list (rights v k p m))) s6 (.p (.list wrongs)) (.p (vD cv)) (.p (.int o)) (.p (.int (cnt cv o))) (.p (dD o (cnt cv o + 1) cv (.str "it") w)) (.p (dD o (cnt cv o + 2) (later cv o) (.str "it") onD)) .un .un .un .un .un (bads cv o (cnt cv o) w) (by show 13 ≤ 100; decide) (bad_facts hcv o0 o7 hwT.tame)
  obtain ⟨kd, d17, hd17, hkd, e17⟩ := l17 c d11 (.p v) (.p k) (.p (prI p)) (.p (.list (rights v k p m))) s6 (.p (.list wrongs)) (.p (vD cv)) (.p (.int o)) (.p (.int (cnt cv o))) (.p (dD o (cnt cv o + 1) cv (.str "it") w)) (.p (dD o (cnt cv o + 2) (later cv o) (.str "it") onD)) (.p (.list (bads cv o (cnt cv o) w))) .un .un .un .un .un hd11
  have e18 := l18 c d17 (.p v) (.p k) (.p (prI p)) (.p (.list (rights v k p m))) s6 (.p (.list wrongs)) (.p (vD cv)) (.p (.int o)) (.p (.int (cnt cv o))) (.p (dD o (cnt cv o + 1) cv (.str "it") w)) (.p (dD o (cnt cv o + 2) (later cv o) (.str "it") onD)) (.p (.list (bads cv o (cnt cv o) w))) (.p (.tuple [.tuple [.str "a", .str "counter"], .tuple [.str "b", .str kd]])) .un .un .un .un
  obtain ⟨E', e19, ht⟩ := l19 c d17 (.p v) (.p k) (.p (prI p)) (.p (.list (rights v k p m))) s6 (.p (.list wrongs)) (.p (vD cv)) (.p (.int o)) (.p (.int (cnt cv o))) (.p (dD o (cnt cv o + 1) cv (.str "it") w)) (.p (dD o (cnt cv o + 2) (later cv o) (.str "it") onD)) (.p (.list (bads cv o (cnt cv o) w))) .un .un .un kd hkd
  refine ⟨[c], ?_⟩
  have hmain : mb_law ([c] ++ List.replicate 18 .un) = some (.rt (.p (.bool true)), E') := by
    show mb_law (E19 c .un .un .un .un .un .un .un .un .un .un .un .un .un .un .un .un .un .un) = _
    rw [mb_law_eq]
    unfold lwB
    refine seq_nx (e := E19 c d0 .un .un .un .un .un .un .un .un .un .un .un .un .un .un .un .un .un) ?_ ?_
    · obtain ⟨c0, i0, r0, w0, b0, rfl⟩ := id hd0
      unfold lw0
      rw [← hcc] at e0 ⊢
      simp [-List.map_map, e0]
    refine seq_nx (e := E19 c d0 .un .un .un .un .un .un .un .un .un .un .un .un .un .un .un .un .un) ?_ ?_
    · unfold lw1
      refine if_no ?_
      have g1 : gNe (.tuple [(.str "counter"), (.str "last"), (.str "choices"), (.str "keeps"), (.str "drops"), (.str "flag"), (.str "map"), (.str "list"), (.str "tree")]) (.tuple [(.str "counter"), (.str "last"), (.str "choices"), (.str "keeps"), (.str "drops"), (.str "flag"), (.str "map"), (.str "list"), (.str "tree")]) = some (.p (.bool false)) := g1
      simp [g1]
    exact seq_nx e2 (seq_nx e3 (seq_nx e4 (seq_nx e5 (seq_nx e6 (seq_nx e7 (seq_nx e8 (seq_nx e9 (seq_nx e10 (seq_nx e11 (seq_nx e12 (seq_nx e13 (seq_nx e14 (seq_nx e15 (seq_nx e16 (seq_nx e17 (seq_nx e18 e19))))))))))))))))
  show runE 1 (mb_law ([c] ++ List.replicate 18 .un)) = _
  rw [hmain, runE_rt, ht]
end K01
theorem K01.law_fn {l : PySem.W.OpenLaw} {w : PySem.World} {K : PySem.W.Frag} {mg : PySem.Str → Option PySem.Value} (T : K01.Tp K mg) (base : PySem.Heap) : MM.FnG l.prog w K mg base (L2.CX l.prog w) 9 T.law.f T.law.fd ["script"] (MM.spLaw K) := by
  have h := K01.ok_law (P := l.prog) (w := w) (base := base) T 0
  exact (h.up (by decide)).less (MM.law_promise K01.law_eq)
open PySem PySem.W PyProof.Rows in
set_option maxHeartbeats 0 in
theorem PySem.Challenge.cw_meetsagain_k01_deeds_and_documents_holds : PySem.Challenge.rw_meetsagain_k01_deeds_and_documents.Holds := by
  w_on; o_law; k_head; (case hw => w_witness2)
  k_fill
  refine MM.walk_ofG (l := PySem.Challenge.rw_meetsagain_k01_deeds_and_documents) (n := 63) (k := 9) (x := "script") (CX := fun w => L2.CX PySem.Challenge.rw_meetsagain_k01_deeds_and_documents.prog w) (sp := fun w => MM.spLaw _) rfl (by decide) rfl ⟨rfl, by decide, by decide⟩ (fun w h Y => PySem.W.kIn_of Y) ?F (fun _ _ a ns hl hS => ⟨a, ns, rfl, hS, hl, fun _ => rfl⟩) (fun _ _ _ _ _ h => MM.cx_none h)
  case F =>
    intro w mg fa h KX G hmg
    have h__law_draw := MM.fnH_mk (x := "_law_draw") (st := K01.topS 28) (ps := ["script"]) KX G (by k_is) (by k_is) (by k_is) (by k_is) (fun _ _ _ _ _ _ us hl => match us, hl with | [_], _ => rfl)
    have h__law_take := MM.fnH_mk (x := "_law_take") (st := K01.topS 29) (ps := ["draw", "many"]) KX G (by k_is) (by k_is) (by k_is) (by k_is) (fun _ _ _ _ _ _ us hl => match us, hl with | [_, _], _ => rfl)
    have h_is_integer := MM.fnH_mk (x := "is_integer") (st := K01.topS 4) (ps := ["value", "low", "high"]) KX G (by k_is) (by k_is) (by k_is) (by k_is) (fun _ _ _ _ _ _ us hl => match us, hl with | [_, _, _], _ => rfl)
    have h_is_copy := MM.fnH_mk (x := "is_copy") (st := K01.topS 7) (ps := ["value"]) KX G (by k_is) (by k_is) (by k_is) (by k_is) (fun _ _ _ _ _ _ us hl => match us, hl with | [_], _ => rfl)
    have h_is_dot := MM.fnH_mk (x := "is_dot") (st := K01.topS 8) (ps := ["value"]) KX G (by k_is) (by k_is) (by k_is) (by k_is) (fun _ _ _ _ _ _ us hl => match us, hl with | [_], _ => rfl)
    have h_is_vector := MM.fnH_mk (x := "is_vector") (st := K01.topS 9) (ps := ["value"]) KX G (by k_is) (by k_is) (by k_is) (by k_is) (fun _ _ _ _ _ _ us hl => match us, hl with | [_], _ => rfl)
    have h_count_of := MM.fnH_mk (x := "count_of") (st := K01.topS 10) (ps := ["vector", "copy"]) KX G (by k_is) (by k_is) (by k_is) (by k_is) (fun _ _ _ _ _ _ us hl => match us, hl with | [_, _], _ => rfl)
    have h_are_letters := MM.fnH_mk (x := "are_letters") (st := K01.topS 17) (ps := ["value", "most"]) KX G (by k_is) (by k_is) (by k_is) (by k_is) (fun _ _ _ _ _ _ us hl => match us, hl with | [_, _], _ => rfl)
    have h_is_label := MM.fnH_mk (x := "is_label") (st := K01.topS 18) (ps := ["value"]) KX G (by k_is) (by k_is) (by k_is) (by k_is) (fun _ _ _ _ _ _ us hl => match us, hl with | [_], _ => rfl)
    have h_is_value := MM.fnH_mk (x := "is_value") (st := K01.topS 19) (ps := ["value"]) KX G (by k_is) (by k_is) (by k_is) (by k_is) (fun _ _ _ _ _ _ us hl => match us, hl with | [_], _ => rfl)
    have h_fits_words := MM.fnH_mk (x := "fits_words") (st := K01.topS 20) (ps := ["kind", "what"]) KX G (by k_is) (by k_is) (by k_is) (by k_is) (fun _ _ _ _ _ _ us hl => match us, hl with | [_, _], _ => rfl)
    have h_fits_kind := MM.fnH_mk (x := "fits_kind") (st := K01.topS 21) (ps := ["kind", "what"]) KX G (by k_is) (by k_is) (by k_is) (by k_is) (fun _ _ _ _ _ _ us hl => match us, hl with | [_, _], _ => rfl)
    have h_is_deed := MM.fnH_mk (x := "is_deed") (st := K01.topS 22) (ps := ["value"]) KX G (by k_is) (by k_is) (by k_is) (by k_is) (fun _ _ _ _ _ _ us hl => match us, hl with | [_], _ => rfl)
    have h_check_deed := MM.fnH_mk (x := "check_deed") (st := K01.topS 23) (ps := ["deed"]) KX G (by k_is) (by k_is) (by k_is) (by k_is) (fun _ _ _ _ _ _ us hl => match us, hl with | [_], _ => rfl)
    have h_is_document := MM.fnH_mk (x := "is_document") (st := K01.topS 25) (ps := ["value"]) KX G (by k_is) (by k_is) (by k_is) (by k_is) (fun _ _ _ _ _ _ us hl => match us, hl with | [_], _ => rfl)
    have h_check_document := MM.fnH_mk (x := "check_document") (st := K01.topS 26) (ps := ["document"]) KX G (by k_is) (by k_is) (by k_is) (by k_is) (fun _ _ _ _ _ _ us hl => match us, hl with | [_], _ => rfl)
    have h__law_refused := MM.fnH_mk (x := "_law_refused") (st := K01.topS 30) (ps := ["kind", "value"]) KX G (by k_is) (by k_is) (by k_is) (by k_is) (fun _ _ _ _ _ _ us hl => match us, hl with | [_, _], _ => rfl)
    have h_size_of := MM.fnH_mk (x := "size_of") (st := K01.topS 11) (ps := ["vector"]) KX G (by k_is) (by k_is) (by k_is) (by k_is) (fun _ _ _ _ _ _ us hl => match us, hl with | [_], _ => rfl)
    have h_rank := MM.fnH_mk (x := "rank") (st := K01.topS 24) (ps := ["deed"]) KX G (by k_is) (by k_is) (by k_is) (by k_is) (fun _ _ _ _ _ _ us hl => match us, hl with | [_], _ => rfl)
    have h__law_kinds := MM.fnH_mk (x := "_law_kinds") (st := K01.topS 31) (ps := ["what"]) KX G (by k_is) (by k_is) (by k_is) (by k_is) (fun _ _ _ _ _ _ us hl => match us, hl with | [_], _ => rfl)
    have z_abs : mg "abs" = none := PySem.W.mg_none_of KX G (by k_is)
    have z_all : mg "all" = none := PySem.W.mg_none_of KX G (by k_is)
    have z_any : mg "any" = none := PySem.W.mg_none_of KX G (by k_is)
    have z_bool : mg "bool" = none := PySem.W.mg_none_of KX G (by k_is)
    have z_dict : mg "dict" = none := PySem.W.mg_none_of KX G (by k_is)
    have z_int : mg "int" = none := PySem.W.mg_none_of KX G (by k_is)
    have z_isinstance : mg "isinstance" = none := PySem.W.mg_none_of KX G (by k_is)
    have z_len : mg "len" = none := PySem.W.mg_none_of KX G (by k_is)
    have z_list : mg "list" = none := PySem.W.mg_none_of KX G (by k_is)
    have z_range : mg "range" = none := PySem.W.mg_none_of KX G (by k_is)
    have z_set : mg "set" = none := PySem.W.mg_none_of KX G (by k_is)
    have z_sorted : mg "sorted" = none := PySem.W.mg_none_of KX G (by k_is)
    have z_str : mg "str" = none := PySem.W.mg_none_of KX G (by k_is)
    have z_sum : mg "sum" = none := PySem.W.mg_none_of KX G (by k_is)
    have z_tuple : mg "tuple" = none := PySem.W.mg_none_of KX G (by k_is)
    have z_zip : mg "zip" = none := PySem.W.mg_none_of KX G (by k_is)
    have c_MAX_COPIES := MM.cH_mk (x := "MAX_COPIES") (d := (.int 8)) KX G (by k_is) (by rfl)
    have c_MAX_LABEL := MM.cH_mk (x := "MAX_LABEL") (d := (.int 8)) KX G (by k_is) (by rfl)
    have c_MAX_SIGNS := MM.cH_mk (x := "MAX_SIGNS") (d := (.int 40)) KX G (by k_is) (by rfl)
    have c_TURNS := MM.cH_mk (x := "TURNS") (d := (.tuple [(.str "undo"), (.str "redo")])) KX G (by k_is) (MM.constD_tup (by k_is) (MM.constAll_cons (by rfl) (MM.constAll_cons (by rfl) MM.constAll_nil)) (by decide))
    have c_KINDS := MM.cH_mk (x := "KINDS") (d := (.tuple [(.str "counter"), (.str "last"), (.str "choices"), (.str "keeps"), (.str "drops"), (.str "flag"), (.str "map"), (.str "list"), (.str "tree")])) KX G (by k_is) (MM.constD_tup (by k_is) (MM.constAll_cons (by rfl) (MM.constAll_cons (by rfl) (MM.constAll_cons (by rfl) (MM.constAll_cons (by rfl) (MM.constAll_cons (by rfl) (MM.constAll_cons (by rfl) (MM.constAll_cons (by rfl) (MM.constAll_cons (by rfl) (MM.constAll_cons (by rfl) MM.constAll_nil))))))))) (by decide))
    have e_NotAllowed := MM.exH_mk (x := "NotAllowed") KX G (by k_is) (by k_is) (by k_exc) (by k_is) (by k_is) (by k_is)
    have e_MeetingError := MM.exH_mk (x := "MeetingError") KX G (by k_is) (by k_is) (by k_exc) (by k_is) (by k_is) (by k_is)
    have x_MeetingError_NotAllowed := MM.exH_sub KX G e_MeetingError e_NotAllowed (by k_is) (by k_is) (by k_is)
    have x_NotAllowed_NotAllowed := MM.exH_sub KX G e_NotAllowed e_NotAllowed (by k_is) (by k_is) (by k_is)
    refine' MM.law_end (st := K01.topS 32) hmg KX G ?a ?l ?c ?k (fun _ _ _ _ _ _ us hl => match us, hl with | [_], _ => rfl) (fun H base => K01.law_fn ⟨h__law_draw, h__law_take, h_is_integer, h_is_copy, h_is_dot, h_is_vector, h_count_of, h_are_letters, h_is_label, h_is_value, h_fits_words, h_fits_kind, h_is_deed, h_check_deed, h_is_document, h_check_document, h__law_refused, h_size_of, h_rank, h__law_kinds, H, z_abs, z_all, z_any, z_bool, z_dict, z_int, z_isinstance, z_len, z_list, z_range, z_set, z_sorted, z_str, z_sum, z_tuple, z_zip, c_MAX_COPIES, c_MAX_LABEL, c_MAX_SIGNS, c_TURNS, c_KINDS, e_NotAllowed, e_MeetingError, x_MeetingError_NotAllowed, x_NotAllowed_NotAllowed⟩ base)
    (case a => k_is); (case l => k_is); (case c => k_is); (case k => k_is)
