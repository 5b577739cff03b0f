import PyProof.Rows.All
import Wide.All
import OpenK.AllK
import Wide.FinOn
import HandS.ForMost
import HandS.ForExc
import HandS.Evl
import HandS.Flow
import HandS.Walk
import HandS.TupAny
import HandS.Deep
import HandS.IsInst
import HandS.DictTup
import HandS.ListItems
import HandS.NoneIn
import KE.SortData
import KE.KDictPairs
import PySem.Challenge.RW_meetsagain_k00_vectors_of_dots
set_option Elab.async false
set_option linter.all false
set_option maxRecDepth 100000
set_option maxHeartbeats 4000000
/-! M0: slots, what they own, the one word that stands over a state -/
namespace MM
open PySem PySem.Spec L2

/-- what a name holds: nothing known, plain data that stays, a list of its own, a dict of its own -/
inductive Slot where
  | un
  | p (d : PyData)
  | l (xs : List Slot)
  | m (ks : List (Key × Slot))

/-- all its items are tuples -/
def isTup : PyData → Bool
  | .tuple _ => true
  | _ => false
def rowB (ds : List PyData) : Bool := ds.all isTup
/-- what stands at a tuple's address: a row of tuples is known to the object, all others are tracked as they are -/
def TpK (K : PySem.W.Frag) (H : Hp) (a : Addr) (xs : List V) (ds : List PyData) : Prop :=
  (∃ (o : Obj) (its : Array Value) (n : Nat), K.lookup a = some o ∧ o.cls = .type "tuple" ∧ o.data = .seq its n ∧ its.size ≤ sizeLine ∧ Vals xs its.toList ∧ o.dict = none) ∨
    (rowB ds = true ∧ ∃ o : Obj, H a = some (.frz o (.tup xs)) ∧ o.dict = none) ∨ (rowB ds = false ∧ H a = some (.tup xs))
theorem TpK.sq {K : PySem.W.Frag} {H : Hp} {a : Addr} {xs : List V} {ds : List PyData} (h : TpK K H a xs ds) : SqT K H a xs := by
  rcases h with ⟨o, its, n, h1, h2, h3, h4, h5, _⟩ | ⟨_, o, h, _⟩ | ⟨_, h⟩
  · exact .inr ⟨o, its, n, h1, h2, h3, h4, h5⟩
  · exact .inl (.inr ⟨o, h⟩)
  · exact .inl (.inl h)
mutual
inductive Dq (K : PySem.W.Frag) (H : Hp) : V → PyData → Prop
  | non : Dq K H .non .none
  | bl (b : Bool) : Dq K H (.bl b) (.bool b)
  | int (i : Int) : Dq K H (.int i) (.int i)
  | str (x : Str) : Dq K H (.str x) (.str x)
  | lst {a : Addr} {xs : List V} {ds : List PyData} : SqL K H a xs → DqAll K H xs ds → Dq K H (.ref a) (.list ds)
  | tup {a : Addr} {xs : List V} {ds : List PyData} : TpK K H a xs ds → DqAll K H xs ds → Dq K H (.ref a) (.tuple ds)
inductive DqAll (K : PySem.W.Frag) (H : Hp) : List V → List PyData → Prop
  | nil : DqAll K H [] []
  | cons {v : V} {vs : List V} {d : PyData} {ds : List PyData} : Dq K H v d → DqAll K H vs ds → DqAll K H (v :: vs) (d :: ds)
end
mutual
theorem Dq.dp {K : PySem.W.Frag} {H : Hp} : ∀ {v : V} {d : PyData}, Dq K H v d → Dp K H v d
  | _, _, .non => .non
  | _, _, .bl b => .bl b
  | _, _, .int i => .int i
  | _, _, .str x => .str x
  | _, _, .lst h t => .lst h t.dp
  | _, _, .tup h t => .tup h.sq t.dp
theorem DqAll.dp {K : PySem.W.Frag} {H : Hp} : ∀ {vs : List V} {ds : List PyData}, DqAll K H vs ds → DpAll K H vs ds
  | _, _, .nil => .nil
  | _, _, .cons h t => .cons h.dp t.dp
end

mutual
inductive Ow (K : PySem.W.Frag) (F H : Hp) : Option V → Slot → List Addr → Prop
  | un {o : Option V} : Ow K F H o .un []
  | p {v : V} {d : PyData} : Dq K F v d → Ow K F H (some v) (.p d) []
  | l {a : Addr} {vs : List V} {xs : List Slot} {fp : List Addr} : H a = some (.lst vs) → OwL K F H vs xs fp → Ow K F H (some (.ref a)) (.l xs) (a :: fp)
  | m {a : Addr} {ks : List (Key × V)} {xs : List (Key × Slot)} {fp : List Addr} : H a = some (.dK ks) → OwM K F H ks xs fp → Ow K F H (some (.ref a)) (.m xs) (a :: fp)
inductive OwL (K : PySem.W.Frag) (F H : Hp) : List V → List Slot → List Addr → Prop
  | nil : OwL K F H [] [] []
  | cons {v : V} {s : Slot} {f g : List Addr} {vs : List V} {ss : List Slot} : Ow K F H (some v) s f → OwL K F H vs ss g → OwL K F H (v :: vs) (s :: ss) (f ++ g)
inductive OwM (K : PySem.W.Frag) (F H : Hp) : List (Key × V) → List (Key × Slot) → List Addr → Prop
  | nil : OwM K F H [] [] []
  | cons {k : Key} {v : V} {s : Slot} {f g : List Addr} {vs : List (Key × V)} {ss : List (Key × Slot)} : Ow K F H (some v) s f → OwM K F H vs ss g → OwM K F H ((k, v) :: vs) ((k, s) :: ss) (f ++ g)
end

/-- a row of things held -/
abbrev Row := List (Option V × Slot)
inductive OwE (K : PySem.W.Frag) (F H : Hp) : Row → List Addr → Prop
  | nil : OwE K F H [] []
  | cons {o : Option V} {s : Slot} {f g : List Addr} {L : Row} : Ow K F H o s f → OwE K F H L g → OwE K F H ((o, s) :: L) (f ++ g)

def Ex (H H' : Hp) : Prop := ∀ a o, H a = some o → H' a = some o
theorem Ex.refl (H : Hp) : Ex H H := fun _ _ h => h
theorem Ex.trans {H H1 H2 : Hp} (a : Ex H H1) (b : Ex H1 H2) : Ex H H2 := fun x o h => b x o (a x o h)

theorem TpK.mono {K : PySem.W.Frag} {F F' : Hp} {a : Addr} {xs : List V} {ds : List PyData} (e : Ex F F') (h : TpK K F a xs ds) : TpK K F' a xs ds := by
  rcases h with h | ⟨h1, o, h, h2⟩ | ⟨h1, h⟩
  · exact .inl h
  · exact .inr (.inl ⟨h1, o, e _ _ h, h2⟩)
  · exact .inr (.inr ⟨h1, e _ _ h⟩)
mutual
theorem Dq.mono {K : PySem.W.Frag} {F F' : Hp} (e : Ex F F') : ∀ {v : V} {d : PyData}, Dq K F v d → Dq K F' v d
  | _, _, .non => .non
  | _, _, .bl b => .bl b
  | _, _, .int i => .int i
  | _, _, .str x => .str x
  | _, _, .lst h t => .lst (Evl.ex_l e h) (t.mono e)
  | _, _, .tup h t => .tup (h.mono e) (t.mono e)
theorem DqAll.mono {K : PySem.W.Frag} {F F' : Hp} (e : Ex F F') : ∀ {vs : List V} {ds : List PyData}, DqAll K F vs ds → DqAll K F' vs ds
  | _, _, .nil => .nil
  | _, _, .cons h t => .cons (h.mono e) (t.mono e)
end

mutual
theorem Ow.mono {K : PySem.W.Frag} {F F' H H' : Hp} (e : Ex F F') : ∀ {o : Option V} {s : Slot} {fp : List Addr}, (∀ a ∈ fp, H' a = H a) → Ow K F H o s fp → Ow K F' H' o s fp
  | _, _, _, _, .un => .un
  | _, _, _, _, .p h => .p (h.mono e)
  | _, _, _, k, .l h t => .l ((k _ List.mem_cons_self).trans h) (OwL.mono e (fun a q => k a (List.mem_cons_of_mem _ q)) t)
  | _, _, _, k, .m h t => .m ((k _ List.mem_cons_self).trans h) (OwM.mono e (fun a q => k a (List.mem_cons_of_mem _ q)) t)
theorem OwL.mono {K : PySem.W.Frag} {F F' H H' : Hp} (e : Ex F F') : ∀ {vs : List V} {ss : List Slot} {fp : List Addr}, (∀ a ∈ fp, H' a = H a) → OwL K F H vs ss fp → OwL K F' H' vs ss fp
  | _, _, _, _, .nil => .nil
  | _, _, _, k, .cons h t => .cons (Ow.mono e (fun a q => k a (List.mem_append_left _ q)) h) (OwL.mono e (fun a q => k a (List.mem_append_right _ q)) t)
theorem OwM.mono {K : PySem.W.Frag} {F F' H H' : Hp} (e : Ex F F') : ∀ {vs : List (Key × V)} {ss : List (Key × Slot)} {fp : List Addr}, (∀ a ∈ fp, H' a = H a) → OwM K F H vs ss fp → OwM K F' H' vs ss fp
  | _, _, _, _, .nil => .nil
  | _, _, _, k, .cons h t => .cons (Ow.mono e (fun a q => k a (List.mem_append_left _ q)) h) (OwM.mono e (fun a q => k a (List.mem_append_right _ q)) t)
end
theorem OwE.mono {K : PySem.W.Frag} {F F' H H' : Hp} (e : Ex F F') : ∀ {L : Row} {fp : List Addr}, (∀ a ∈ fp, H' a = H a) → OwE K F H L fp → OwE K F' H' L fp
  | _, _, _, .nil => .nil
  | _, _, k, .cons h t => .cons (Ow.mono e (fun a q => k a (List.mem_append_left _ q)) h) (OwE.mono e (fun a q => k a (List.mem_append_right _ q)) t)
mutual
theorem Ow.there {K : PySem.W.Frag} {F H : Hp} : ∀ {o : Option V} {s : Slot} {fp : List Addr}, Ow K F H o s fp → ∀ a ∈ fp, H a ≠ none
  | _, _, _, .un => fun _ q => nomatch q
  | _, _, _, .p _ => fun _ q => nomatch q
  | _, _, _, .l h t => fun a q => by
    rcases List.mem_cons.mp q with rfl | q
    · rw [h]; exact fun z => nomatch z
    · exact OwL.there t a q
  | _, _, _, .m h t => fun a q => by
    rcases List.mem_cons.mp q with rfl | q
    · rw [h]; exact fun z => nomatch z
    · exact OwM.there t a q
theorem OwL.there {K : PySem.W.Frag} {F H : Hp} : ∀ {vs : List V} {ss : List Slot} {fp : List Addr}, OwL K F H vs ss fp → ∀ a ∈ fp, H a ≠ none
  | _, _, _, .nil => fun _ q => nomatch q
  | _, _, _, .cons h t => fun a q => (List.mem_append.mp q).elim (Ow.there h a) (OwL.there t a)
theorem OwM.there {K : PySem.W.Frag} {F H : Hp} : ∀ {vs : List (Key × V)} {ss : List (Key × Slot)} {fp : List Addr}, OwM K F H vs ss fp → ∀ a ∈ fp, H a ≠ none
  | _, _, _, .nil => fun _ q => nomatch q
  | _, _, _, .cons h t => fun a q => (List.mem_append.mp q).elim (Ow.there h a) (OwM.there t a)
end
theorem OwE.there {K : PySem.W.Frag} {F H : Hp} : ∀ {L : Row} {fp : List Addr}, OwE K F H L fp → ∀ a ∈ fp, H a ≠ none
  | _, _, .nil => fun _ q => nomatch q
  | _, _, .cons h t => fun a q => (List.mem_append.mp q).elim (Ow.there h a) (OwE.there t a)
theorem OwE.perm {K : PySem.W.Frag} {F H : Hp} {L L' : Row} (h : L.Perm L') : ∀ {fp : List Addr}, OwE K F H L fp → ∃ fp', fp.Perm fp' ∧ OwE K F H L' fp' := by
  induction h with
  | nil => intro fp h; cases h; exact ⟨_, .refl _, .nil⟩
  | cons x _ ih =>
    intro fp h
    cases h with
    | cons h t =>
      obtain ⟨g, p, t'⟩ := ih t
      exact ⟨_, List.Perm.append_left _ p, .cons h t'⟩
  | swap x y l =>
    intro fp h
    cases h with
    | cons h t =>
      cases t with
      | cons h2 t =>
        refine ⟨_, ?_, .cons h2 (.cons h t)⟩
        rw [← List.append_assoc, ← List.append_assoc]
        exact List.Perm.append_right _ List.perm_append_comm
  | trans _ _ ih1 ih2 =>
    intro fp h
    obtain ⟨f1, p1, h1⟩ := ih1 h
    obtain ⟨f2, p2, h2⟩ := ih2 h1
    exact ⟨f2, p1.trans p2, h2⟩
theorem OwE.app {K : PySem.W.Frag} {F H : Hp} : ∀ {L L' : Row} {f g : List Addr}, OwE K F H L f → OwE K F H L' g → OwE K F H (L ++ L') (f ++ g)
  | _, _, _, _, .nil, h => h
  | _, _, _, _, .cons a t, h => by rw [List.append_assoc]; exact .cons a (OwE.app t h)
theorem OwE.split {K : PySem.W.Frag} {F H : Hp} : ∀ {L L' : Row} {fp : List Addr}, OwE K F H (L ++ L') fp → ∃ f g, fp = f ++ g ∧ OwE K F H L f ∧ OwE K F H L' g
  | [], _, fp, h => ⟨[], fp, rfl, .nil, h⟩
  | _ :: L, _, _, .cons a t => by
    obtain ⟨f, g, e, h1, h2⟩ := OwE.split t
    exact ⟨_, g, by rw [e, List.append_assoc], .cons a h1, h2⟩
/-- the items of a list beside what they are -/
def zS (vs : List V) (xs : List Slot) : Row := (vs.map some).zip xs
def zP (vs : List V) (ds : List PyData) : Row := (vs.map some).zip (ds.map Slot.p)
theorem OwL.row {K : PySem.W.Frag} {F H : Hp} : ∀ {vs : List V} {xs : List Slot} {fp : List Addr}, OwL K F H vs xs fp → OwE K F H (zS vs xs) fp ∧ vs.length = xs.length
  | _, _, _, .nil => ⟨.nil, rfl⟩
  | _, _, _, .cons h t => ⟨.cons h (OwL.row t).1, by rw [List.length_cons, List.length_cons, (OwL.row t).2]⟩
theorem OwL.of {K : PySem.W.Frag} {F H : Hp} : ∀ {vs : List V} {xs : List Slot} {fp : List Addr}, vs.length = xs.length → OwE K F H (zS vs xs) fp → OwL K F H vs xs fp
  | [], [], _, _, h => by cases h; exact .nil
  | _ :: _, _ :: _, _, e, h => by
    cases h with
    | cons a t => exact .cons a (OwL.of (by simpa using e) t)
  | [], _ :: _, _, e, _ => by simp at e
  | _ :: _, [], _, e, _ => by simp at e
def zM (ks : List (Key × V)) (xs : List (Key × Slot)) : Row := (ks.map fun p => some p.2).zip (xs.map (·.2))
theorem OwM.row {K : PySem.W.Frag} {F H : Hp} : ∀ {vs : List (Key × V)} {xs : List (Key × Slot)} {fp : List Addr}, OwM K F H vs xs fp → OwE K F H (zM vs xs) fp ∧ vs.map (·.1) = xs.map (·.1)
  | _, _, _, .nil => ⟨.nil, rfl⟩
  | _, _, _, .cons h t => ⟨.cons h (OwM.row t).1, by rw [List.map_cons, List.map_cons, (OwM.row t).2]⟩
theorem OwM.of {K : PySem.W.Frag} {F H : Hp} : ∀ {vs : List (Key × V)} {xs : List (Key × Slot)} {fp : List Addr}, vs.map (·.1) = xs.map (·.1) → OwE K F H (zM vs xs) fp → OwM K F H vs xs fp
  | [], [], _, _, h => by cases h; exact .nil
  | (k, _) :: _, (k', _) :: _, _, e, h => by
    cases h with
    | cons a t =>
      simp only [List.map_cons, List.cons.injEq] at e
      obtain ⟨rfl, e⟩ := e
      exact .cons a (OwM.of e t)
  | [], _ :: _, _, e, _ => by simp at e
  | _ :: _, [], _, e, _ => by simp at e
theorem dpall_row {K : PySem.W.Frag} {F H : Hp} : ∀ {vs : List V} {ds : List PyData}, DqAll K F vs ds → OwE K F H (zP vs ds) [] ∧ vs.length = ds.length
  | _, _, .nil => ⟨.nil, rfl⟩
  | _, _, .cons h t => ⟨.cons (f := []) (g := []) (.p h) (dpall_row t).1, by rw [List.length_cons, List.length_cons, (dpall_row (H := H) t).2]⟩
theorem dpall_of {K : PySem.W.Frag} {F H : Hp} : ∀ {vs : List V} {ds : List PyData} {fp : List Addr}, vs.length = ds.length → OwE K F H (zP vs ds) fp → DqAll K F vs ds
  | [], [], _, _, h => .nil
  | _ :: _, _ :: _, _, e, h => by
    cases h with
    | cons a t =>
      cases a with
      | p a => exact .cons a (dpall_of (by simpa using e) t)
  | [], _ :: _, _, e, _ => by simp at e
  | _ :: _, [], _, e, _ => by simp at e

theorem OwE.mem {K : PySem.W.Frag} {F H : Hp} {o : Option V} {d : PyData} : ∀ {L : Row} {fp : List Addr}, OwE K F H L fp → (o, Slot.p d) ∈ L → ∃ v, o = some v ∧ Dq K F v d
  | _, _, .nil, h => nomatch h
  | _, _, .cons a t, h => by
    rcases List.mem_cons.mp h with z | h
    · cases z
      cases a with
      | p q => exact ⟨_, rfl, q⟩
    · exact OwE.mem t h
/-- THE WORD: what the row holds, each of its own lists its own; R: addresses set aside -/
def Good (K : PySem.W.Frag) (H : Hp) (R : List Addr) (L : Row) : Prop :=
  ∃ (F : Hp) (fp : List Addr), Ex F H ∧ OwE K F H L fp ∧ (R ++ fp).Nodup ∧ (∀ a ∈ R ++ fp, F a = none) ∧ ∀ a ∈ R, H a ≠ none

section
variable {K : PySem.W.Frag} {H H' : Hp} {R : List Addr} {L L' : Row} {o : Option V} {s : Slot} {a p : Addr} {u : HO} {v : V} {d : PyData} {vs : List V} {xs : List Slot} {ds : List PyData}
theorem Good.perm (g : Good K H R L) (h : L.Perm L') : Good K H R L' := by
  obtain ⟨F, fp, e, w, nd, fn, rt⟩ := g
  obtain ⟨fp', pp, w'⟩ := w.perm h
  exact ⟨F, fp', e, w', (List.Perm.append_left R pp).nodup_iff.mp nd, fun a q => fn a ((List.Perm.append_left R pp).mem_iff.mpr q), rt⟩
theorem Good.drop (g : Good K H R ((o, s) :: L)) : Good K H R L := by
  obtain ⟨F, fp, e, w, nd, fn, rt⟩ := g
  cases w with
  | @cons _ _ f g' _ h t =>
    have sub : List.Sublist (R ++ g') (R ++ (f ++ g')) := List.Sublist.append_left (List.sublist_append_right f g') R
    exact ⟨F, g', e, t, nd.sublist sub, fun a q => fn a (sub.subset q), rt⟩
theorem Good.dropApp (g : Good K H R (L ++ L')) : Good K H R L' := by
  induction L with
  | nil => exact g
  | cons x L ih => exact ih (Good.drop (o := x.1) (s := x.2) g)
/-- what stands in the row is known of H -/
theorem Good.dq (g : Good K H R L) (h : (o, Slot.p d) ∈ L) : ∃ v, o = some v ∧ Dq K H v d := by
  obtain ⟨F, fp, e, w, _, _, _⟩ := g
  obtain ⟨v, rfl, q⟩ := w.mem h
  exact ⟨v, rfl, q.mono e⟩
theorem Good.dp (g : Good K H R L) (h : (o, Slot.p d) ∈ L) : ∃ v, o = some v ∧ Dp K H v d := by
  obtain ⟨v, e, q⟩ := g.dq h
  exact ⟨v, e, q.dp⟩
theorem Good.copy (g : Good K H R L) (h : (o, Slot.p d) ∈ L) : Good K H R ((o, .p d) :: L) := by
  obtain ⟨F, fp, e, w, nd, fn, rt⟩ := g
  obtain ⟨v, rfl, q⟩ := w.mem h
  exact ⟨F, fp, e, .cons (f := []) (.p q) w, nd, fn, rt⟩
/-- a plain thing that is known anywhere -/
theorem Good.push (g : Good K H R L) (h : ∀ F, Dq K F v d) : Good K H R ((some v, .p d) :: L) := by
  obtain ⟨F, fp, e, w, nd, fn, rt⟩ := g
  exact ⟨F, fp, e, .cons (f := []) (.p (h F)) w, nd, fn, rt⟩
theorem Good.pushUn (g : Good K H R L) : Good K H R ((o, .un) :: L) := by
  obtain ⟨F, fp, e, w, nd, fn, rt⟩ := g
  exact ⟨F, fp, e, .cons (f := []) .un w, nd, fn, rt⟩
theorem ex_upd {F : Hp} (e : Ex F H) (h : F a = none) : Ex F (upd H a u) := fun b x q => by
  by_cases z : b = a
  · subst z; rw [h] at q; cases q
  · rw [upd_ne z]; exact e b x q
theorem Good.write (g : Good K H R L) (h : a ∈ R) : Good K (upd H a u) R L := by
  obtain ⟨F, fp, e, w, nd, fn, rt⟩ := g
  refine ⟨F, fp, ex_upd e (fn a (List.mem_append_left _ h)), w.mono (Ex.refl F) fun b q => ?_, nd, fn, fun b q => ?_⟩
  · refine upd_ne fun z => ?_
    subst z
    exact (List.nodup_append.mp nd).2.2 b h b q rfl
  · by_cases z : b = a
    · subst z; rw [upd_same]; exact fun z => nomatch z
    · rw [upd_ne z]; exact rt b q
theorem Good.reserve (g : Good K H R L) (h : H p = none) : Good K (upd H p u) (p :: R) L := by
  obtain ⟨F, fp, e, w, nd, fn, rt⟩ := g
  have np : F p = none := by
    cases q : F p with
    | none => rfl
    | some x => rw [e p x q] at h; cases h
  have nf : p ∉ fp := fun z => w.there p z h
  have nr : p ∉ R := fun z => rt p z h
  refine ⟨F, fp, ex_upd e np, w.mono (Ex.refl F) fun b q => upd_ne fun z => nf (z ▸ q), List.nodup_cons.mpr ⟨fun z => (List.mem_append.mp z).elim nr nf, nd⟩, fun b q => ?_, fun b q => ?_⟩
  · rcases List.mem_cons.mp q with rfl | q
    · exact np
    · exact fn b q
  · rcases List.mem_cons.mp q with rfl | q
    · rw [upd_same]; exact fun z => nomatch z
    · rw [upd_ne (fun z => nr (by rw [← z]; exact q))]; exact rt b q
theorem Good.free (g : Good K H (p :: R) L) : Good K H R L := by
  obtain ⟨F, fp, e, w, nd, fn, rt⟩ := g
  exact ⟨F, fp, e, w, (List.nodup_cons.mp nd).2, fun b q => fn b (List.mem_cons_of_mem _ q), fun b q => rt b (List.mem_cons_of_mem _ q)⟩
theorem zS_app_len (h : vs.length = xs.length) : zS vs xs = (vs.map some).zip xs := rfl
theorem Good.open_ (g : Good K H R ((o, .l xs) :: L)) : ∃ a vs, o = some (.ref a) ∧ H a = some (.lst vs) ∧ vs.length = xs.length ∧ Good K H (a :: R) (zS vs xs ++ L) := by
  obtain ⟨F, fp, e, w, nd, fn, rt⟩ := g
  cases w with
  | @cons _ _ f g' _ h t =>
    cases h with
    | @l a vs _ f1 ha hl =>
      obtain ⟨r, len⟩ := hl.row
      have pm : (R ++ (a :: f1 ++ g')).Perm (a :: R ++ (f1 ++ g')) := by
        show (R ++ a :: (f1 ++ g')).Perm (a :: (R ++ (f1 ++ g')))
        exact List.perm_middle
      refine ⟨a, vs, rfl, ha, len, F, f1 ++ g', e, r.app t, pm.nodup_iff.mp nd, fun b q => fn b (pm.mem_iff.mpr q), fun b q => ?_⟩
      rcases List.mem_cons.mp q with rfl | q
      · rw [ha]; exact fun z => nomatch z
      · exact rt b q
theorem Good.close (g : Good K H (a :: R) (zS vs xs ++ L)) (ha : H a = some (.lst vs)) (len : vs.length = xs.length) : Good K H R ((some (.ref a), .l xs) :: L) := by
  obtain ⟨F, fp, e, w, nd, fn, rt⟩ := g
  obtain ⟨f, g', rfl, h1, h2⟩ := w.split
  have pm : (R ++ (a :: f ++ g')).Perm (a :: R ++ (f ++ g')) := by
    show (R ++ a :: (f ++ g')).Perm (a :: (R ++ (f ++ g')))
    exact List.perm_middle
  exact ⟨F, (a :: f) ++ g', e, .cons (.l ha (OwL.of len h1)) h2, pm.nodup_iff.mpr nd, fun b q => fn b (pm.mem_iff.mp q), fun b q => rt b (List.mem_cons_of_mem _ q)⟩
theorem Good.openM {ks : List (Key × Slot)} (g : Good K H R ((o, .m ks) :: L)) : ∃ a vs, o = some (.ref a) ∧ H a = some (.dK vs) ∧ vs.map (·.1) = ks.map (·.1) ∧ Good K H (a :: R) (zM vs ks ++ L) := by
  obtain ⟨F, fp, e, w, nd, fn, rt⟩ := g
  cases w with
  | @cons _ _ f g' _ h t =>
    cases h with
    | @m a vs _ f1 ha hl =>
      obtain ⟨r, len⟩ := hl.row
      have pm : (R ++ (a :: f1 ++ g')).Perm (a :: R ++ (f1 ++ g')) := by
        show (R ++ a :: (f1 ++ g')).Perm (a :: (R ++ (f1 ++ g')))
        exact List.perm_middle
      refine ⟨a, vs, rfl, ha, len, F, f1 ++ g', e, r.app t, pm.nodup_iff.mp nd, fun b q => fn b (pm.mem_iff.mpr q), fun b q => ?_⟩
      rcases List.mem_cons.mp q with rfl | q
      · rw [ha]; exact fun z => nomatch z
      · exact rt b q
theorem Good.closeM {ks : List (Key × Slot)} {vs : List (Key × V)} (g : Good K H (a :: R) (zM vs ks ++ L)) (ha : H a = some (.dK vs)) (len : vs.map (·.1) = ks.map (·.1)) : Good K H R ((some (.ref a), .m ks) :: L) := by
  obtain ⟨F, fp, e, w, nd, fn, rt⟩ := g
  obtain ⟨f, g', rfl, h1, h2⟩ := w.split
  have pm : (R ++ (a :: f ++ g')).Perm (a :: R ++ (f ++ g')) := by
    show (R ++ a :: (f ++ g')).Perm (a :: (R ++ (f ++ g')))
    exact List.perm_middle
  exact ⟨F, (a :: f) ++ g', e, .cons (.m ha (OwM.of len h1)) h2, pm.nodup_iff.mpr nd, fun b q => fn b (pm.mem_iff.mp q), fun b q => rt b (List.mem_cons_of_mem _ q)⟩
/-- a list of plain things stays as it is from now on -/
theorem Good.freeze (g : Good K H (a :: R) (zP vs ds ++ L)) (ha : H a = some (.lst vs)) (len : vs.length = ds.length) : Good K H R ((some (.ref a), .p (.list ds)) :: L) := by
  obtain ⟨F, fp, e, w, nd, fn, rt⟩ := g
  obtain ⟨f, g', rfl, h1, h2⟩ := w.split
  have hF : F a = none := fn a List.mem_cons_self
  have e1 : Ex F (upd F a (.lst vs)) := ex_upd (Ex.refl F) hF
  have ds1 := (dpall_of len h1).mono e1
  have nd2 := List.nodup_cons.mp nd
  have sub : List.Sublist (R ++ g') (R ++ (f ++ g')) := List.Sublist.append_left (List.sublist_append_right f g') R
  refine ⟨upd F a (.lst vs), [] ++ g', fun b x q => ?_, .cons (.p (.lst (.inl (.inl upd_same)) ds1)) (h2.mono e1 fun _ _ => rfl), nd2.2.sublist sub, fun b q => ?_, fun b q => rt b (List.mem_cons_of_mem _ q)⟩
  · by_cases z : b = a
    · subst z; rw [upd_same] at q; cases q; exact ha
    · rw [upd_ne z] at q; exact e b x q
  · have z : b ≠ a := fun z => nd2.1 (z ▸ sub.subset q)
    rw [upd_ne z]; exact fn b (List.mem_cons_of_mem _ (sub.subset q))
/-- a new tuple of plain things: how it is laid -/
def TupHO (ds : List PyData) (vs : List V) (u : HO) : Prop := (rowB ds = true ∧ ∃ o : Obj, u = .frz o (.tup vs) ∧ o.dict = none) ∨ (rowB ds = false ∧ u = .tup vs)
theorem Good.newTup (g : Good K H R (zP vs ds ++ L)) (hp : H p = none) (len : vs.length = ds.length) (hu : TupHO ds vs u) : Good K (upd H p u) R ((some (.ref p), .p (.tuple ds)) :: L) := by
  obtain ⟨F, fp, e, w, nd, fn, rt⟩ := g.reserve (u := u) hp
  obtain ⟨f, g', rfl, h1, h2⟩ := w.split
  have hF : F p = none := fn p List.mem_cons_self
  have e1 : Ex F (upd F p u) := ex_upd (Ex.refl F) hF
  have ds1 := (dpall_of len h1).mono e1
  have nd2 := List.nodup_cons.mp nd
  have sub : List.Sublist (R ++ g') (R ++ (f ++ g')) := List.Sublist.append_left (List.sublist_append_right f g') R
  have tk : TpK K (upd F p u) p vs ds := by
    rcases hu with ⟨h3, o, h4, h5⟩ | ⟨h3, h4⟩
    · exact .inr (.inl ⟨h3, o, by rw [upd_same, h4], h5⟩)
    · exact .inr (.inr ⟨h3, by rw [upd_same, h4]⟩)
  refine ⟨upd F p u, [] ++ g', fun b x q => ?_, .cons (.p (.tup tk ds1)) (h2.mono e1 fun _ _ => rfl), nd2.2.sublist sub, fun b q => ?_, fun b q => rt b (List.mem_cons_of_mem _ q)⟩
  · by_cases z : b = p
    · subst z; rw [upd_same] at q; cases q; exact upd_same
    · rw [upd_ne z] at q; exact e b x q
  · have z : b ≠ p := fun z => nd2.1 (z ▸ sub.subset q)
    rw [upd_ne z]; exact fn b (List.mem_cons_of_mem _ (sub.subset q))
/-- the items of a tuple, of a list that stays -/
theorem Good.items {o : Option V} (g : Good K H R L) (h : (o, Slot.p d) ∈ L) (hd : d = .tuple ds ∨ d = .list ds) : ∃ a vs, o = some (.ref a) ∧ (d = .tuple ds → SqT K H a vs) ∧ (d = .list ds → SqL K H a vs) ∧ vs.length = ds.length ∧ Good K H R (zP vs ds ++ L) := by
  obtain ⟨F, fp, e, w, nd, fn, rt⟩ := g
  obtain ⟨v, rfl, q⟩ := w.mem h
  rcases hd with rfl | rfl
  · cases q with
    | tup hq ha =>
      exact ⟨_, _, rfl, fun _ => Evl.ex_t e hq.sq, fun z => (nomatch z), (dpall_row (H := H) ha).2, F, [] ++ fp, e, (dpall_row ha).1.app w, nd, fn, rt⟩
  · cases q with
    | lst hq ha =>
      exact ⟨_, _, rfl, fun z => (nomatch z), fun _ => Evl.ex_l e hq, (dpall_row (H := H) ha).2, F, [] ++ fp, e, (dpall_row ha).1.app w, nd, fn, rt⟩
end
end MM
/-! M1: what expressions are worth: mirrors over a row of slots, and how a reading follows them -/
namespace MM
open PySem PySem.Spec L2

/-- what is raised: its class by name, the value of its field -/
structure Exn where
  c : Str
  f : Option PyData
abbrev Env := List Slot
/-- an expression's outcome: a thing of its own, or a name's thing as it stands -/
inductive Opd where
  | val (s : Slot)
  | ref (i : Nat)
inductive Res (α : Type) where
  | ok (a : α)
  | ex (x : Exn)
abbrev Mir (α : Type) := Env → Option (Res α × Env)
abbrev ExM := Mir Opd
def bnd {α β : Type} (m : Mir α) (k : α → Mir β) : Mir β := fun env => match m env with
  | none => none
  | some (.ok a, e) => k a e
  | some (.ex x, e) => some (.ex x, e)
def ret {α : Type} (a : α) : Mir α := fun env => some (.ok a, env)
def stuck {α : Type} : Mir α := fun _ => none
theorem bnd_ok {α β : Type} {m : Mir α} {k : α → Mir β} {env e : Env} {a : α} (h : m env = some (.ok a, e)) : bnd m k env = k a e := by
  unfold bnd; rw [h]
theorem bnd_ex {α β : Type} {m : Mir α} {k : α → Mir β} {env e : Env} {x : Exn} (h : m env = some (.ex x, e)) : bnd m k env = some (.ex x, e) := by
  unfold bnd; rw [h]
theorem bnd_assoc {α β γ : Type} (m : Mir α) (k : α → Mir β) (l : β → Mir γ) : bnd (bnd m k) l = bnd m (fun a => bnd (k a) l) := by
  funext env
  unfold bnd
  cases m env with
  | none => rfl
  | some p =>
    obtain ⟨r, e⟩ := p
    cases r <;> rfl
theorem bnd_ret {α β : Type} (a : α) (k : α → Mir β) : bnd (ret a) k = k a := rfl
/-- plain data of a slot: it is plain, or a list of plain things -/
def Slot.p? : Slot → Option PyData
  | .p d => some d
  | _ => none
def allP : List Slot → Option (List PyData)
  | [] => some []
  | .p d :: xs => (allP xs).map (d :: ·)
  | _ :: _ => none
def Slot.dat : Slot → Option PyData
  | .p d => some d
  | .l xs => (allP xs).map .list
  | _ => none
@[simp] theorem allP_map (ds : List PyData) : allP (ds.map .p) = some ds := by
  induction ds with
  | nil => rfl
  | cons d ds ih => show (allP (ds.map Slot.p)).map (d :: ·) = _; rw [ih]; rfl
theorem allP_eq : ∀ {xs : List Slot} {ds : List PyData}, allP xs = some ds → xs = ds.map .p
  | [], ds, h => by cases h; rfl
  | .p d :: xs, ds, h => by
    obtain ⟨es, h1, h2⟩ := Option.map_eq_some_iff.mp (show (allP xs).map (d :: ·) = some ds from h)
    subst h2
    rw [allP_eq h1]; rfl
  | .un :: _, _, h => nomatch h
  | .l _ :: _, _, h => nomatch h
  | .m _ :: _, _, h => nomatch h
def Opd.get (o : Opd) (env : Env) : Slot := match o with
  | .val s => s
  | .ref i => (env[i]?).getD .un
def Opd.slot : Opd → Slot
  | .val s => s
  | .ref _ => .un
def Opd.is (σ : St) (v : V) : Opd → Prop
  | .val _ => True
  | .ref i => σ[i]? = some (some v)
/-- its data now -/
def look (o : Opd) : Mir PyData := fun env => match (o.get env).dat with
  | some d => some (.ok d, env)
  | none => none

structure Ki where
  K : PySem.W.Frag
  cl : Str → Value
def XP (ki : Ki) (x : Exn) (cls : Value) (d : Option Addr) (H : Hp) : Prop :=
  cls = ki.cl x.c ∧ ∀ pd, x.f = some pd → ∃ dd fs v, d = some dd ∧ H dd = some (.xd fs) ∧ fs.lookup ("line" : Str) = some v ∧ ∀ F, Dq ki.K F v pd

abbrev G (ki : Ki) (H : Hp) (L : Row) : Prop := Good ki.K H [] L
abbrev zE (σ : St) (env : Env) : Row := σ.zip env

/-- what an expression's end may lean on -/
def Pst (ki : Ki) (W : WX) (σ : St) (T : Row) (Q : VK) (n : Nat) : Res Opd → Env → Prop
  | .ok o, env' => ∀ v H', env'.length = n → G ki H' (zE σ env' ++ (some v, o.slot) :: T) → o.is σ v → Q v H'
  | .ex x, env' => ∀ cls d H', env'.length = n → G ki H' (zE σ env' ++ T) → XP ki x cls d H' → W cls d σ H'
def Rd (ki : Ki) (W : WX) (te : TE) (m : ExM) : Prop :=
  ∀ (σ : St) (H : Hp) (env : Env) (T : Row) (r : Res Opd) (env' : Env), σ.length = env.length → G ki H (zE σ env ++ T) → m env = some (r, env') → ∀ Q : VK, Pst ki W σ T Q env.length r env' → te σ H Q
def PstT (ki : Ki) (W : WX) (σ : St) (T : Row) (Q : Bool → Hp → Prop) (n : Nat) : Res Bool → Env → Prop
  | .ok b, env' => ∀ H', env'.length = n → G ki H' (zE σ env' ++ T) → Q b H'
  | .ex x, env' => ∀ cls d H', env'.length = n → G ki H' (zE σ env' ++ T) → XP ki x cls d H' → W cls d σ H'
def RdT (ki : Ki) (W : WX) (tt : TT) (m : Mir Bool) : Prop :=
  ∀ (σ : St) (H : Hp) (env : Env) (T : Row) (r : Res Bool) (env' : Env), σ.length = env.length → G ki H (zE σ env ++ T) → m env = some (r, env') → ∀ Q : Bool → Hp → Prop, PstT ki W σ T Q env.length r env' → tt σ H Q
/-- argument lists -/
def zO (vs : List V) (os : List Opd) : Row := (vs.map some).zip (os.map Opd.slot)
def isAll (σ : St) : List V → List Opd → Prop
  | [], [] => True
  | v :: vs, o :: os => o.is σ v ∧ isAll σ vs os
  | _, _ => False
def PstA (ki : Ki) (W : WX) (σ : St) (T : Row) (Q : List V → Hp → Prop) (n : Nat) : Res (List Opd) → Env → Prop
  | .ok os, env' => ∀ vs H', env'.length = n → G ki H' (zE σ env' ++ (zO vs os ++ T)) → isAll σ vs os → Q vs H'
  | .ex x, env' => ∀ cls d H', env'.length = n → G ki H' (zE σ env' ++ T) → XP ki x cls d H' → W cls d σ H'
def RdA (ki : Ki) (W : WX) (ta : TA) (m : Mir (List Opd)) : Prop :=
  ∀ (σ : St) (H : Hp) (env : Env) (T : Row) (r : Res (List Opd)) (env' : Env), σ.length = env.length → G ki H (zE σ env ++ T) → m env = some (r, env') → ∀ Q : List V → Hp → Prop, PstA ki W σ T Q env.length r env' → ta σ H Q

theorem dropMid {ki : Ki} {H : Hp} {A E T : Row} (g : G ki H (A ++ (E ++ T))) : G ki H (A ++ T) := by
  have p : (A ++ (E ++ T)).Perm (E ++ (A ++ T)) := by
    rw [← List.append_assoc, ← List.append_assoc]
    exact List.Perm.append_right _ List.perm_append_comm
  exact Good.dropApp (g.perm p)

section
variable {ki : Ki} {W : WX} {ta tb te : TE} {tt : TT} {tas : TA} {ma mb : ExM} {mt : Mir Bool} {ms : Mir (List Opd)} {σ : St} {H : Hp} {env env' : Env} {E T : Row}
/-- the use of a part: E are the things that wait meanwhile -/
theorem Rd.use {k : Opd → ExM} {r : Res Opd} {Q : VK} (h : Rd ki W te ma) (hl : σ.length = env.length) (g : G ki H (zE σ env ++ (E ++ T))) (e : bnd ma k env = some (r, env')) (post : Pst ki W σ T Q env.length r env') {Q1 : VK}
    (go : ∀ o v H1 env1, env1.length = env.length → G ki H1 (zE σ env1 ++ ((some v, o.slot) :: (E ++ T))) → o.is σ v → k o env1 = some (r, env') → Q1 v H1) : te σ H Q1 := by
  unfold bnd at e
  cases hm : ma env with
  | none => rw [hm] at e; cases e
  | some p =>
    obtain ⟨r1, e1⟩ := p
    rw [hm] at e
    cases r1 with
    | ok o => exact h σ H env (E ++ T) _ _ hl g hm Q1 fun v H1 hn g1 ho => go o v H1 e1 hn g1 ho e
    | ex x =>
      cases e
      exact h σ H env (E ++ T) _ _ hl g hm Q1 fun cls d H1 hn g1 hx => post cls d H1 hn (dropMid g1) hx
theorem RdT.use {k : Bool → ExM} {r : Res Opd} {Q : VK} (h : RdT ki W tt mt) (hl : σ.length = env.length) (g : G ki H (zE σ env ++ (E ++ T))) (e : bnd mt k env = some (r, env')) (post : Pst ki W σ T Q env.length r env') {Q1 : Bool → Hp → Prop}
    (go : ∀ b H1 env1, env1.length = env.length → G ki H1 (zE σ env1 ++ (E ++ T)) → k b env1 = some (r, env') → Q1 b H1) : tt σ H Q1 := by
  unfold bnd at e
  cases hm : mt env with
  | none => rw [hm] at e; cases e
  | some p =>
    obtain ⟨r1, e1⟩ := p
    rw [hm] at e
    cases r1 with
    | ok o => exact h σ H env (E ++ T) _ _ hl g hm Q1 fun H1 hn g1 => go o H1 e1 hn g1 e
    | ex x =>
      cases e
      exact h σ H env (E ++ T) _ _ hl g hm Q1 fun cls d H1 hn g1 hx => post cls d H1 hn (dropMid g1) hx
theorem RdT.useT {k : Bool → Mir Bool} {r : Res Bool} {Q : Bool → Hp → Prop} (h : RdT ki W tt mt) (hl : σ.length = env.length) (g : G ki H (zE σ env ++ (E ++ T))) (e : bnd mt k env = some (r, env')) (post : PstT ki W σ T Q env.length r env') {Q1 : Bool → Hp → Prop}
    (go : ∀ b H1 env1, env1.length = env.length → G ki H1 (zE σ env1 ++ (E ++ T)) → k b env1 = some (r, env') → Q1 b H1) : tt σ H Q1 := by
  unfold bnd at e
  cases hm : mt env with
  | none => rw [hm] at e; cases e
  | some p =>
    obtain ⟨r1, e1⟩ := p
    rw [hm] at e
    cases r1 with
    | ok o => exact h σ H env (E ++ T) _ _ hl g hm Q1 fun H1 hn g1 => go o H1 e1 hn g1 e
    | ex x =>
      cases e
      exact h σ H env (E ++ T) _ _ hl g hm Q1 fun cls d H1 hn g1 hx => post cls d H1 hn (dropMid g1) hx
theorem Rd.useT {k : Opd → Mir Bool} {r : Res Bool} {Q : Bool → Hp → Prop} (h : Rd ki W te ma) (hl : σ.length = env.length) (g : G ki H (zE σ env ++ (E ++ T))) (e : bnd ma k env = some (r, env')) (post : PstT ki W σ T Q env.length r env') {Q1 : VK}
    (go : ∀ o v H1 env1, env1.length = env.length → G ki H1 (zE σ env1 ++ ((some v, o.slot) :: (E ++ T))) → o.is σ v → k o env1 = some (r, env') → Q1 v H1) : te σ H Q1 := by
  unfold bnd at e
  cases hm : ma env with
  | none => rw [hm] at e; cases e
  | some p =>
    obtain ⟨r1, e1⟩ := p
    rw [hm] at e
    cases r1 with
    | ok o => exact h σ H env (E ++ T) _ _ hl g hm Q1 fun v H1 hn g1 ho => go o v H1 e1 hn g1 ho e
    | ex x =>
      cases e
      exact h σ H env (E ++ T) _ _ hl g hm Q1 fun cls d H1 hn g1 hx => post cls d H1 hn (dropMid g1) hx
theorem RdA.use {k : List Opd → ExM} {r : Res Opd} {Q : VK} (h : RdA ki W tas ms) (hl : σ.length = env.length) (g : G ki H (zE σ env ++ (E ++ T))) (e : bnd ms k env = some (r, env')) (post : Pst ki W σ T Q env.length r env') {Q1 : List V → Hp → Prop}
    (go : ∀ os vs H1 env1, env1.length = env.length → G ki H1 (zE σ env1 ++ (zO vs os ++ (E ++ T))) → isAll σ vs os → k os env1 = some (r, env') → Q1 vs H1) : tas σ H Q1 := by
  unfold bnd at e
  cases hm : ms env with
  | none => rw [hm] at e; cases e
  | some p =>
    obtain ⟨r1, e1⟩ := p
    rw [hm] at e
    cases r1 with
    | ok o => exact h σ H env (E ++ T) _ _ hl g hm Q1 fun v H1 hn g1 ho => go o v H1 e1 hn g1 ho e
    | ex x =>
      cases e
      exact h σ H env (E ++ T) _ _ hl g hm Q1 fun cls d H1 hn g1 hx => post cls d H1 hn (dropMid g1) hx

/-! ### argument lists -/
def mNil : Mir (List Opd) := ret []
def mCons (m : ExM) (ms : Mir (List Opd)) : Mir (List Opd) := bnd m fun o => bnd ms fun os => ret (o :: os)
theorem rda_nil : RdA ki W tNil mNil := fun σ H env T r env' hl g e Q post => by
  cases e
  exact post [] H rfl g trivial
theorem rda_cons (ha : Rd ki W ta ma) (hs : RdA ki W tas ms) : RdA ki W (tCons ta tas) (mCons ma ms) := fun σ H env T r env' hl g e Q post => by
  unfold mCons at e
  unfold bnd at e
  cases hm : ma env with
  | none => rw [hm] at e; cases e
  | some p =>
    obtain ⟨r1, e1⟩ := p
    rw [hm] at e
    cases r1 with
    | ex x =>
      cases e
      exact ha σ H env T _ _ hl g hm _ post
    | ok o =>
      refine ha σ H env T _ _ hl g hm _ fun v H1 hn g1 ho => ?_
      have e : bnd ms (fun os => ret (o :: os)) e1 = some (r, env') := e
      unfold bnd at e
      cases hm2 : ms e1 with
      | none => rw [hm2] at e; cases e
      | some p =>
        obtain ⟨r2, e2⟩ := p
        rw [hm2] at e
        cases r2 with
        | ex x =>
          cases e
          exact hs σ H1 e1 _ _ _ (hl.trans hn.symm) g1 hm2 _ fun cls d H2 hn2 g2 hx => post cls d H2 (hn2.trans hn) (dropMid (E := [_]) g2) hx
        | ok os =>
          cases e
          refine hs σ H1 e1 _ _ _ (hl.trans hn.symm) g1 hm2 _ fun vs H2 hn2 g2 hi => post (v :: vs) H2 (hn2.trans hn) (g2.perm (List.Perm.append_left _ ?_)) ⟨ho, hi⟩
          exact List.perm_middle
end

/-! ### what stands in the row -/
theorem zE_mem {σ : St} {env : Env} {i : Nat} {o : Option V} {s : Slot} (h1 : σ[i]? = some o) (h2 : env[i]? = some s) : (o, s) ∈ zE σ env := by
  have : (zE σ env)[i]? = some (o, s) := by
    show (List.zip σ env)[i]? = _
    rw [List.getElem?_zip_eq_some]
    exact ⟨h1, h2⟩
  exact List.mem_of_getElem? this
theorem Opd.mem {σ : L2.St} {env : Env} {o : Opd} {v : V} {T : Row} (ho : o.is σ v) (hd : o.get env ≠ .un) (hv : ∀ s, o = .val s → (some v, s) ∈ T) : (some v, o.get env) ∈ zE σ env ++ T := by
  cases o with
  | val s => exact List.mem_append_right _ (hv s rfl)
  | ref i =>
    refine List.mem_append_left _ (zE_mem ho ?_)
    show env[i]? = some ((env[i]?).getD .un)
    cases q : env[i]? with
    | none => exact absurd (show (env[i]?).getD .un = .un by rw [q]; rfl) hd
    | some s => rfl
theorem dat_ne {s : Slot} {d : PyData} (h : s.dat = some d) : s ≠ .un := fun e => by subst e; cases h
theorem Opd.memD {σ : L2.St} {env : Env} {o : Opd} {v : V} {d : PyData} {A B : Row} (ho : o.is σ v) (hd : (o.get env).dat = some d) : (some v, o.get env) ∈ zE σ env ++ (A ++ ((some v, o.slot) :: B)) :=
  Opd.mem ho (dat_ne hd) fun s e => by subst e; exact List.mem_append_right _ List.mem_cons_self

section
variable {ki : Ki} {H : Hp} {R : List Addr} {L : Row} {x : V} {s : Slot} {d : PyData} {ds : List PyData} {vs : List V}
theorem Good.dpAll {K : PySem.W.Frag} (g : Good K H R (zP vs ds ++ L)) (len : vs.length = ds.length) : DpAll K H vs ds := by
  obtain ⟨F, fp, e, w, nd, fn, rt⟩ := g
  obtain ⟨f, g', rfl, h1, h2⟩ := w.split
  exact ((dpall_of len h1).mono e).dp
theorem mem_perm {x : Option V × Slot} {L : Row} (h : x ∈ L) : ∃ L', L.Perm (x :: L') := by
  obtain ⟨A, B, rfl⟩ := List.append_of_mem h
  exact ⟨A ++ B, List.perm_middle⟩
theorem zS_map (vs : List V) (ds : List PyData) : zS vs (ds.map .p) = zP vs ds := rfl
theorem Good.elems {K : PySem.W.Frag} {A : Row} (g : Good K H R (zP vs ds ++ L)) : ∀ A : Row, (∀ x ∈ A, x ∈ zP vs ds) → Good K H R (A ++ (zP vs ds ++ L)) := by
  intro A
  induction A with
  | nil => intro _; exact g
  | cons x A ih =>
    intro h
    have h1 := ih fun y hy => h y (List.mem_cons_of_mem _ hy)
    obtain ⟨v, d, e⟩ : ∃ (v : Option V) (d : PyData), x = (v, .p d) := by
      have hx := h x List.mem_cons_self
      obtain ⟨i, hi⟩ := List.getElem?_of_mem hx
      have := List.getElem?_zip_eq_some.mp hi
      have h2 := this.2
      rw [List.getElem?_map] at h2
      obtain ⟨d, _, e⟩ := Option.map_eq_some_iff.mp h2
      exact ⟨x.1, d, by rw [e]⟩
    subst e
    exact h1.copy (List.mem_append_right _ (List.mem_append_left _ (h _ List.mem_cons_self)))
/-- the row with its list's items laid beside -/
theorem Good.view {K : PySem.W.Frag} (g : Good K H R L) (hm : (some x, s) ∈ L) (hd : s.dat = some d) (hk : d = .tuple ds ∨ d = .list ds) :
    ∃ a vs, x = .ref a ∧ (d = .tuple ds → SqT K H a vs) ∧ (d = .list ds → SqL K H a vs) ∧ vs.length = ds.length ∧ Good K H R (zP vs ds ++ L) := by
  cases s with
  | un => cases hd
  | m _ => cases hd
  | p d' =>
    cases hd
    obtain ⟨a, vs, e, h1, h2, h3, h4⟩ := g.items hm hk
    cases e
    exact ⟨a, vs, rfl, h1, h2, h3, h4⟩
  | l xs =>
    obtain ⟨es, h1, h2⟩ := Option.map_eq_some_iff.mp (show (allP xs).map PyData.list = some d from hd)
    subst h2
    rcases hk with hk | hk
    · cases hk
    · cases hk
      have hx := allP_eq h1
      subst hx
      obtain ⟨L', p⟩ := mem_perm hm
      obtain ⟨a, vs, e, ha, len, g2⟩ := (g.perm p).open_
      cases e
      rw [List.length_map] at len
      rw [zS_map] at g2
      refine ⟨a, vs, rfl, fun z => (nomatch z), fun _ => SqL.of ha, len, ?_⟩
      -- lay the items twice, close one
      have g3 := Good.elems (A := zP vs ds) g2 (zP vs ds) (fun _ h => h)
      have g4 : Good K H (a :: R) (zS vs (ds.map .p) ++ (zP vs ds ++ L')) := g3
      have g5 := g4.close ha (by rw [List.length_map]; exact len)
      refine g5.perm ?_
      exact (List.perm_middle.symm).trans (List.Perm.append_left _ p.symm)
theorem Good.datDp {K : PySem.W.Frag} (g : Good K H R L) (hm : (some x, s) ∈ L) (hd : s.dat = some d) : Dp K H x d := by
  cases s with
  | un => cases hd
  | m _ => cases hd
  | p d' =>
    cases hd
    obtain ⟨v, e, h⟩ := g.dp hm
    cases e
    exact h
  | l xs =>
    obtain ⟨es, h1, h2⟩ := Option.map_eq_some_iff.mp (show (allP xs).map PyData.list = some d from hd)
    subst h2
    obtain ⟨a, vs, rfl, _, hl, len, g2⟩ := g.view (ds := es) hm hd (.inr rfl)
    exact .lst (hl rfl) (g2.dpAll len)
end

/-! ### operations -/
def ofO (o : Option Slot) : ExM := fun env => o.map fun s => (.ok (.val s), env)
/-- two-place operations -/
def OpG (ki : Ki) (r : R2) (g : PyData → PyData → Option Slot) : Prop := ∀ (H : Hp) (L : Row) (x y : V) (sx sy : Slot) (d e : PyData) (s : Slot), G ki H L → (some x, sx) ∈ L → sx.dat = some d → (some y, sy) ∈ L → sy.dat = some e → g d e = some s →
  ∀ Q : VK, (∀ v H', G ki H' ((some v, s) :: L) → Q v H') → r x y H Q
def mOp (g : PyData → PyData → Option Slot) (ma mb : ExM) : ExM := bnd ma fun o1 => bnd mb fun o2 => bnd (look o1) fun d => bnd (look o2) fun e => ofO (g d e)
theorem look_inv {α : Type} {o : Opd} {k : PyData → Mir α} {env env' : Env} {r : Res α} (h : bnd (look o) k env = some (r, env')) : ∃ d, (o.get env).dat = some d ∧ k d env = some (r, env') := by
  unfold bnd look at h
  cases q : (o.get env).dat with
  | none => rw [q] at h; cases h
  | some d => rw [q] at h; exact ⟨d, rfl, h⟩
theorem ofO_inv {o : Option Slot} {env env' : Env} {r : Res Opd} (h : ofO o env = some (r, env')) : ∃ s, o = some s ∧ r = .ok (.val s) ∧ env' = env := by
  obtain ⟨s, h1, h2⟩ := Option.map_eq_some_iff.mp (show o.map _ = some (r, env') from h)
  cases h2
  exact ⟨s, h1, rfl, rfl⟩
/-- the new thing goes to its place, what waited goes -/
theorem settle {ki : Ki} {H : Hp} {A E T : Row} {x : Option V × Slot} (g : G ki H (x :: (A ++ (E ++ T)))) : G ki H (A ++ x :: T) := by
  have g1 : G ki H ((x :: A) ++ (E ++ T)) := g
  have g2 := dropMid g1
  exact g2.perm (List.perm_middle.symm)
section
variable {ki : Ki} {W : WX} {ta tb te : TE} {tas : TA} {ma mb : ExM} {ms : Mir (List Opd)}
theorem rd_op {r : R2} {g : PyData → PyData → Option Slot} (h : OpG ki r g) (ha : Rd ki W ta ma) (hb : Rd ki W tb mb) : Rd ki W (tOp r ta tb) (mOp g ma mb) := fun σ H env T r' env' hl gd e Q post => by
  refine ha.use (E := []) hl gd e post fun o1 v1 H1 env1 n1 g1 i1 e => ?_
  refine hb.use (E := [(some v1, o1.slot)]) (hl.trans n1.symm) g1 e (by rw [n1]; exact post) fun o2 v2 H2 env2 n2 g2 i2 e => ?_
  obtain ⟨d1, q1, e⟩ := look_inv e
  obtain ⟨d2, q2, e⟩ := look_inv e
  obtain ⟨s, hs, rfl, rfl⟩ := ofO_inv e
  refine h H2 _ v1 v2 _ _ d1 d2 s g2 (Opd.memD (A := [(some v2, o2.slot)]) i1 q1) q1 (Opd.memD (A := []) i2 q2) q2 hs Q fun v H' g3 => ?_
  exact post v H' (n2.trans n1) (settle (E := [(some v2, o2.slot), (some v1, o1.slot)]) g3) trivial
/-- one-place operations, attributes .. -/
def UnG (ki : Ki) (r : V → Hp → VK → Prop) (g : PyData → Option Slot) : Prop := ∀ (H : Hp) (L : Row) (x : V) (sx : Slot) (d : PyData) (s : Slot), G ki H L → (some x, sx) ∈ L → sx.dat = some d → g d = some s →
  ∀ Q : VK, (∀ v H', G ki H' ((some v, s) :: L) → Q v H') → r x H Q
def mUn (g : PyData → Option Slot) (ma : ExM) : ExM := bnd ma fun o1 => bnd (look o1) fun d => ofO (g d)
theorem rd_un {r : V → Hp → VK → Prop} {g : PyData → Option Slot} (h : UnG ki r g) (ha : Rd ki W ta ma) : Rd ki W (tUn r ta) (mUn g ma) := fun σ H env T r' env' hl gd e Q post => by
  refine ha.use (E := []) hl gd e post fun o1 v1 H1 env1 n1 g1 i1 e => ?_
  obtain ⟨d1, q1, e⟩ := look_inv e
  obtain ⟨s, hs, rfl, rfl⟩ := ofO_inv e
  refine h H1 _ v1 _ d1 s g1 (Opd.memD (A := []) i1 q1) q1 hs Q fun v H' g3 => ?_
  exact post v H' n1 (settle (E := [(some v1, o1.slot)]) g3) trivial
/-- calls of built-ins -/
def lookAll : List Opd → Mir (List PyData)
  | [] => ret []
  | o :: os => bnd (look o) fun d => bnd (lookAll os) fun ds => ret (d :: ds)
inductive Args (L : Row) : List V → List PyData → Prop
  | nil : Args L [] []
  | cons {v : V} {s : Slot} {d : PyData} {vs : List V} {ds : List PyData} : (some v, s) ∈ L → s.dat = some d → Args L vs ds → Args L (v :: vs) (d :: ds)
theorem Args.sub {L L' : Row} (h : ∀ x ∈ L, x ∈ L') : ∀ {vs : List V} {ds : List PyData}, Args L vs ds → Args L' vs ds
  | _, _, .nil => .nil
  | _, _, .cons a b c => .cons (h _ a) b (Args.sub h c)
def CallG (ki : Ki) (r : List V → Hp → VK → Prop) (g : List PyData → Option Slot) : Prop := ∀ (H : Hp) (L : Row) (vs : List V) (ds : List PyData) (s : Slot), G ki H L → Args L vs ds → g ds = some s →
  ∀ Q : VK, (∀ v H', G ki H' ((some v, s) :: L) → Q v H') → r vs H Q
def mCall (g : List PyData → Option Slot) (ms : Mir (List Opd)) : ExM := bnd ms fun os => bnd (lookAll os) fun ds => ofO (g ds)
theorem lookAll_inv {α : Type} {σ : L2.St} {env env' : Env} {B : Row} : ∀ {os : List Opd} {k : List PyData → Mir α} {r : Res α} {vs : List V}, bnd (lookAll os) k env = some (r, env') → isAll σ vs os → ∃ ds, Args (zE σ env ++ (zO vs os ++ B)) vs ds ∧ k ds env = some (r, env')
  | [], k, r, [], h, _ => ⟨[], .nil, h⟩
  | o :: os, k, r, v :: vs, h, ⟨h1, h2⟩ => by
    have h' : bnd (look o) (fun d => bnd (lookAll os) fun ds => k (d :: ds)) env = some (r, env') := by
      have q : bnd (lookAll (o :: os)) k = bnd (look o) (fun d => bnd (lookAll os) fun ds => k (d :: ds)) := by
        show bnd (bnd (look o) fun d => bnd (lookAll os) fun ds => ret (d :: ds)) k = _
        simp only [bnd_assoc, bnd_ret]
      rw [← q]; exact h
    obtain ⟨d, q, h'⟩ := look_inv h'
    obtain ⟨ds, a, h''⟩ := lookAll_inv (B := B) h' h2
    refine ⟨d :: ds, .cons (Opd.memD (A := []) h1 q) q (a.sub fun x hx => ?_), h''⟩
    rcases List.mem_append.mp hx with hx | hx
    · exact List.mem_append_left _ hx
    · exact List.mem_append_right _ (List.mem_cons_of_mem _ hx)
  | [], _, _, _ :: _, _, h => h.elim
  | _ :: _, _, _, [], _, h => h.elim
theorem rd_call {r : List V → Hp → VK → Prop} {g : List PyData → Option Slot} (h : CallG ki r g) (ha : RdA ki W tas ms) : Rd ki W (tCB r tas) (mCall g ms) := fun σ H env T r' env' hl gd e Q post => by
  refine ha.use (E := []) hl gd e post fun os vs H1 env1 n1 g1 i1 e => ?_
  obtain ⟨ds, a, e⟩ := lookAll_inv (B := T) e i1
  obtain ⟨s, hs, rfl, rfl⟩ := ofO_inv e
  refine h H1 _ vs ds s g1 a hs Q fun v H' g3 => ?_
  exact post v H' n1 (settle (E := zO vs os) g3) trivial
/-- methods of built-in types, by data -/
def MtG (ki : Ki) (r : V → List V → Hp → VK → Prop) (ty : V → Hp → Prop) (g : PyData → List PyData → Option Slot) : Prop := ∀ (H : Hp) (L : Row) (x : V) (sx : Slot) (d : PyData) (vs : List V) (ds : List PyData) (s : Slot), G ki H L → (some x, sx) ∈ L → sx.dat = some d → Args L vs ds → g d ds = some s →
  ∀ Q : VK, (∀ v H', G ki H' ((some v, s) :: L) → Q v H') → r x vs H Q
end
end MM
/-! M2: names, constants, tests, displays, what is walked, comprehensions -/
namespace L2
open PySem PySem.Spec PyProof.Rows
/-- a new tuple, tracked as it is, or known to the object: as the reading wants -/
def hoT (k : Bool) (ob : Obj) (xs : List V) : HO := if k = true then .frz ob (.tup xs) else .tup xs
section
variable {X : Cx} {es : List Expr} {t : TA} {pos : Pos}
def tTupC (t : TA) : TE := fun σ H Q => t σ H fun xs H1 => xs.length ≤ sizeLine ∧ ∀ p, H1 p = none → ∃ k : Bool, ∀ ob : Obj, ob.dict = none → Q (.ref p) (upd H1 p (hoT k ob xs))
theorem okT {P : Program} {w : World} {H : Hp} {h : Heap} {a : Addr} {ob : Obj} {xs : List V} (k : Bool) (e : h.get? a = some ob) (o : ObjOk P w H h a (.tup xs)) : ObjOk P w H h a (hoT k ob xs) := by
  cases k with
  | true => exact ⟨e, o⟩
  | false => exact o
theorem pe_tupC {x1} (h : PA X es t) : PE X (.Tuple es x1 pos) (tTupC t) := by
  refine ⟨fun pins s σ H Q I hq => ?_⟩
  refine wpAny_Tuple_spliced (thn (h.run pos pins s σ H _ I hq) fun us s1 ⟨xs, H1, I1, r, z, q⟩ => ⟨by rw [← r.length]; exact z, ?_⟩)
  have hf : H1 s1.heap.objs.size = none := I1.hok.fresh (Nat.le_refl _)
  obtain ⟨k, q⟩ := q _ hf
  refine ⟨.ref s1.heap.objs.size, upd H1 s1.heap.objs.size (hoT k _ xs), I1.laid (t' := s1.toks) (fun b u e => Heap.get?_push_of_some _ e) (Nat.le_refl _) (okT k (Heap.get?_push_size _ rfl) ?_), rfl, q _ rfl⟩
  exact ⟨z, us, r, ⟨_, Heap.get?_push_size _ rfl, rfl, _, rfl⟩⟩
end
end L2
namespace MM
open PySem PySem.Spec L2
theorem hoT_ok {ds : List PyData} {vs : List V} {ob : Obj} (h : ob.dict = none) : TupHO ds vs (hoT (rowB ds) ob vs) := by
  cases q : rowB ds with
  | true => exact .inl ⟨q, ob, rfl, h⟩
  | false => exact .inr ⟨q, rfl⟩

section
variable {ki : Ki} {W : WX} {ta tb te : TE} {tt tu : TT} {tas : TA} {ma mb : ExM} {mt mu : Mir Bool} {ms : Mir (List Opd)}
theorem lenGet {σ : L2.St} {env : Env} {i : Nat} {s : Slot} (hl : σ.length = env.length) (h : env[i]? = some s) : ∃ o, σ[i]? = some o := by
  have : i < env.length := (List.getElem?_eq_some_iff.mp h).1
  exact ⟨σ[i]'(by omega), List.getElem?_eq_getElem (by omega)⟩
theorem Good.owned {K : PySem.W.Frag} {H : Hp} {R : List Addr} {L : Row} {o : Option V} {s : Slot} (g : Good K H R L) (h : (o, s) ∈ L) (hs : s ≠ .un) : ∃ v, o = some v := by
  obtain ⟨L', p⟩ := mem_perm h
  cases s with
  | un => exact absurd rfl hs
  | p d => obtain ⟨v, e, _⟩ := g.dp h; exact ⟨v, e⟩
  | l xs => obtain ⟨a, vs, e, _⟩ := (g.perm p).open_; exact ⟨_, e⟩
  | m ks => obtain ⟨a, vs, e, _⟩ := (g.perm p).openM; exact ⟨_, e⟩
/-- a thing goes on top -/
theorem toTop {ki : Ki} {H : Hp} {A T : Row} {x : Option V × Slot} (g : G ki H (x :: (A ++ T))) : G ki H (A ++ x :: T) := g.perm List.perm_middle.symm
/-- a name -/
def mVar (i : Nat) : ExM := fun env => match env[i]? with
  | some (.p d) => some (.ok (.val (.p d)), env)
  | some (.l _) => some (.ok (.ref i), env)
  | some (.m _) => some (.ok (.ref i), env)
  | _ => none
theorem rd_var {i : Nat} : Rd ki W (tVar i) (mVar i) := fun σ H env T r env' hl g e Q post => by
  unfold mVar at e
  cases q : env[i]? with
  | none => rw [q] at e; cases e
  | some s =>
    obtain ⟨o, ho⟩ := lenGet hl q
    have hm : (o, s) ∈ zE σ env ++ T := List.mem_append_left _ (zE_mem ho q)
    rw [q] at e
    cases s with
    | un => cases e
    | p d =>
      cases e
      obtain ⟨v, rfl, _⟩ := g.dp hm
      exact ⟨v, ho, post v H rfl (toTop (g.copy hm)) trivial⟩
    | l xs =>
      cases e
      obtain ⟨v, rfl⟩ := g.owned hm (fun z => nomatch z)
      exact ⟨v, ho, post v H rfl (toTop g.pushUn) ho⟩
    | m xs =>
      cases e
      obtain ⟨v, rfl⟩ := g.owned hm (fun z => nomatch z)
      exact ⟨v, ho, post v H rfl (toTop g.pushUn) ho⟩
/-- a constant -/
def mC (d : PyData) : ExM := ret (.val (.p d))
theorem rd_c {v : V} {d : PyData} (h : ∀ F, Dq ki.K F v d) : Rd ki W (tC v) (mC d) := fun σ H env T r env' hl g e Q post => by
  cases e
  exact post v H rfl (toTop (g.push h)) trivial

/-! ### tests -/
def truD : PyData → Option Bool
  | .none => some false
  | .bool b => some b
  | .int i => some (i != 0)
  | .str x => if x.length ≤ 1000000 then some ((x.length : Int) != 0) else none
  | .list xs => some (!xs.isEmpty)
  | .tuple xs => some (!xs.isEmpty)
  | .dict _ => none
def ofT (o : Option Bool) : Mir Bool := fun env => o.map fun b => (.ok b, env)
theorem ofT_inv {o : Option Bool} {env env' : Env} {r : Res Bool} (h : ofT o env = some (r, env')) : ∃ s, o = some s ∧ r = .ok s ∧ env' = env := by
  obtain ⟨s, h1, h2⟩ := Option.map_eq_some_iff.mp (show o.map _ = some (r, env') from h)
  cases h2
  exact ⟨s, h1, rfl, rfl⟩
theorem ofT_invK {α : Type} {o : Option Bool} {k : Bool → Mir α} {env env' : Env} {r : Res α} (h : bnd (ofT o) k env = some (r, env')) : ∃ s, o = some s ∧ k s env = some (r, env') := by
  unfold bnd ofT at h
  cases o with
  | none => cases h
  | some b => exact ⟨b, rfl, h⟩
theorem big_le {n : Nat} (h : n ≤ 1000000) : n ≤ sizeLine := Nat.le_trans h (by decide)
theorem tru_dp {K : PySem.W.Frag} {H : Hp} {v : V} {d : PyData} {b : Bool} (h : Dp K H v d) (e : truD d = some b) : TruV K v H b := by
  cases h with
  | non => cases e; rfl
  | bl b => cases e; rfl
  | int i => cases e; rfl
  | str x =>
    have e : (if x.length ≤ 1000000 then some ((x.length : Int) != 0) else none) = some b := e
    by_cases hz : x.length ≤ 1000000
    · rw [if_pos hz] at e
      cases e
      exact ⟨big_le hz, rfl⟩
    · rw [if_neg hz] at e; cases e
  | @lst a xs ds hq ha =>
    cases e
    refine .inl ⟨xs, hq, ?_⟩
    cases ha <;> rfl
  | @tup a xs ds hq ha =>
    cases e
    refine .inr (.inl ⟨xs, hq, ?_⟩)
    cases ha <;> rfl
def mTruth (ma : ExM) : Mir Bool := bnd ma fun o => bnd (look o) fun d => ofT (truD d)
abbrev tTru (K : PySem.W.Frag) (ta : TE) : TT := fun σ H Q => ta σ H fun x H' => ∃ k, TruV K x H' k ∧ Q k H'
theorem dropTop {ki : Ki} {H : Hp} {A T : Row} {x : Option V × Slot} (g : G ki H (A ++ x :: T)) : G ki H (A ++ T) := dropMid (E := [x]) g
theorem rdt_truth (ha : Rd ki W ta ma) : RdT ki W (tTru ki.K ta) (mTruth ma) := fun σ H env T r env' hl g e Q post => by
  refine ha.useT (E := []) hl g e post fun o1 v1 H1 env1 n1 g1 i1 e => ?_
  obtain ⟨d1, q1, e⟩ := look_inv e
  obtain ⟨b, hb, rfl, rfl⟩ := ofT_inv e
  exact ⟨b, tru_dp (g1.datDp (Opd.memD (A := []) i1 q1) q1) hb, post H1 n1 (dropTop g1)⟩
/-- a comparison as a test: its value is a bool -/
def boD : PyData → Option Bool
  | .bool b => some b
  | _ => none
def mTest (ma : ExM) : Mir Bool := bnd ma fun o => bnd (look o) fun d => ofT (boD d)
theorem bo_dp {K : PySem.W.Frag} {H : Hp} {v : V} {d : PyData} {b : Bool} (h : Dp K H v d) (e : boD d = some b) : v = .bl b := by
  cases h <;> first | (cases e; rfl) | cases e
theorem rdt_test (ha : Rd ki W ta ma) : RdT ki W (tTest ta) (mTest ma) := fun σ H env T r env' hl g e Q post => by
  refine ha.useT (E := []) hl g e post fun o1 v1 H1 env1 n1 g1 i1 e => ?_
  obtain ⟨d1, q1, e⟩ := look_inv e
  obtain ⟨b, hb, rfl, rfl⟩ := ofT_inv e
  exact ⟨b, bo_dp (g1.datDp (Opd.memD (A := []) i1 q1) q1) hb, post H1 n1 (dropTop g1)⟩
def mAndT (mt mu : Mir Bool) : Mir Bool := bnd mt fun b => if b = true then mu else ret false
def mOrT (mt mu : Mir Bool) : Mir Bool := bnd mt fun b => if b = true then ret true else mu
def mNotT (mt : Mir Bool) : Mir Bool := bnd mt fun b => ret (!b)
theorem rdt_and (h1 : RdT ki W tt mt) (h2 : RdT ki W tu mu) : RdT ki W (tAnd tt tu) (mAndT mt mu) := fun σ H env T r env' hl g e Q post => by
  refine h1.useT (E := []) hl g e post fun b H1 env1 n1 g1 e => ?_
  cases b with
  | true => exact h2 σ H1 env1 T r env' (hl.trans n1.symm) g1 e Q (by rw [n1]; exact post)
  | false => cases e; exact post H1 n1 g1
theorem rdt_or (h1 : RdT ki W tt mt) (h2 : RdT ki W tu mu) : RdT ki W (tOr tt tu) (mOrT mt mu) := fun σ H env T r env' hl g e Q post => by
  refine h1.useT (E := []) hl g e post fun b H1 env1 n1 g1 e => ?_
  cases b with
  | false => exact h2 σ H1 env1 T r env' (hl.trans n1.symm) g1 e Q (by rw [n1]; exact post)
  | true => cases e; exact post H1 n1 g1
theorem rdt_not (h1 : RdT ki W tt mt) : RdT ki W (tNot tt) (mNotT mt) := fun σ H env T r env' hl g e Q post => by
  refine h1.useT (E := []) hl g e post fun b H1 env1 n1 g1 e => ?_
  cases e
  exact post H1 n1 g1
/-- values by truth -/
def mAnd (ma mb : ExM) : ExM := bnd ma fun o => bnd (look o) fun d => bnd (ofT (truD d)) fun b => if b = true then mb else ret o
def mOr (ma mb : ExM) : ExM := bnd ma fun o => bnd (look o) fun d => bnd (ofT (truD d)) fun b => if b = true then ret o else mb
def mNot (ma : ExM) : ExM := bnd ma fun o => bnd (look o) fun d => bnd (ofT (truD d)) fun b => ret (.val (.p (.bool (!b))))
theorem rd_and (ha : Rd ki W ta ma) (hb : Rd ki W tb mb) : Rd ki W (tAndT ki.K ta tb) (mAnd ma mb) := fun σ H env T r env' hl g e Q post => by
  refine ha.use (E := []) hl g e post fun o1 v1 H1 env1 n1 g1 i1 e => ?_
  obtain ⟨d1, q1, e⟩ := look_inv e
  obtain ⟨b, hb1, e⟩ := ofT_invK e
  refine ⟨b, tru_dp (g1.datDp (Opd.memD (A := []) i1 q1) q1) hb1, ?_⟩
  cases b with
  | true => exact hb σ H1 env1 T r env' (hl.trans n1.symm) (dropTop g1) e Q (by rw [n1]; exact post)
  | false => cases e; exact post v1 H1 n1 g1 i1
theorem rd_or (ha : Rd ki W ta ma) (hb : Rd ki W tb mb) : Rd ki W (tOrT ki.K ta tb) (mOr ma mb) := fun σ H env T r env' hl g e Q post => by
  refine ha.use (E := []) hl g e post fun o1 v1 H1 env1 n1 g1 i1 e => ?_
  obtain ⟨d1, q1, e⟩ := look_inv e
  obtain ⟨b, hb1, e⟩ := ofT_invK e
  refine ⟨b, tru_dp (g1.datDp (Opd.memD (A := []) i1 q1) q1) hb1, ?_⟩
  cases b with
  | false => exact hb σ H1 env1 T r env' (hl.trans n1.symm) (dropTop g1) e Q (by rw [n1]; exact post)
  | true => cases e; exact post v1 H1 n1 g1 i1
theorem rd_not (ha : Rd ki W ta ma) : Rd ki W (tNotT ki.K ta) (mNot ma) := fun σ H env T r env' hl g e Q post => by
  refine ha.use (E := []) hl g e post fun o1 v1 H1 env1 n1 g1 i1 e => ?_
  obtain ⟨d1, q1, e⟩ := look_inv e
  obtain ⟨b, hb1, e⟩ := ofT_invK e
  refine ⟨b, tru_dp (g1.datDp (Opd.memD (A := []) i1 q1) q1) hb1, ?_⟩
  cases e
  exact post _ H1 n1 (toTop ((dropTop g1).push fun F => .bl _)) trivial
def mIf (mt : Mir Bool) (ma mb : ExM) : ExM := bnd mt fun b => if b = true then ma else mb
theorem rd_if (ht : RdT ki W tt mt) (ha : Rd ki W ta ma) (hb : Rd ki W tb mb) : Rd ki W (tIf tt ta tb) (mIf mt ma mb) := fun σ H env T r env' hl g e Q post => by
  refine ht.use (E := []) hl g e post fun b H1 env1 n1 g1 e => ?_
  cases b with
  | true => exact ha σ H1 env1 T r env' (hl.trans n1.symm) g1 e Q (by rw [n1]; exact post)
  | false => exact hb σ H1 env1 T r env' (hl.trans n1.symm) g1 e Q (by rw [n1]; exact post)
/-- a op b op' c -/
def mChain (g g' : PyData → PyData → Option Slot) (ma mb mc : ExM) : ExM := bnd ma fun o1 => bnd mb fun o2 => bnd (look o1) fun d => bnd (look o2) fun e => bnd (ofT ((g d e).bind fun s => s.dat.bind boD)) fun b =>
  if b = true then bnd mc fun o3 => bnd (look o2) fun e => bnd (look o3) fun f => ofO (g' e f) else ret (.val (.p (.bool false)))
theorem rd_chain {r r' : R2} {tc : TE} {mc : ExM} {g g' : PyData → PyData → Option Slot} (h : OpG ki r g) (h' : OpG ki r' g') (ha : Rd ki W ta ma) (hb : Rd ki W tb mb) (hc : Rd ki W tc mc) : Rd ki W (tChain r r' ta tb tc) (mChain g g' ma mb mc) := fun σ H env T rr env' hl gd e Q post => by
  refine ha.use (E := []) hl gd e post fun o1 v1 H1 env1 n1 g1 i1 e => ?_
  refine hb.use (E := [(some v1, o1.slot)]) (hl.trans n1.symm) g1 e (by rw [n1]; exact post) fun o2 v2 H2 env2 n2 g2 i2 e => ?_
  obtain ⟨d1, q1, e⟩ := look_inv e
  obtain ⟨d2, q2, e⟩ := look_inv e
  obtain ⟨b, hb1, e⟩ := ofT_invK e
  obtain ⟨s, hs, hs2⟩ := Option.bind_eq_some_iff.mp hb1
  obtain ⟨ds, hs3, hs4⟩ := Option.bind_eq_some_iff.mp hs2
  refine h H2 _ v1 v2 _ _ d1 d2 s g2 (Opd.memD (A := [(some v2, o2.slot)]) i1 q1) q1 (Opd.memD (A := []) i2 q2) q2 hs _ fun v H' g3 => ?_
  have hv : v = .bl b := bo_dp (g3.datDp List.mem_cons_self hs3) hs4
  refine ⟨b, hv, ?_⟩
  have g4 : G ki H' (zE σ env2 ++ ((some v2, o2.slot) :: (some v1, o1.slot) :: T)) := g3.drop
  cases b with
  | true =>
    rw [if_pos rfl]
    rw [if_pos rfl] at e
    refine hc.use (E := [(some v2, o2.slot), (some v1, o1.slot)]) (hl.trans (n2.trans n1).symm) g4 e (by rw [n2, n1]; exact post) fun o3 v3 H3 env3 n3 g5 i3 e => ?_
    obtain ⟨d3, q3, e⟩ := look_inv e
    obtain ⟨d4, q4, e⟩ := look_inv e
    obtain ⟨s2, hs2, rfl, rfl⟩ := ofO_inv e
    refine h' H3 _ v2 v3 _ _ d3 d4 s2 g5 (Opd.memD (A := [(some v3, o3.slot)]) i2 q3) q3 (Opd.memD (A := []) i3 q4) q4 hs2 Q fun v H' g6 => ?_
    exact post v H' (n3.trans (n2.trans n1)) (settle (E := [(some v3, o3.slot), (some v2, o2.slot), (some v1, o1.slot)]) g6) trivial
  | false =>
    rw [if_neg Bool.false_ne_true]
    cases e
    exact post _ H' (n2.trans n1) (toTop ((dropMid (E := [(some v2, o2.slot), (some v1, o1.slot)]) g4).push fun F => .bl _)) trivial
end

/-! ### displays -/
/-- its own data, to be laid into something -/
def Opd.own : Opd → Option PyData
  | .val s => s.dat
  | .ref _ => none
def ownAll : List Opd → Option (List PyData)
  | [] => some []
  | o :: os => o.own.bind fun d => (ownAll os).map (d :: ·)
section
variable {ki : Ki} {W : WX} {H : Hp} {R : List Addr}
theorem Good.frz {K : PySem.W.Frag} {L : Row} {v : V} {s : Slot} {d : PyData} (g : Good K H R ((some v, s) :: L)) (h : s.dat = some d) : Good K H R ((some v, .p d) :: L) := by
  cases s with
  | un => cases h
  | m _ => cases h
  | p d' => cases h; exact g
  | l xs =>
    obtain ⟨es, h1, h2⟩ := Option.map_eq_some_iff.mp (show (allP xs).map PyData.list = some d from h)
    subst h2
    have hx := allP_eq h1
    subst hx
    obtain ⟨a, vs, e, ha, len, g2⟩ := g.open_
    cases e
    exact Good.freeze g2 ha (by rw [len, List.length_map])
theorem frzAll {K : PySem.W.Frag} {σ : L2.St} : ∀ {os : List Opd} {vs : List V} {ds : List PyData} {L : Row}, isAll σ vs os → ownAll os = some ds → Good K H R (zO vs os ++ L) → Good K H R (zP vs ds ++ L) ∧ vs.length = ds.length
  | [], [], ds, L, _, h, g => by cases h; exact ⟨g, rfl⟩
  | o :: os, v :: vs, ds, L, ⟨h1, h2⟩, h, g => by
    obtain ⟨d, q1, q2⟩ := Option.bind_eq_some_iff.mp (show o.own.bind _ = some ds from h)
    obtain ⟨es, q3, rfl⟩ := Option.map_eq_some_iff.mp q2
    cases o with
    | ref i => cases q1
    | val s =>
      have g1 : Good K H R ((some v, s) :: (zO vs os ++ L)) := g
      have g2 := g1.frz q1
      have g3 : Good K H R (zO vs os ++ ((some v, .p d) :: L)) := g2.perm List.perm_middle.symm
      obtain ⟨g4, len⟩ := frzAll h2 q3 g3
      exact ⟨g4.perm List.perm_middle, by rw [List.length_cons, List.length_cons, len]⟩
  | [], _ :: _, _, _, h, _, _ => h.elim
  | _ :: _, [], _, _, h, _, _ => h.elim
/-- parts to the front -/
theorem front {K : PySem.W.Frag} {A B T : Row} (g : Good K H R (A ++ (B ++ T))) : Good K H R (B ++ (A ++ T)) := by
  refine g.perm ?_
  rw [← List.append_assoc, ← List.append_assoc]
  exact List.Perm.append_right _ List.perm_append_comm
variable {tas : TA} {ms : Mir (List Opd)}
def ownM (os : List Opd) : Mir (List PyData) := fun env => if os.length ≤ 1000 then (ownAll os).map fun ds => (.ok ds, env) else none
theorem ownM_inv {α : Type} {os : List Opd} {k : List PyData → Mir α} {env env' : Env} {r : Res α} (h : bnd (ownM os) k env = some (r, env')) : ∃ ds, ownAll os = some ds ∧ os.length ≤ 1000 ∧ k ds env = some (r, env') := by
  unfold bnd ownM at h
  by_cases hz : os.length ≤ 1000
  · rw [if_pos hz] at h
    cases q : ownAll os with
    | none => rw [q] at h; cases h
    | some ds => rw [q] at h; exact ⟨ds, rfl, hz, h⟩
  · rw [if_neg hz] at h; cases h
theorem ownAll_len : ∀ {os : List Opd} {ds : List PyData}, ownAll os = some ds → ds.length = os.length
  | [], ds, h => by cases h; rfl
  | o :: os, ds, h => by
    obtain ⟨d, q1, q2⟩ := Option.bind_eq_some_iff.mp (show o.own.bind _ = some ds from h)
    obtain ⟨es, q3, rfl⟩ := Option.map_eq_some_iff.mp q2
    rw [List.length_cons, List.length_cons, ownAll_len q3]
def mTup (ms : Mir (List Opd)) : ExM := bnd ms fun os => bnd (ownM os) fun ds => ret (.val (.p (.tuple ds)))
theorem rd_tup (h : RdA ki W tas ms) : Rd ki W (tTupC tas) (mTup ms) := fun σ H env T r env' hl g e Q post => by
  refine h.use (E := []) hl g e post fun os vs H1 env1 n1 g1 i1 e => ?_
  obtain ⟨ds, q1, hz, e⟩ := ownM_inv e
  cases e
  obtain ⟨g2, len⟩ := frzAll i1 q1 (front g1)
  have := ownAll_len q1
  refine ⟨big_le (by omega), fun p np => ⟨rowB ds, fun ob hob => post _ _ n1 (toTop (g2.newTup np len (hoT_ok hob))) trivial⟩⟩
def mLst (ms : Mir (List Opd)) : ExM := bnd ms fun os => bnd (ownM os) fun ds => ret (.val (.l (ds.map .p)))
theorem Good.newList {K : PySem.W.Frag} {L : Row} {p : Addr} {vs : List V} {ds : List PyData} (g : Good K H R (zP vs ds ++ L)) (hp : H p = none) (len : vs.length = ds.length) : Good K (upd H p (.lst vs)) R ((some (.ref p), .l (ds.map .p)) :: L) := by
  have g1 := g.reserve (u := .lst vs) hp
  exact Good.close (xs := ds.map .p) g1 upd_same (by rw [List.length_map]; exact len)
theorem rd_lst (h : RdA ki W tas ms) : Rd ki W (tLst tas) (mLst ms) := fun σ H env T r env' hl g e Q post => by
  refine h.use (E := []) hl g e post fun os vs H1 env1 n1 g1 i1 e => ?_
  obtain ⟨ds, q1, hz, e⟩ := ownM_inv e
  cases e
  obtain ⟨g2, len⟩ := frzAll i1 q1 (front g1)
  have := ownAll_len q1
  refine ⟨big_le (by omega), fun p np => post _ _ n1 (toTop (g2.newList np len)) trivial⟩
end
end MM
/-! M3: targets, what is walked, comprehensions -/
namespace L2
open PySem PySem.Spec PyProof.Rows
section
variable {X : Cx} {tg : Expr}
/-- a list, a tuple, a text: whichever stands there -/
def iSeq (K : PySem.W.Frag) (tl : TE) : TI := fun σ H R => tl σ H fun x H1 => (∃ a, x = .ref a ∧ (∃ xs, SqL K H1 a xs) ∧ R (Itl K a) H1) ∨ (∃ a, x = .ref a ∧ (∃ xs, SqT K H1 a xs) ∧ R (Itt K a) H1) ∨ ∃ z, x = .str z ∧ R (Its z) H1
theorem pi_seq {l : Expr} {tl : TE} (hl : PE X l tl) : PI X tg l (iSeq X.K tl) := by
  refine ⟨fun pins s σ H R I h => ?_⟩
  refine thn (hl.run pins s σ H _ I h) fun v s1 ⟨x, H1, I1, r1, q1⟩ => ?_
  rcases q1 with ⟨a, e, ⟨xs, hq⟩, q⟩ | ⟨a, e, ⟨xs, hq⟩, q⟩ | ⟨z, e, q⟩
  · subst e
    cases r1
    obtain ⟨its, rv, p, hz⟩ := I1.list hq
    refine wpAny_pyIter_list p.isList ?_
    refine ⟨s1.heap.objs.size, [s1.heap.objs.size], _, _, H1, rfl, I1.kept (t' := s1.toks) fun b o e => Heap.get?_push_of_some _ e, turn_list a _, ⟨_, Heap.get?_push_size _ rfl, rfl, rfl⟩, fun b hb => ?_, q⟩
    have e : b = s1.heap.objs.size := by simpa using hb
    subst e
    exact I1.fpOk (Nat.le_refl _) (I1.hok.fresh (Nat.le_refl _))
  · subst e
    cases r1
    obtain ⟨its, rv, p, hz⟩ := I1.tuple hq
    refine wpAny_pyIter_tuple (show s1.heap.IsTuple a its.toArray from p) ?_
    refine ⟨s1.heap.objs.size, [s1.heap.objs.size], _, _, H1, rfl, I1.kept (t' := s1.toks) fun b o e => Heap.get?_push_of_some _ e, turn_tuple a _, ⟨_, Heap.get?_push_size _ rfl, rfl, rfl⟩, fun b hb => ?_, q⟩
    have e : b = s1.heap.objs.size := by simpa using hb
    subst e
    exact I1.fpOk (Nat.le_refl _) (I1.hok.fresh (Nat.le_refl _))
  · subst e
    obtain ⟨t, rfl⟩ := r1
    cases ha : z.cps.all (· < 128)
    · exact wpAny_pyIter_wide ha (pi_one (tk := s1.toks) I1 _ (turn_str _ z t "str_iterator" (.inr rfl)) ⟨_, Heap.get?_push_size _ rfl, rfl, rfl⟩ q)
    · exact wpAny_pyIter_ascii ha (pi_one (tk := s1.toks) I1 _ (turn_str _ z t "str_ascii_iterator" (.inl rfl)) ⟨_, Heap.get?_push_size _ rfl, rfl, rfl⟩ q)
end
end L2
namespace MM
open PySem PySem.Spec L2

/-! ### targets -/
abbrev TgM := Slot → Env → Option Env
def RdG (ki : Ki) (g : TG) (ws : List Nat) (m : TgM) : Prop := ∀ (σ : L2.St) (H : Hp) (env env' : Env) (v : V) (s : Slot) (T : Row), σ.length = env.length → G ki H (zE σ env ++ (some v, s) :: T) → m s env = some env' →
  ∀ Q : L2.St → Hp → Prop, (∀ σ' H', σ'.length = σ.length → env'.length = env.length → (∀ j, j ∉ ws → σ'[j]? = σ[j]?) → G ki H' (zE σ' env' ++ T) → Q σ' H') → g v σ H Q
def RdGs (ki : Ki) (g : TGs) (ws : List Nat) (m : List PyData → Env → Option Env) : Prop := ∀ (σ : L2.St) (H : Hp) (env env' : Env) (vs : List V) (ds : List PyData) (T : Row), σ.length = env.length → vs.length = ds.length → G ki H (zE σ env ++ (zP vs ds ++ T)) → m ds env = some env' →
  ∀ Q : L2.St → Hp → Prop, (∀ σ' H', σ'.length = σ.length → env'.length = env.length → (∀ j, j ∉ ws → σ'[j]? = σ[j]?) → G ki H' (zE σ' env' ++ T) → Q σ' H') → g vs σ H Q
def gN (i : Nat) : TgM := fun s env => if i < env.length then some (env.set i s) else none
theorem zE_set {σ : L2.St} {env : Env} {i : Nat} {o : Option V} {s : Slot} (hl : σ.length = env.length) (hi : i < env.length) {T : Row} {K : PySem.W.Frag} {H : Hp} {R : List Addr} (g : Good K H R (zE σ env ++ (o, s) :: T)) : Good K H R (zE (σ.set i o) (env.set i s) ++ T) := by
  have hz : zE (σ.set i o) (env.set i s) = (zE σ env).set i (o, s) := by
    apply List.ext_getElem?
    intro j
    show (List.zip _ _)[j]? = ((List.zip σ env).set i (o, s))[j]?
    by_cases hj : i = j
    · subst hj
      rw [List.getElem?_set_self (by rw [List.length_zip]; omega), List.getElem?_zip_eq_some]
      exact ⟨List.getElem?_set_self (by omega), List.getElem?_set_self hi⟩
    · rw [List.getElem?_set_ne hj]
      simp only [List.zip, List.getElem?_zipWith]
      rw [List.getElem?_set_ne hj, List.getElem?_set_ne hj]
  rw [hz]
  have hi' : i < (zE σ env).length := by
    show i < (List.zip σ env).length
    rw [List.length_zip]; omega
  have p : (zE σ env ++ (o, s) :: T).Perm ((zE σ env)[i] :: ((zE σ env).set i (o, s) ++ T)) := by
    rw [List.set_eq_take_append_cons_drop, if_pos hi']
    have e : zE σ env = (zE σ env).take i ++ (zE σ env)[i] :: (zE σ env).drop (i + 1) := by
      rw [List.getElem_cons_drop, List.take_append_drop]
    refine (List.perm_middle).trans ?_
    refine ((List.Perm.append_right T (l₁ := zE σ env) (l₂ := (zE σ env)[i] :: ((zE σ env).take i ++ (zE σ env).drop (i + 1))) ?_).cons _).trans ?_
    · exact (List.Perm.of_eq e).trans List.perm_middle
    · refine (List.Perm.swap _ _ _).trans (List.Perm.cons _ ?_)
      show ((o, s) :: ((List.take i (zE σ env) ++ List.drop (i + 1) (zE σ env)) ++ T)).Perm _
      rw [List.append_assoc, List.append_assoc, List.cons_append]
      exact List.perm_middle.symm
  exact (g.perm p).drop
theorem rdg_name {ki : Ki} {i : Nat} : RdG ki (gName i) [i] (gN i) := fun σ H env env' v s T hl g e Q post => by
  unfold gN at e
  by_cases hi : i < env.length
  · rw [if_pos hi] at e
    cases e
    refine post _ H (by rw [List.length_set]) (by rw [List.length_set]) (fun j hj => ?_) (zE_set hl hi g)
    exact List.getElem?_set_ne fun z => hj (by rw [z]; exact List.mem_singleton.mpr rfl)
  · rw [if_neg hi] at e; cases e
/-- a name that holds plain things alone -/
def gNf (i : Nat) : TgM := fun s env => match s.dat with
  | some d => if i < env.length then some (env.set i (.p d)) else none
  | none => if i < env.length then some (env.set i s) else none
theorem rdg_nameF {ki : Ki} {i : Nat} : RdG ki (gName i) [i] (gNf i) := fun σ H env env' v s T hl g e Q post => by
  unfold gNf at e
  cases q : s.dat with
  | none => rw [q] at e; exact rdg_name σ H env env' v s T hl g e Q post
  | some d =>
    rw [q] at e
    have g1 : G ki H ((some v, s) :: (zE σ env ++ T)) := g.perm List.perm_middle
    exact rdg_name σ H env env' v (.p d) T hl (toTop (g1.frz q)) e Q post
def gsNil : List PyData → Env → Option Env := fun ds env => match ds with
  | [] => some env
  | _ => none
def gsCons (m : TgM) (ms : List PyData → Env → Option Env) : List PyData → Env → Option Env := fun ds env => match ds with
  | [] => none
  | d :: ds => (m (.p d) env).bind (ms ds)
theorem rdgs_nil {ki : Ki} : RdGs ki gNil [] gsNil := fun σ H env env' vs ds T hl hn g e Q post => by
  cases ds with
  | cons _ _ => cases e
  | nil =>
    cases e
    have : vs = [] := List.length_eq_zero_iff.mp hn
    subst this
    exact ⟨rfl, post σ H rfl rfl (fun _ _ => rfl) g⟩
theorem rdgs_cons {ki : Ki} {g : TG} {gs : TGs} {w ws : List Nat} {m : TgM} {ms : List PyData → Env → Option Env} (h1 : RdG ki g w m) (h2 : RdGs ki gs ws ms) : RdGs ki (gCons g gs) (w ++ ws) (gsCons m ms) := fun σ H env env' vs ds T hl hn gd e Q post => by
  cases ds with
  | nil => cases e
  | cons d ds =>
    cases vs with
    | nil => simp at hn
    | cons v vs =>
      obtain ⟨e1, q1, q2⟩ := Option.bind_eq_some_iff.mp (show (m (.p d) env).bind (ms ds) = some env' from e)
      refine ⟨v, vs, rfl, h1 σ H env e1 v (.p d) (zP vs ds ++ T) hl gd q1 _ fun σ1 H1 l1 l2 k1 g1 => ?_⟩
      refine h2 σ1 H1 e1 env' vs ds T (by omega) (by simpa using hn) g1 q2 Q fun σ2 H2 l3 l4 k2 g2 => post σ2 H2 (l3.trans l1) (l4.trans l2) (fun j hj => ?_) g2
      rw [k2 j (fun z => hj (List.mem_append_right _ z)), k1 j (fun z => hj (List.mem_append_left _ z))]
def gT (n : Nat) (ms : List PyData → Env → Option Env) : TgM := fun s env => match s with
  | .p (.tuple ds) => if ds.length = n then ms ds env else none
  | _ => none
theorem rdg_tup {ki : Ki} {gs : TGs} {ws : List Nat} {n : Nat} {ms : List PyData → Env → Option Env} (h : RdGs ki gs ws ms) : RdG ki (gTup ki.K n gs) ws (gT n ms) := fun σ H env env' v s T hl g e Q post => by
  cases s with
  | p d =>
    cases d with
    | tuple ds =>
      have e : (if ds.length = n then ms ds env else none) = some env' := e
      by_cases hn : ds.length = n
      · rw [if_pos hn] at e
        obtain ⟨a, vs, e1, h1, _, len, g2⟩ := g.items (o := some v) (d := .tuple ds) (List.mem_append_right _ List.mem_cons_self) (.inl rfl)
        cases e1
        refine ⟨a, vs, rfl, h1 rfl, len.trans hn, h σ H env env' vs ds T hl len ?_ e Q post⟩
        have : G ki H (zE σ env ++ ([(some (V.ref a), Slot.p (.tuple ds))] ++ (zP vs ds ++ T))) := by
          refine g2.perm ?_
          have p1 : (zP vs ds ++ (zE σ env ++ (some (V.ref a), Slot.p (.tuple ds)) :: T)).Perm (zE σ env ++ (zP vs ds ++ (some (V.ref a), Slot.p (.tuple ds)) :: T)) := by
            rw [← List.append_assoc, ← List.append_assoc]
            exact List.Perm.append_right _ List.perm_append_comm
          exact p1.trans (List.Perm.append_left _ List.perm_middle)
        exact dropMid this
      · rw [if_neg hn] at e; cases e
    | _ => cases e
  | _ => cases e
end MM
/-! M4: what is walked, comprehensions -/
namespace MM
open PySem PySem.Spec L2

/-- J gives the things of ds one by one, while x0 stand in the row -/
structure Wk (ki : Ki) (J : It) (ds : List PyData) (x0 : Row) : Prop where
  goes : ∀ i H L, i < ds.length → G ki H (x0 ++ L) → J.go i H
  stops : ∀ H L, G ki H (x0 ++ L) → J.stop ds.length H
  yields : ∀ i H x H' L d, ds[i]? = some d → G ki H (x0 ++ L) → J.yld i H x H' → G ki H' ((some x, .p d) :: (x0 ++ L))
def PstI (ki : Ki) (W : WX) (σ : L2.St) (T : Row) (R : It → Hp → Prop) (n : Nat) : Res (List PyData) → Env → Prop
  | .ok ds, env' => ∀ J H' x0, env'.length = n → Wk ki J ds x0 → G ki H' (zE σ env' ++ (x0 ++ T)) → R J H'
  | .ex x, env' => ∀ cls d H', env'.length = n → G ki H' (zE σ env' ++ T) → XP ki x cls d H' → W cls d σ H'
def RdI (ki : Ki) (W : WX) (wi : TI) (m : Mir (List PyData)) : Prop :=
  ∀ (σ : L2.St) (H : Hp) (env : Env) (T : Row) (r : Res (List PyData)) (env' : Env), σ.length = env.length → G ki H (zE σ env ++ T) → m env = some (r, env') → ∀ R : It → Hp → Prop, PstI ki W σ T R env.length r env' → wi σ H R

section
variable {ki : Ki} {W : WX} {ta : TE} {tas : TA} {ma : ExM} {ms : Mir (List Opd)} {σ : L2.St} {H : Hp} {env env' : Env} {E T : Row}
theorem Rd.useI {k : Opd → Mir (List PyData)} {r : Res (List PyData)} {Q : It → Hp → Prop} (h : Rd ki W ta ma) (hl : σ.length = env.length) (g : G ki H (zE σ env ++ (E ++ T))) (e : bnd ma k env = some (r, env')) (post : PstI ki W σ T Q env.length r env') {Q1 : VK}
    (go : ∀ o v H1 env1, env1.length = env.length → G ki H1 (zE σ env1 ++ ((some v, o.slot) :: (E ++ T))) → o.is σ v → k o env1 = some (r, env') → Q1 v H1) : ta σ H Q1 := by
  unfold bnd at e
  cases hm : ma env with
  | none => rw [hm] at e; cases e
  | some p =>
    obtain ⟨r1, e1⟩ := p
    rw [hm] at e
    cases r1 with
    | ok o => exact h σ H env (E ++ T) _ _ hl g hm Q1 fun v H1 hn g1 ho => go o v H1 e1 hn g1 ho e
    | ex x =>
      cases e
      exact h σ H env (E ++ T) _ _ hl g hm Q1 fun cls d H1 hn g1 hx => post cls d H1 hn (dropMid g1) hx
theorem RdA.useI {k : List Opd → Mir (List PyData)} {r : Res (List PyData)} {Q : It → Hp → Prop} (h : RdA ki W tas ms) (hl : σ.length = env.length) (g : G ki H (zE σ env ++ (E ++ T))) (e : bnd ms k env = some (r, env')) (post : PstI ki W σ T Q env.length r env') {Q1 : List V → Hp → Prop}
    (go : ∀ os vs H1 env1, env1.length = env.length → G ki H1 (zE σ env1 ++ (zO vs os ++ (E ++ T))) → isAll σ vs os → k os env1 = some (r, env') → Q1 vs H1) : tas σ H Q1 := by
  unfold bnd at e
  cases hm : ms env with
  | none => rw [hm] at e; cases e
  | some p =>
    obtain ⟨r1, e1⟩ := p
    rw [hm] at e
    cases r1 with
    | ok o => exact h σ H env (E ++ T) _ _ hl g hm Q1 fun v H1 hn g1 ho => go o v H1 e1 hn g1 ho e
    | ex x =>
      cases e
      exact h σ H env (E ++ T) _ _ hl g hm Q1 fun cls d H1 hn g1 hx => post cls d H1 hn (dropMid g1) hx

/-- the things of a row of data -/
def itD : PyData → Option (List PyData)
  | .list ds => some ds
  | .tuple ds => some ds
  | .str x => some (x.cps.toList.map fun c => .str ⟨#[c]⟩)
  | _ => none
def fixE (o : Opd) (d : PyData) (env : Env) : Env := match o with
  | .val _ => env
  | .ref i => env.set i (.p d)
/-- a name's own list stays as it is from here on -/
def ownD (o : Opd) : Mir PyData := fun env => match o with
  | .val s => s.dat.map fun d => (.ok d, env)
  | .ref i => (o.get env).dat.map fun d => (.ok d, env.set i (.p d))
def mSeq (ma : ExM) : Mir (List PyData) := bnd ma fun o => bnd (ownD o) fun d => fun env => (itD d).map fun ds => (.ok ds, env)
theorem ownD_inv {α : Type} {o : Opd} {k : PyData → Mir α} {r : Res α} (h : bnd (ownD o) k env = some (r, env')) : ∃ d, (o.get env).dat = some d ∧ k d (fixE o d env) = some (r, env') := by
  unfold bnd ownD at h
  cases o with
  | val s =>
    cases q : s.dat with
    | none => simp only [q] at h; cases h
    | some d => simp only [q] at h; exact ⟨d, q, h⟩
  | ref i =>
    cases q : (Opd.get (.ref i) env).dat with
    | none => simp only [q] at h; cases h
    | some d => simp only [q] at h; exact ⟨d, rfl, h⟩
/-- its data laid aside -/
theorem own_top {o : Opd} {v : V} {d : PyData} (hl : σ.length = env.length) (g : G ki H (zE σ env ++ ((some v, o.slot) :: T))) (i1 : o.is σ v) (q : (o.get env).dat = some d) :
    G ki H (zE σ (fixE o d env) ++ ((some v, .p d) :: T)) ∧ (fixE o d env).length = env.length := by
  cases o with
  | val s =>
    have g1 : G ki H ((some v, s) :: (zE σ env ++ T)) := g.perm List.perm_middle
    exact ⟨toTop (g1.frz q), rfl⟩
  | ref i =>
    refine ⟨?_, List.length_set⟩
    have q2 : (env[i]?).getD .un = Opd.get (.ref i) env := rfl
    cases qi : env[i]? with
    | none =>
      have : Opd.get (.ref i) env = .un := by rw [← q2, qi]; rfl
      rw [this] at q; cases q
    | some s =>
      have qs : Opd.get (.ref i) env = s := by rw [← q2, qi]; rfl
      rw [qs] at q
      have hi : i < env.length := (List.getElem?_eq_some_iff.mp qi).1
      have hm : (some v, s) ∈ zE σ env ++ T := List.mem_append_left _ (zE_mem i1 qi)
      -- take it out of its place, freeze it, copy it, lay it back
      have g0 : G ki H (zE σ env ++ T) := dropTop g
      have g1 : G ki H (zE σ env ++ (some v, .un) :: T) := toTop g0.pushUn
      have ez : σ.set i (some v) = σ := by
        apply List.ext_getElem?
        intro j
        by_cases hj : i = j
        · subst hj; rw [List.getElem?_set_self (by omega)]; exact i1.symm
        · rw [List.getElem?_set_ne hj]
      obtain ⟨A, B, hAB, hB2⟩ : ∃ A B, zE σ env = A ++ (some v, s) :: B ∧ ∀ s', zE σ (env.set i s') = A ++ (some v, s') :: B := by
        refine ⟨(zE σ env).take i, (zE σ env).drop (i + 1), ?_, fun s' => ?_⟩
        · have hiz : i < (zE σ env).length := by show i < (List.zip σ env).length; rw [List.length_zip]; omega
          have e1 : (zE σ env)[i] = (some v, s) := by
            have : (zE σ env)[i]? = some (some v, s) := by
              show (List.zip σ env)[i]? = _
              rw [List.getElem?_zip_eq_some]; exact ⟨i1, qi⟩
            exact Option.some.inj ((List.getElem?_eq_getElem hiz).symm.trans this)
          rw [← e1, List.getElem_cons_drop, List.take_append_drop]
        · have hiz : i < (zE σ env).length := by show i < (List.zip σ env).length; rw [List.length_zip]; omega
          have e1 : zE σ (env.set i s') = (zE σ env).set i (some v, s') := by
            apply List.ext_getElem?
            intro j
            show (List.zip _ _)[j]? = ((List.zip σ env).set i (some v, s'))[j]?
            by_cases hj : i = j
            · subst hj
              rw [List.getElem?_set_self (by rw [List.length_zip]; omega), List.getElem?_zip_eq_some]
              exact ⟨i1, List.getElem?_set_self hi⟩
            · rw [List.getElem?_set_ne hj]
              simp only [List.zip, List.getElem?_zipWith]
              rw [List.getElem?_set_ne hj]
          rw [e1, List.set_eq_take_append_cons_drop, if_pos hiz]
      have g2 : G ki H ((some v, s) :: ((A ++ B) ++ T)) := by
        refine g0.perm ?_
        rw [hAB, List.append_assoc, List.cons_append, List.append_assoc]
        exact List.perm_middle
      have g3 := g2.frz q
      have g4 := g3.copy List.mem_cons_self
      have g5 : G ki H ((some v, .p d) :: (A ++ ((some v, .p d) :: (B ++ T)))) := g4.perm (List.Perm.cons _ (by rw [List.append_assoc]; exact List.perm_middle.symm))
      show G ki H (zE σ (env.set i (.p d)) ++ ((some v, .p d) :: T))
      rw [hB2]
      refine toTop (g5.perm (List.Perm.cons _ ?_))
      rw [List.append_assoc]; exact List.Perm.refl _
theorem zP_at {vs : List V} {ds : List PyData} {i : Nat} {x : V} {d : PyData} (h1 : vs[i]? = some x) (h2 : ds[i]? = some d) : (some x, Slot.p d) ∈ zP vs ds := by
  apply List.mem_of_getElem? (i := i)
  unfold zP
  rw [List.getElem?_zip_eq_some, List.getElem?_map, List.getElem?_map, h1, h2]
  exact ⟨rfl, rfl⟩
theorem wk_list {v : V} {a : Addr} {ds : List PyData} (hv : v = .ref a) : Wk ki (Itl ki.K a) ds [(some v, .p (.list ds))] := by
  subst hv
  refine ⟨fun i H L hi g => ?_, fun H L g => ?_, fun i H x H' L d hd g y => ?_⟩
  · obtain ⟨b, vs, e, _, h2, len, _⟩ := g.items (d := .list ds) List.mem_cons_self (.inr rfl)
    cases e
    exact ⟨vs, vs[i]'(by omega), h2 rfl, by simp [show i < vs.length by omega]⟩
  · obtain ⟨b, vs, e, _, h2, len, _⟩ := g.items (d := .list ds) List.mem_cons_self (.inr rfl)
    cases e
    exact ⟨vs, h2 rfl, by omega⟩
  · obtain ⟨b, vs, e, _, h2, len, g2⟩ := g.items (d := .list ds) List.mem_cons_self (.inr rfl)
    cases e
    obtain ⟨e1, e2⟩ := y
    subst e1
    have hx := e2 vs (h2 rfl)
    have g3 := g2.copy (o := some x) (d := d) (List.mem_append_left _ (zP_at hx hd))
    exact dropMid (ki := ki) (A := [(some x, .p d)]) g3
theorem wk_tup {v : V} {a : Addr} {ds : List PyData} (hv : v = .ref a) : Wk ki (Itt ki.K a) ds [(some v, .p (.tuple ds))] := by
  subst hv
  refine ⟨fun i H L hi g => ?_, fun H L g => ?_, fun i H x H' L d hd g y => ?_⟩
  · obtain ⟨b, vs, e, h2, _, len, _⟩ := g.items (d := .tuple ds) List.mem_cons_self (.inl rfl)
    cases e
    exact ⟨vs, vs[i]'(by omega), h2 rfl, by simp [show i < vs.length by omega]⟩
  · obtain ⟨b, vs, e, h2, _, len, _⟩ := g.items (d := .tuple ds) List.mem_cons_self (.inl rfl)
    cases e
    exact ⟨vs, h2 rfl, by omega⟩
  · obtain ⟨b, vs, e, h2, _, len, g2⟩ := g.items (d := .tuple ds) List.mem_cons_self (.inl rfl)
    cases e
    obtain ⟨e1, e2⟩ := y
    subst e1
    have hx := e2 vs (h2 rfl)
    have g3 := g2.copy (o := some x) (d := d) (List.mem_append_left _ (zP_at hx hd))
    exact dropMid (ki := ki) (A := [(some x, .p d)]) g3
theorem wk_str {z : Str} {x0 : Row} : Wk ki (Its z) (z.cps.toList.map fun c => .str ⟨#[c]⟩) x0 := by
  refine ⟨fun i H L hi g => (by show i < z.cps.size; simpa using hi), fun H L g => by show z.cps.size ≤ _; simp, fun i H x H' L d hd g y => ?_⟩
  obtain ⟨e1, c, e2, e3⟩ := y
  subst e1 e3
  have : d = .str ⟨#[c]⟩ := by
    rw [List.getElem?_map, Array.getElem?_toList, e2] at hd
    exact (Option.some.inj hd).symm
  subst this
  exact g.push fun F => .str _
theorem rdi_seq (h : Rd ki W ta ma) : RdI ki W (iSeq ki.K ta) (mSeq ma) := fun σ H env T r env' hl g e R post => by
  refine h.useI (E := []) hl g e post fun o1 v1 H1 env1 n1 g1 i1 e => ?_
  obtain ⟨d, q, e⟩ := ownD_inv e
  obtain ⟨g2, n2⟩ := own_top (hl.trans n1.symm) g1 i1 q
  generalize hE : fixE o1 d env1 = env2 at e g2 n2
  obtain ⟨ds, q2, e3⟩ := Option.map_eq_some_iff.mp e
  cases e3
  have hm : (some v1, Slot.p d) ∈ zE σ env' ++ ((some v1, .p d) :: T) := List.mem_append_right _ List.mem_cons_self
  have dp := g2.datDp hm rfl
  cases dp with
  | @lst a xs es hq ha =>
    cases q2
    exact .inl ⟨a, rfl, ⟨xs, hq⟩, post _ _ _ (n2.trans n1) (wk_list rfl) g2⟩
  | @tup a xs es hq ha =>
    cases q2
    exact .inr (.inl ⟨a, rfl, ⟨xs, hq⟩, post _ _ _ (n2.trans n1) (wk_tup rfl) g2⟩)
  | str x =>
    cases q2
    exact .inr (.inr ⟨x, rfl, post _ _ _ (n2.trans n1) (wk_str (x0 := [(some (.str x), .p (.str x))])) g2⟩)
  | _ => cases q2
/-- range -/
def rgD (lo hi : Int) : List PyData := (List.range (hi - lo).toNat).map fun i => .int (lo + (i : Nat))
def smallI (i : Int) : Bool := decide (-1000000 ≤ i) && decide (i ≤ 1000000)
def rng1 : List PyData → Option (List PyData)
  | [.int j] => if smallI j then some (rgD 0 j) else none
  | _ => none
def rng2 : List PyData → Option (List PyData)
  | [.int i, .int j] => if smallI i && smallI j then some (rgD i j) else none
  | _ => none
def mRng (f : List PyData → Option (List PyData)) (ms : Mir (List Opd)) : Mir (List PyData) := bnd ms fun os => bnd (lookAll os) fun ds => fun env => (f ds).map fun es => (.ok es, env)
theorem wk_rng {lo hi : Int} : Wk ki (Itr lo (hi - lo).toNat) (rgD lo hi) [] := by
  refine ⟨fun i H L hi' g => (by show i < (hi - lo).toNat; unfold rgD at hi'; rw [List.length_map, List.length_range] at hi'; exact hi'), fun H L g => by show _ ≤ _; unfold rgD; simp, fun i H x H' L d hd g y => ?_⟩
  obtain ⟨e1, e2⟩ := y
  subst e1 e2
  unfold rgD at hd
  rw [List.getElem?_map] at hd
  obtain ⟨k, h1, h2⟩ := Option.map_eq_some_iff.mp hd
  have : k = i := by
    obtain ⟨hlt, e⟩ := List.getElem?_eq_some_iff.mp h1
    rw [List.getElem_range] at e
    exact e.symm
  subst this h2
  exact g.push fun F => .int _
theorem args_int {L : Row} {vs : List V} {H : Hp} {R : List Addr} (g : Good ki.K H R L) : ∀ {ds : List PyData}, Args L vs ds → DpAll ki.K H vs ds := by
  intro ds h
  induction h with
  | nil => exact .nil
  | cons a b _ ih => exact .cons (g.datDp a b) ih
theorem dpInt {K : PySem.W.Frag} {H : Hp} {v : V} {i : Int} (h : Dp K H v (.int i)) : v = .int i := by cases h; rfl
theorem rdi_rng1 (h : RdA ki W tas ms) : RdI ki W (iRng1 tas) (mRng rng1 ms) := fun σ H env T r env' hl g e R post => by
  refine h.useI (E := []) hl g e post fun os vs H1 env1 n1 g1 i1 e => ?_
  obtain ⟨ds, a, e⟩ := lookAll_inv (B := T) e i1
  obtain ⟨es, q2, e3⟩ := Option.map_eq_some_iff.mp e
  cases e3
  have dp := args_int g1 a
  have g2 : G ki H1 (zE σ env' ++ ([] ++ T)) := dropMid g1
  unfold rng1 at q2
  split at q2
  · rename_i j
    cases dp with
    | cons h1 h2 =>
      cases h2
      cases dpInt h1
      split at q2
      · rename_i hs
        cases q2
        unfold smallI at hs
        simp only [Bool.and_eq_true, decide_eq_true_eq] at hs
        refine ⟨j, rfl, by omega, by omega, ?_⟩
        have w := wk_rng (ki := ki) (lo := 0) (hi := j)
        rw [Int.sub_zero] at w
        exact post _ _ [] n1 w g2
      · cases q2
  · cases q2
theorem rdi_rng2 (h : RdA ki W tas ms) : RdI ki W (iRng2 tas) (mRng rng2 ms) := fun σ H env T r env' hl g e R post => by
  refine h.useI (E := []) hl g e post fun os vs H1 env1 n1 g1 i1 e => ?_
  obtain ⟨ds, a, e⟩ := lookAll_inv (B := T) e i1
  obtain ⟨es, q2, e3⟩ := Option.map_eq_some_iff.mp e
  cases e3
  have dp := args_int g1 a
  have g2 : G ki H1 (zE σ env' ++ ([] ++ T)) := dropMid g1
  unfold rng2 at q2
  split at q2
  · rename_i i j
    cases dp with
    | cons h1 h2 =>
      cases h2 with
      | cons h2 h3 =>
        cases h3
        cases dpInt h1
        cases dpInt h2
        split at q2
        · rename_i hs
          cases q2
          unfold smallI at hs
          simp only [Bool.and_eq_true, decide_eq_true_eq] at hs
          refine ⟨i, j, rfl, ⟨by omega, by omega, by omega, by omega⟩, ?_⟩
          exact post _ _ [] n1 wk_rng g2
        · cases q2
  · cases q2
end
end MM
/-! M5: comprehensions -/
namespace MM
open PySem PySem.Spec L2

def wipeE (env : Env) : List Nat → Env
  | [] => env
  | v :: vs => (wipeE env vs).set v .un
def resE (env : Env) : Env → List Nat → Env
  | e, [] => e
  | e, v :: vs => resE env (e.set v (((wipeE env vs)[v]?).getD .un)) vs
def svR (σ : L2.St) (env : Env) : List Nat → Row
  | [] => []
  | v :: vs => (((wipe σ vs)[v]?).getD none, ((wipeE env vs)[v]?).getD .un) :: svR σ env vs
theorem wipeE_length (env : Env) : ∀ vs : List Nat, (wipeE env vs).length = env.length
  | [] => rfl
  | v :: vs => by unfold wipeE; rw [List.length_set, wipeE_length env vs]
theorem resE_length (env : Env) : ∀ (vs : List Nat) (e : Env), (resE env e vs).length = e.length
  | [], e => rfl
  | v :: vs, e => by unfold resE; rw [resE_length env vs, List.length_set]
section
variable {ki : Ki} {H : Hp} {σ : L2.St} {env : Env} {T : Row}
theorem takeOut (hl : σ.length = env.length) (i : Nat) (g : G ki H (zE σ env ++ T)) : G ki H (zE (σ.set i none) (env.set i .un) ++ (((σ[i]?).getD none, (env[i]?).getD .un) :: T)) := by
  by_cases hi : i < env.length
  · have e1 : σ[i]? = some σ[i] := List.getElem?_eq_getElem (by omega)
    have e2 : env[i]? = some env[i] := List.getElem?_eq_getElem hi
    rw [e1, e2]
    show G ki H (zE (σ.set i none) (env.set i .un) ++ ((σ[i], env[i]) :: T))
    have hiz : i < (zE σ env).length := by show i < (List.zip σ env).length; rw [List.length_zip]; omega
    have ez : (zE σ env)[i] = (σ[i], env[i]) := by
      show (List.zip σ env)[i] = _
      rw [List.getElem_zip]
    have e3 : zE (σ.set i none) (env.set i .un) = (zE σ env).set i (none, .un) := by
      apply List.ext_getElem?
      intro j
      show (List.zip _ _)[j]? = ((List.zip σ env).set i (none, Slot.un))[j]?
      by_cases hj : i = j
      · subst hj
        rw [List.getElem?_set_self (by rw [List.length_zip]; omega), List.getElem?_zip_eq_some]
        exact ⟨List.getElem?_set_self (by omega), List.getElem?_set_self hi⟩
      · rw [List.getElem?_set_ne hj]
        simp only [List.zip, List.getElem?_zipWith]
        rw [List.getElem?_set_ne hj, List.getElem?_set_ne hj]
    rw [e3, List.set_eq_take_append_cons_drop, if_pos hiz]
    have e4 : zE σ env = (zE σ env).take i ++ (σ[i], env[i]) :: (zE σ env).drop (i + 1) := by
      rw [← ez, List.getElem_cons_drop, List.take_append_drop]
    have g1 : G ki H ((none, .un) :: (zE σ env ++ T)) := g.pushUn
    refine g1.perm ?_
    have p1 : (zE σ env ++ T).Perm ((List.take i (zE σ env) ++ List.drop (i + 1) (zE σ env)) ++ (σ[i], env[i]) :: T) := by
      refine ((List.Perm.append_right T ((List.Perm.of_eq e4).trans List.perm_middle)).trans ?_)
      exact List.perm_middle.symm
    refine (List.Perm.cons _ p1).trans ?_
    show ((none, Slot.un) :: ((List.take i (zE σ env) ++ List.drop (i + 1) (zE σ env)) ++ (σ[i], env[i]) :: T)).Perm _
    rw [List.append_assoc, List.append_assoc]
    exact List.perm_middle.symm
  · rw [List.set_eq_of_length_le (by omega), List.set_eq_of_length_le (by omega), List.getElem?_eq_none (by omega), List.getElem?_eq_none (by omega)]
    exact toTop g.pushUn
theorem saveAll (hl : σ.length = env.length) : ∀ (vs : List Nat), G ki H (zE σ env ++ T) → G ki H (zE (wipe σ vs) (wipeE env vs) ++ (svR σ env vs ++ T))
  | [], g => g
  | v :: vs, g => takeOut (by rw [wipe_length, wipeE_length]; exact hl) v (saveAll hl vs g)
theorem putBack (hl : σ.length = env.length) : ∀ (vs : List Nat) (e : Env), e.length = env.length → G ki H (zE (wipe σ vs) e ++ (svR σ env vs ++ T)) → G ki H (zE σ (resE env e vs) ++ T)
  | [], e, _, g => g
  | v :: vs, e, hn, g => by
    have g0 : G ki H (zE ((wipe σ vs).set v none) e ++ ((((wipe σ vs)[v]?).getD none, ((wipeE env vs)[v]?).getD .un) :: (svR σ env vs ++ T))) := g
    show G ki H (zE σ (resE env (e.set v (((wipeE env vs)[v]?).getD .un)) vs) ++ T)
    refine putBack hl vs _ (by rw [List.length_set]; exact hn) ?_
    by_cases hi : v < e.length
    · have g1 := zE_set (by rw [List.length_set, wipe_length]; omega) hi g0
      have : ((wipe σ vs).set v none).set v (((wipe σ vs)[v]?).getD none) = wipe σ vs := by
        rw [List.set_set]
        apply List.ext_getElem?
        intro j
        by_cases hj : v = j
        · subst hj
          have hv : v < (wipe σ vs).length := by rw [wipe_length]; omega
          rw [List.getElem?_set_self hv, List.getElem?_eq_getElem hv]; rfl
        · rw [List.getElem?_set_ne hj]
      rw [this] at g1
      exact g1
    · have hw : (wipe σ vs).length ≤ v := by rw [wipe_length]; omega
      rw [List.set_eq_of_length_le hw] at g0
      rw [List.set_eq_of_length_le (by omega)]
      exact dropTop g0
theorem wipe_get (σ : L2.St) : ∀ (vs : List Nat) (j : Nat), (wipe σ vs)[j]? = if j ∈ vs then (if j < σ.length then some none else none) else σ[j]?
  | [], j => by rw [if_neg (fun z => nomatch z)]; rfl
  | v :: vs, j => by
    show ((wipe σ vs).set v none)[j]? = _
    by_cases hj : v = j
    · subst hj
      rw [if_pos List.mem_cons_self]
      by_cases hv : v < σ.length
      · rw [if_pos hv, List.getElem?_set_self (by rw [wipe_length]; exact hv)]
      · rw [if_neg hv]; exact List.getElem?_eq_none (by rw [List.length_set, wipe_length]; omega)
    · rw [List.getElem?_set_ne hj, wipe_get σ vs j]
      by_cases hm : j ∈ vs
      · rw [if_pos hm, if_pos (List.mem_cons_of_mem _ hm)]
      · rw [if_neg hm, if_neg (fun z => (List.mem_cons.mp z).elim (fun e => hj e.symm) hm)]
theorem wipe_ext {σ1 σ2 : L2.St} {vs : List Nat} (hl : σ1.length = σ2.length) (h : ∀ j, j ∉ vs → σ1[j]? = σ2[j]?) : wipe σ1 vs = wipe σ2 vs := by
  apply List.ext_getElem?
  intro j
  rw [wipe_get, wipe_get]
  by_cases hj : j ∈ vs
  · rw [if_pos hj, if_pos hj, hl]
  · rw [if_neg hj, if_neg hj, h j hj]
theorem wipe_back {σ2 : L2.St} {vs : List Nat} (hl : σ2.length = (wipe σ vs).length) (h : ∀ j, j ∉ vs → σ2[j]? = (wipe σ vs)[j]?) : wipe σ2 vs = wipe σ vs := by
  apply List.ext_getElem?
  intro j
  rw [wipe_get σ2, hl, wipe_length]
  by_cases hj : j ∈ vs
  · rw [if_pos hj, wipe_get, if_pos hj]
  · rw [if_neg hj, h j hj]
theorem Good.appendTop {K : PySem.W.Frag} {R : List Addr} {L : Row} {D : Addr} {acc : List PyData} {y : V} {d : PyData} (g : Good K H R ((some (.ref D), .l (acc.map .p)) :: (some y, .p d) :: L)) :
    ∃ vs, H D = some (.lst vs) ∧ vs.length = acc.length ∧ Good K (upd H D (.lst (vs ++ [y]))) R ((some (.ref D), .l ((acc ++ [d]).map .p)) :: L) := by
  obtain ⟨a, vs, e, ha, len, g1⟩ := g.open_
  cases e
  rw [List.length_map] at len
  refine ⟨vs, ha, len, ?_⟩
  have g2 : Good K H (D :: R) (zS (vs ++ [y]) ((acc ++ [d]).map .p) ++ L) := by
    refine g1.perm ?_
    have : zS (vs ++ [y]) ((acc ++ [d]).map .p) = zS vs (acc.map .p) ++ [(some y, .p d)] := by
      unfold zS
      rw [List.map_append, List.map_append, List.zip_append (by rw [List.length_map, List.length_map]; exact len)]
      rfl
    rw [this, List.append_assoc]
    exact List.Perm.refl _
  exact (g2.write List.mem_cons_self).close upd_same (by rw [List.length_append, List.length_map, List.length_append, len]; rfl)
end

def compM (own : List Nat) (tg : TgM) (mt : Mir Bool) (me : ExM) : List PyData → List PyData → Env → Option (List PyData × Env)
  | [], acc, env => some (acc, env)
  | x :: xs, acc, env => (tg (.p x) env).bind fun e1 => match mt e1 with
    | some (.ok true, e2) => (match me e2 with
      | some (.ok o, e3) => o.own.bind fun d => compM own tg mt me xs (acc ++ [d]) (wipeE e3 own)
      | _ => none)
    | some (.ok false, e2) => compM own tg mt me xs acc (wipeE e2 own)
    | _ => none
def mComp (own : List Nat) (mi : Mir (List PyData)) (tg : TgM) (mt : Mir Bool) (me : ExM) : ExM := bnd mi fun ds => fun env =>
  if ds.length ≤ 1000000 then (compM own tg mt me ds [] (wipeE env own)).map fun p => (.ok (.val (.l (p.1.map .p))), resE env p.2 own) else none
/-- no exception leaves -/
abbrev W0 : WX := fun _ _ _ _ => False
theorem RdI.use {ki : Ki} {W : WX} {wi : TI} {mi : Mir (List PyData)} {σ : L2.St} {H : Hp} {env env' : Env} {E T : Row} {k : List PyData → ExM} {r : Res Opd} {Q : VK} (h : RdI ki W wi mi) (hl : σ.length = env.length) (g : G ki H (zE σ env ++ (E ++ T))) (e : bnd mi k env = some (r, env')) (post : Pst ki W σ T Q env.length r env') {R : It → Hp → Prop}
    (go : ∀ ds J H1 env1 x0, env1.length = env.length → Wk ki J ds x0 → G ki H1 (zE σ env1 ++ (x0 ++ (E ++ T))) → k ds env1 = some (r, env') → R J H1) : wi σ H R := by
  unfold bnd at e
  cases hm : mi env with
  | none => rw [hm] at e; cases e
  | some p =>
    obtain ⟨r1, e1⟩ := p
    rw [hm] at e
    cases r1 with
    | ok o => exact h σ H env (E ++ T) _ _ hl g hm R fun J H1 x0 hn w g1 => go o J H1 e1 x0 hn w g1 e
    | ex x =>
      cases e
      exact h σ H env (E ++ T) _ _ hl g hm R fun cls d H1 hn g1 hx => post cls d H1 hn (dropMid g1) hx
theorem rd_comp {ki : Ki} {W : WX} {wi : TI} {g : TG} {tt : TT} {te : TE} {own ws : List Nat} {mi : Mir (List PyData)} {tg : TgM} {mt : Mir Bool} {me : ExM}
    (hi : RdI ki W wi mi) (hg : RdG ki g ws tg) (hws : ∀ j ∈ ws, j ∈ own) (ht : RdT ki W0 tt mt) (he : Rd ki W0 te me) : Rd ki W (tLc wi g tt te own) (mComp own mi tg mt me) := fun σ H env T r env' hl gd e Q post => by
  refine hi.use (E := []) hl gd e post fun ds J H1 env1 x0 n1 wk g1 e => ?_
  by_cases hz : ds.length ≤ 1000000
  case neg => rw [if_neg hz] at e; cases e
  rw [if_pos hz] at e
  obtain ⟨⟨accF, envF⟩, q1, q2⟩ := Option.map_eq_some_iff.mp e
  cases q2
  intro D hD
  have g1' : G ki H1 (zE σ env1 ++ (x0 ++ T)) := g1
  have g2 := Good.newList (vs := []) (ds := []) g1' hD rfl
  have hl1 : σ.length = env1.length := hl.trans n1.symm
  have g3 : G ki (upd H1 D (.lst [])) (zE σ env1 ++ ((some (.ref D), .l (([] : List PyData).map .p)) :: (x0 ++ T))) := toTop g2
  have g4 := saveAll hl1 own g3
  have g5 : G ki (upd H1 D (.lst [])) (zE (wipe σ own) (wipeE env1 own) ++ ((some (.ref D), .l (([] : List PyData).map .p)) :: (x0 ++ (svR σ env1 own ++ T)))) := by
    refine g4.perm (List.Perm.append_left _ ?_)
    refine List.perm_middle.trans (List.Perm.cons _ ?_)
    rw [← List.append_assoc, ← List.append_assoc]
    exact List.Perm.append_right _ List.perm_append_comm
  refine ⟨fun i m H => m = ds.length - i ∧ i ≤ ds.length ∧ ∃ (acc : List PyData) (en : Env), en.length = env1.length ∧ acc.length ≤ i ∧ G ki H (zE (wipe σ own) en ++ ((some (.ref D), .l (acc.map .p)) :: (x0 ++ (svR σ env1 own ++ T)))) ∧ compM own tg mt me (ds.drop i) acc en = some (accF, envF),
    ⟨ds.length, by simp, Nat.zero_le _, [], wipeE env1 own, wipeE_length _ _, Nat.le_refl _, g5, q1⟩, ?_⟩
  rintro i m Hi ⟨rfl, hile, acc, en, hen, hacc, gi, qi⟩
  have gx : G ki Hi (x0 ++ (zE (wipe σ own) en ++ ((some (.ref D), .l (acc.map .p)) :: (svR σ env1 own ++ T)))) := by
    refine gi.perm ?_
    refine (List.Perm.append_left _ List.perm_middle.symm).trans ?_
    rw [← List.append_assoc, ← List.append_assoc]
    exact List.Perm.append_right _ List.perm_append_comm
  by_cases hlt : i < ds.length
  case neg =>
    have ei : i = ds.length := by omega
    subst ei
    refine .inl ⟨wk.stops _ _ gx, ?_⟩
    rw [List.drop_length] at qi
    cases qi
    have g6 : G ki Hi (zE (wipe σ own) envF ++ (svR σ env1 own ++ ((some (.ref D), .l (accF.map .p)) :: T))) := by
      have g7 : G ki Hi ((zE (wipe σ own) envF ++ [(some (V.ref D), Slot.l (accF.map .p))]) ++ (x0 ++ (svR σ env1 own ++ T))) := by
        rw [List.append_assoc]; exact gi
      have g8 := dropMid g7
      rw [List.append_assoc] at g8
      refine g8.perm (List.Perm.append_left _ ?_)
      show ((some (V.ref D), Slot.l (accF.map .p)) :: (svR σ env1 own ++ T)).Perm _
      exact List.perm_middle.symm
    exact post _ _ (by rw [resE_length]; exact hen.trans n1) (putBack hl1 own _ hen g6) trivial
  obtain ⟨d, hd⟩ : ∃ d, ds[i]? = some d := ⟨ds[i], List.getElem?_eq_getElem hlt⟩
  have hdrop : ds.drop i = d :: ds.drop (i + 1) := by
    rw [List.drop_eq_getElem_cons hlt]
    rw [List.getElem?_eq_getElem hlt] at hd
    rw [Option.some.inj hd]
  rw [hdrop] at qi
  obtain ⟨e1, p1, p2⟩ := Option.bind_eq_some_iff.mp (show (tg (.p d) en).bind _ = some (accF, envF) from qi)
  refine .inr ⟨wk.goes i _ _ hlt gx, fun H' => ∃ (acc' : List PyData) (en' : Env), en'.length = env1.length ∧ acc'.length ≤ i + 1 ∧ G ki H' (zE (wipe σ own) en' ++ ((some (.ref D), .l (acc'.map .p)) :: (x0 ++ (svR σ env1 own ++ T)))) ∧ compM own tg mt me (ds.drop (i + 1)) acc' en' = some (accF, envF),
    fun H' ⟨acc', en', a1, a2, a3, a4⟩ => ⟨ds.length - (i + 1), by omega, rfl, hlt, acc', en', a1, a2, a3, a4⟩, fun x H' y => ?_⟩
  have gy := wk.yields i _ x H' _ d hd gx y
  have gy2 : G ki H' (zE (wipe σ own) en ++ ((some x, .p d) :: ((some (.ref D), .l (acc.map .p)) :: (x0 ++ (svR σ env1 own ++ T))))) := by
    refine gy.perm ?_
    refine List.Perm.trans (List.Perm.cons _ ?_) List.perm_middle.symm
    refine List.Perm.trans ?_ (List.Perm.append_left _ List.perm_middle)
    rw [← List.append_assoc, ← List.append_assoc]
    exact List.Perm.append_right _ List.perm_append_comm
  have hlw : (wipe σ own).length = en.length := by rw [wipe_length]; omega
  refine hg _ H' en e1 x (.p d) _ hlw gy2 p1 _ fun σ2 H2 l2 le k2 g6 => ⟨?_, ?_⟩
  · exact wipe_back l2 fun j hj => k2 j fun z => hj (hws j z)
  have hw2 : wipe σ2 own = wipe σ own := wipe_back l2 fun j hj => k2 j fun z => hj (hws j z)
  have hl2 : σ2.length = e1.length := by rw [l2, le, hlw]
  -- the turn's end
  have fin : ∀ {H' : Hp} {e2 : Env} {B : Row}, e2.length = e1.length → G ki H' (zE σ2 e2 ++ B) → G ki H' (zE (wipe σ own) (wipeE e2 own) ++ B) := fun {H' e2 B} hn g => by
    have g9 := saveAll (hl2.trans hn.symm) own g
    rw [hw2] at g9
    exact dropMid g9
  cases hmt : mt e1 with
  | none => simp only [hmt] at p2; cases p2
  | some pr =>
    obtain ⟨rb, e2⟩ := pr
    simp only [hmt] at p2
    cases rb with
    | ex x => cases p2
    | ok b =>
      refine ht σ2 H2 e1 _ _ _ hl2 g6 hmt _ fun H3 n3 g7 => ?_
      cases b with
      | false =>
        rw [if_neg Bool.false_ne_true]
        exact ⟨acc, wipeE e2 own, by rw [wipeE_length]; omega, by omega, fin n3 g7, p2⟩
      | true =>
        rw [if_pos rfl]
        simp only at p2
        cases hme : me e2 with
        | none => simp only [hme] at p2; cases p2
        | some pr =>
          obtain ⟨ro, e3⟩ := pr
          simp only [hme] at p2
          cases ro with
          | ex x => cases p2
          | ok o =>
            obtain ⟨dd, o1, o2⟩ := Option.bind_eq_some_iff.mp p2
            refine he σ2 H3 e2 _ _ _ (hl2.trans n3.symm) g7 hme _ fun yv H4 n4 g8 ho => ?_
            cases o with
            | ref j => cases o1
            | val s =>
              have g9 : G ki H4 ((some yv, s) :: (zE σ2 e3 ++ ((some (.ref D), .l (acc.map .p)) :: (x0 ++ (svR σ env1 own ++ T))))) := g8.perm List.perm_middle
              have g10 := g9.frz o1
              have g11 : G ki H4 ((some (.ref D), .l (acc.map .p)) :: (some yv, .p dd) :: (zE σ2 e3 ++ (x0 ++ (svR σ env1 own ++ T)))) := by
                refine g10.perm ?_
                refine (List.Perm.cons _ List.perm_middle).trans (List.Perm.swap _ _ _)
              obtain ⟨vs, hvs, len, g12⟩ := g11.appendTop
              refine ⟨vs, hvs, Nat.lt_of_lt_of_le (show vs.length < 1000001 by omega) (by decide), acc ++ [dd], wipeE e3 own, by rw [wipeE_length]; omega, by rw [List.length_append]; show acc.length + 1 ≤ i + 1; omega, ?_, o2⟩
              exact fin (n4.trans n3) (toTop g12)
end MM
/-! M6: statements, loops, defs and their calls -/
namespace MM
open PySem PySem.Spec L2

inductive Fl where
  | nx
  | rt (s : Slot)
  | bk
  | ct
  | ex (x : Exn)
abbrev StM := Env → Option (Fl × Env)
/-- names that stay: the parameters that callers share -/
abbrev FxL := List (Nat × V)
def Fx (fx : FxL) (σ : L2.St) : Prop := ∀ p ∈ fx, σ[p.1]? = some (some p.2)
def PstS (ki : Ki) (W : WX) (fx : FxL) (T : Row) (D : Ends) (n : Nat) : Fl → Env → Prop
  | .nx, env' => ∀ σ' H', σ'.length = n → env'.length = n → Fx fx σ' → G ki H' (zE σ' env' ++ T) → D.nx σ' H'
  | .bk, env' => ∀ σ' H', σ'.length = n → env'.length = n → Fx fx σ' → G ki H' (zE σ' env' ++ T) → D.bk σ' H'
  | .ct, env' => ∀ σ' H', σ'.length = n → env'.length = n → Fx fx σ' → G ki H' (zE σ' env' ++ T) → D.ct σ' H'
  | .rt s, env' => ∀ v σ' H', σ'.length = n → env'.length = n → Fx fx σ' → G ki H' (zE σ' env' ++ (some v, s) :: T) → D.rt v H'
  | .ex x, env' => ∀ cls d σ' H', σ'.length = n → env'.length = n → Fx fx σ' → G ki H' (zE σ' env' ++ T) → XP ki x cls d H' → W cls d σ' H'
def RdS (ki : Ki) (W : WX) (fx : FxL) (ts : TS) (m : StM) : Prop :=
  ∀ (σ : L2.St) (H : Hp) (env : Env) (T : Row) (fl : Fl) (env' : Env), σ.length = env.length → Fx fx σ → G ki H (zE σ env ++ T) → m env = some (fl, env') → ∀ D : Ends, PstS ki W fx T D env.length fl env' → ts D σ H
/-- an expression, then a statement's rest -/
def bndS {α : Type} (m : Mir α) (k : α → StM) : StM := fun env => match m env with
  | none => none
  | some (.ok a, e) => k a e
  | some (.ex x, e) => some (.ex x, e)
theorem bndS_ok {α : Type} {m : Mir α} {k : α → StM} {env e : Env} {a : α} (h : m env = some (.ok a, e)) : bndS m k env = k a e := by
  unfold bndS; rw [h]
theorem bndS_ex {α : Type} {m : Mir α} {k : α → StM} {env e : Env} {x : Exn} (h : m env = some (.ex x, e)) : bndS m k env = some (.ex x, e) := by
  unfold bndS; rw [h]

section
variable {ki : Ki} {W : WX} {fx : FxL} {te : TE} {tt : TT} {tas : TA} {me : ExM} {mt : Mir Bool} {ms : Mir (List Opd)} {σ : L2.St} {H : Hp} {env env' : Env} {T : Row}
theorem Rd.useS {k : Opd → StM} {fl : Fl} {D : Ends} (h : Rd ki W te me) (hl : σ.length = env.length) (hf : Fx fx σ) (g : G ki H (zE σ env ++ T)) (e : bndS me k env = some (fl, env')) (post : PstS ki W fx T D env.length fl env') {Q1 : VK}
    (go : ∀ o v H1 env1, env1.length = env.length → G ki H1 (zE σ env1 ++ ((some v, o.slot) :: T)) → o.is σ v → k o env1 = some (fl, env') → Q1 v H1) : te σ H Q1 := by
  unfold bndS at e
  cases hm : me env with
  | none => rw [hm] at e; cases e
  | some p =>
    obtain ⟨r1, e1⟩ := p
    rw [hm] at e
    cases r1 with
    | ok o => exact h σ H env T _ _ hl g hm Q1 fun v H1 hn g1 ho => go o v H1 e1 hn g1 ho e
    | ex x =>
      cases e
      exact h σ H env T _ _ hl g hm Q1 fun cls d H1 hn g1 hx => post cls d σ H1 hl hn hf g1 hx
theorem RdT.useS {k : Bool → StM} {fl : Fl} {D : Ends} (h : RdT ki W tt mt) (hl : σ.length = env.length) (hf : Fx fx σ) (g : G ki H (zE σ env ++ T)) (e : bndS mt k env = some (fl, env')) (post : PstS ki W fx T D env.length fl env') {Q1 : Bool → Hp → Prop}
    (go : ∀ b H1 env1, env1.length = env.length → G ki H1 (zE σ env1 ++ T) → k b env1 = some (fl, env') → Q1 b H1) : tt σ H Q1 := by
  unfold bndS at e
  cases hm : mt env with
  | none => rw [hm] at e; cases e
  | some p =>
    obtain ⟨r1, e1⟩ := p
    rw [hm] at e
    cases r1 with
    | ok o => exact h σ H env T _ _ hl g hm Q1 fun H1 hn g1 => go o H1 e1 hn g1 e
    | ex x =>
      cases e
      exact h σ H env T _ _ hl g hm Q1 fun cls d H1 hn g1 hx => post cls d σ H1 hl hn hf g1 hx
theorem RdA.useS {k : List Opd → StM} {fl : Fl} {D : Ends} (h : RdA ki W tas ms) (hl : σ.length = env.length) (hf : Fx fx σ) (g : G ki H (zE σ env ++ T)) (e : bndS ms k env = some (fl, env')) (post : PstS ki W fx T D env.length fl env') {Q1 : List V → Hp → Prop}
    (go : ∀ os vs H1 env1, env1.length = env.length → G ki H1 (zE σ env1 ++ (zO vs os ++ T)) → isAll σ vs os → k os env1 = some (fl, env') → Q1 vs H1) : tas σ H Q1 := by
  unfold bndS at e
  cases hm : ms env with
  | none => rw [hm] at e; cases e
  | some p =>
    obtain ⟨r1, e1⟩ := p
    rw [hm] at e
    cases r1 with
    | ok o => exact h σ H env T _ _ hl g hm Q1 fun v H1 hn g1 ho => go o v H1 e1 hn g1 ho e
    | ex x =>
      cases e
      exact h σ H env T _ _ hl g hm Q1 fun cls d H1 hn g1 hx => post cls d σ H1 hl hn hf g1 hx

/-! ### small statements -/
def sNx : StM := fun env => some (.nx, env)
def sBk : StM := fun env => some (.bk, env)
def sCt : StM := fun env => some (.ct, env)
theorem rds_pass : RdS ki W fx tNext sNx := fun σ H env T fl env' hl hf g e D post => by cases e; exact post σ H hl rfl hf g
theorem rds_break : RdS ki W fx tBreak sBk := fun σ H env T fl env' hl hf g e D post => by cases e; exact post σ H hl rfl hf g
theorem rds_cont : RdS ki W fx tCont sCt := fun σ H env T fl env' hl hf g e D post => by cases e; exact post σ H hl rfl hf g
def sSeq (m1 m2 : StM) : StM := fun env => match m1 env with
  | some (.nx, e) => m2 e
  | r => r
theorem rds_seq {t u : TS} {m1 m2 : StM} (h1 : RdS ki W fx t m1) (h2 : RdS ki W fx u m2) : RdS ki W fx (tSeq t u) (sSeq m1 m2) := fun σ H env T fl env' hl hf g e D post => by
  unfold sSeq at e
  cases hm : m1 env with
  | none => rw [hm] at e; cases e
  | some p =>
    obtain ⟨f1, e1⟩ := p
    rw [hm] at e
    refine h1 σ H env T f1 e1 hl hf g hm { D with nx := u D } ?_
    cases f1 with
    | nx => exact fun σ' H' l1 l2 hf' g' => h2 σ' H' e1 T fl env' (l1.trans l2.symm) hf' g' e D (by rw [l2]; exact post)
    | rt s => cases e; exact post
    | bk => cases e; exact post
    | ct => cases e; exact post
    | ex x => cases e; exact post
def sDrop (me : ExM) : StM := bndS me fun _ => sNx
theorem rds_drop (h : Rd ki W te me) : RdS ki W fx (tDrop te) (sDrop me) := fun σ H env T fl env' hl hf g e D post => by
  refine h.useS hl hf g e post fun o v H1 env1 n1 g1 i1 e => ?_
  cases e
  exact post σ H1 hl n1 hf (dropTop g1)
def sRetO (o : Opd) : StM := fun env => match o with
  | .val s => some (.rt s, env)
  | .ref i => some (.rt ((env[i]?).getD .un), env.set i .un)
def sRet (me : ExM) : StM := bndS me sRetO
theorem unSet {i : Nat} {L : Row} (hl : σ.length = env.length) (g : G ki H (zE (σ.set i none) (env.set i .un) ++ L)) : G ki H (zE σ (env.set i .un) ++ L) := by
  by_cases hi : i < env.length
  · have g1 : G ki H (zE (σ.set i none) (env.set i .un) ++ ((σ[i]?).getD none, .un) :: L) := toTop g.pushUn
    have g2 := zE_set (i := i) (by rw [List.length_set, List.length_set]; exact hl) (by rw [List.length_set]; exact hi) g1
    rw [List.set_set, List.set_set] at g2
    have : σ.set i ((σ[i]?).getD none) = σ := by
      apply List.ext_getElem?
      intro j
      by_cases hj : i = j
      · subst hj
        rw [List.getElem?_set_self (by omega), List.getElem?_eq_getElem (by omega)]; rfl
      · rw [List.getElem?_set_ne hj]
    rw [this] at g2
    exact g2
  · rw [List.set_eq_of_length_le (by omega)] at g
    exact g
theorem rds_ret (h : Rd ki W te me) : RdS ki W fx (tRet te) (sRet me) := fun σ H env T fl env' hl hf g e D post => by
  refine h.useS hl hf g e post fun o v H1 env1 n1 g1 i1 e => ?_
  cases o with
  | val s => cases e; exact post v σ H1 hl n1 hf g1
  | ref i =>
    cases e
    have hl1 : σ.length = env1.length := hl.trans n1.symm
    have g2 := unSet hl1 (takeOut hl1 i (dropTop g1))
    have e1 : σ[i]? = some (some v) := i1
    rw [e1] at g2
    exact post v σ H1 hl (by rw [List.length_set]; exact n1) hf g2
def sRetN : StM := fun env => some (.rt (.p .none), env)
theorem rds_retN : RdS ki W fx tRetN sRetN := fun σ H env T fl env' hl hf g e D post => by
  cases e
  exact post .non σ H hl rfl hf (toTop (g.push fun F => .non))
def sIf (mt : Mir Bool) (m1 m2 : StM) : StM := bndS mt fun b => if b = true then m1 else m2
theorem rds_if {t u : TS} {m1 m2 : StM} (h : RdT ki W tt mt) (h1 : RdS ki W fx t m1) (h2 : RdS ki W fx u m2) : RdS ki W fx (tIfS tt t u) (sIf mt m1 m2) := fun σ H env T fl env' hl hf g e D post => by
  refine h.useS hl hf g e post fun b H1 env1 n1 g1 e => ?_
  cases b with
  | true => exact h1 σ H1 env1 T fl env' (hl.trans n1.symm) hf g1 e D (by rw [n1]; exact post)
  | false => exact h2 σ H1 env1 T fl env' (hl.trans n1.symm) hf g1 e D (by rw [n1]; exact post)
theorem Fx.keep {σ σ' : L2.St} {ws : List Nat} (hf : Fx fx σ) (k : ∀ j, j ∉ ws → σ'[j]? = σ[j]?) (hw : ∀ p ∈ fx, p.1 ∉ ws) : Fx fx σ' := fun p hp => (k p.1 (hw p hp)).trans (hf p hp)
/-- target = value -/
def sAsg (me : ExM) (tg : TgM) : StM := bndS me fun o => match o with
  | .val s => fun env => (tg s env).map fun e => (.nx, e)
  | .ref _ => fun _ => none
theorem rds_asg {g : TG} {ws : List Nat} {tg : TgM} (h : Rd ki W te me) (hg : RdG ki g ws tg) (hw : ∀ p ∈ fx, p.1 ∉ ws) : RdS ki W fx (tAsg te g) (sAsg me tg) := fun σ H env T fl env' hl hf gd e D post => by
  refine h.useS hl hf gd e post fun o v H1 env1 n1 g1 i1 e => ?_
  cases o with
  | ref i => cases e
  | val s =>
    obtain ⟨e2, q1, q2⟩ := Option.map_eq_some_iff.mp e
    cases q2
    exact hg σ H1 env1 _ v s T (hl.trans n1.symm) g1 q1 _ fun σ' H' l1 l2 k g2 => post σ' H' (l1.trans hl) (l2.trans n1) (hf.keep k hw) g2
/-- a, b = x, y without a tuple -/
def parK : List Opd → Option (Slot × Slot)
  | [.val a, .val b] => some (a, b)
  | _ => none
theorem parK_inv {os : List Opd} {p : Slot × Slot} (h : parK os = some p) : os = [.val p.1, .val p.2] := by
  unfold parK at h
  split at h
  · cases h; rfl
  · cases h
def sPar (i j : Nat) (ms : Mir (List Opd)) : StM := bndS ms fun os env => (parK os).bind fun p => if i < env.length ∧ j < env.length then some (.nx, (env.set i p.1).set j p.2) else none
theorem rds_par {i j : Nat} (h : RdA ki W tas ms) (hw : ∀ p ∈ fx, p.1 ∉ [i, j]) : RdS ki W fx (tPar i j tas) (sPar i j ms) := fun σ H env T fl env' hl hf gd e D post => by
  refine h.useS hl hf gd e post fun os vs H1 env1 n1 g1 i1 e => ?_
  obtain ⟨⟨a, b⟩, hp, e2⟩ := Option.bind_eq_some_iff.mp e
  clear e
  have e : (if i < env1.length ∧ j < env1.length then some (Fl.nx, (env1.set i a).set j b) else none) = some (fl, env') := e2
  clear e2
  have ho := parK_inv hp
  subst ho
  match vs, i1, g1 with
  | [v, w], _, g1 =>
    by_cases hi : i < env1.length ∧ j < env1.length
    · rw [if_pos hi] at e
      cases e
      refine ⟨v, w, rfl, ?_⟩
      have hl1 : σ.length = env1.length := hl.trans n1.symm
      have g2 : G ki H1 (zE σ env1 ++ (some v, a) :: ((some w, b) :: T)) := g1
      have g3 := zE_set hl1 hi.1 g2
      have g4 := zE_set (i := j) (by rw [List.length_set, List.length_set]; exact hl1) (by rw [List.length_set]; exact hi.2) g3
      refine post _ H1 (by rw [List.length_set, List.length_set]; exact hl) (by rw [List.length_set, List.length_set]; exact n1) (hf.keep (ws := [i, j]) (fun k hk => ?_) hw) g4
      have h1 : i ≠ k := fun z => hk (by rw [z]; exact List.mem_cons_self)
      have h2 : j ≠ k := fun z => hk (by rw [z]; exact List.mem_cons_of_mem _ List.mem_cons_self)
      rw [List.getElem?_set_ne h2, List.getElem?_set_ne h1]
    · rw [if_neg hi] at e; cases e
  | [], i1, _ => exact i1.elim
  | [_], i1, _ => exact i1.2.elim
  | _ :: _ :: _ :: _, i1, _ => exact i1.2.2.elim

/-! ### loops -/
def forM (tg : TgM) (mb : StM) : List PyData → Env → Option (Fl × Env)
  | [], env => some (.nx, env)
  | x :: xs, env => (tg (.p x) env).bind fun e1 => match mb e1 with
    | some (.nx, e2) => forM tg mb xs e2
    | some (.ct, e2) => forM tg mb xs e2
    | some (.bk, e2) => some (.nx, e2)
    | some (.rt s, e2) => some (.rt s, e2)
    | some (.ex x, e2) => some (.ex x, e2)
    | none => none
def sFor (mi : Mir (List PyData)) (tg : TgM) (mb : StM) : StM := bndS mi fun ds => forM tg mb ds
theorem RdI.useS {wi : TI} {mi : Mir (List PyData)} {k : List PyData → StM} {fl : Fl} {D : Ends} (h : RdI ki W wi mi) (hl : σ.length = env.length) (hf : Fx fx σ) (g : G ki H (zE σ env ++ T)) (e : bndS mi k env = some (fl, env')) (post : PstS ki W fx T D env.length fl env') {R : It → Hp → Prop}
    (go : ∀ ds J H1 env1 x0, env1.length = env.length → Wk ki J ds x0 → G ki H1 (zE σ env1 ++ (x0 ++ T)) → k ds env1 = some (fl, env') → R J H1) : wi σ H R := by
  unfold bndS at e
  cases hm : mi env with
  | none => rw [hm] at e; cases e
  | some p =>
    obtain ⟨r1, e1⟩ := p
    rw [hm] at e
    cases r1 with
    | ok o => exact h σ H env T _ _ hl g hm R fun J H1 x0 hn w g1 => go o J H1 e1 x0 hn w g1 e
    | ex x =>
      cases e
      exact h σ H env T _ _ hl g hm R fun cls d H1 hn g1 hx => post cls d σ H1 hl hn hf g1 hx
theorem PstS.widen {x0 : Row} {D D' : Ends} {n : Nat} {fl : Fl} {e : Env} (h : PstS ki W fx T D n fl e) (h1 : fl ≠ .nx) (h2 : fl ≠ .bk) (h3 : fl ≠ .ct) (hr : D'.rt = D.rt) : PstS ki W fx (x0 ++ T) D' n fl e := by
  cases fl with
  | nx => exact absurd rfl h1
  | bk => exact absurd rfl h2
  | ct => exact absurd rfl h3
  | rt s =>
    intro v σ' H' l1 l2 hf g
    rw [hr]
    have g1 : G ki H' ((zE σ' e ++ [(some v, s)]) ++ (x0 ++ T)) := by rw [List.append_assoc]; exact g
    have g2 := dropMid g1
    rw [List.append_assoc] at g2
    exact h v σ' H' l1 l2 hf g2
  | ex x => exact fun cls d σ' H' l1 l2 hf g hx => h cls d σ' H' l1 l2 hf (dropMid g) hx
theorem rds_for {wi : TI} {g : TG} {tb : TS} {ws : List Nat} {mi : Mir (List PyData)} {tg : TgM} {mb : StM} (hi : RdI ki W wi mi) (hg : RdG ki g ws tg) (hw : ∀ p ∈ fx, p.1 ∉ ws) (hb : RdS ki W fx tb mb) : RdS ki W fx (tFor wi g tb) (sFor mi tg mb) := fun σ H env T fl env' hl hf gd e D post => by
  refine hi.useS hl hf gd e post fun ds J H1 env1 x0 n1 wk g1 e => ?_
  refine ⟨fun i m σ H => m = ds.length - i ∧ i ≤ ds.length ∧ σ.length = env.length ∧ Fx fx σ ∧ ∃ en : Env, en.length = env.length ∧ G ki H (zE σ en ++ (x0 ++ T)) ∧ forM tg mb (ds.drop i) en = some (fl, env'),
    ⟨ds.length, by simp, Nat.zero_le _, hl, hf, env1, n1, g1, e⟩, ?_⟩
  rintro i m σ3 H3 ⟨rfl, hile, hl3, hf3, en, hen, g3, e3⟩
  have gx : G ki H3 (x0 ++ (zE σ3 en ++ T)) := front g3
  by_cases hlt : i < ds.length
  case neg =>
    have ei : i = ds.length := by omega
    subst ei
    rw [List.drop_length] at e3
    cases e3
    exact .inl ⟨wk.stops _ _ gx, post σ3 H3 hl3 hen hf3 (dropMid g3)⟩
  obtain ⟨d, hd⟩ : ∃ d, ds[i]? = some d := ⟨ds[i], List.getElem?_eq_getElem hlt⟩
  have hdrop : ds.drop i = d :: ds.drop (i + 1) := by
    rw [List.drop_eq_getElem_cons hlt]
    rw [List.getElem?_eq_getElem hlt] at hd
    rw [Option.some.inj hd]
  rw [hdrop] at e3
  obtain ⟨e4, p1, p2⟩ := Option.bind_eq_some_iff.mp (show (tg (.p d) en).bind _ = some (fl, env') from e3)
  refine .inr ⟨wk.goes i _ _ hlt gx, fun σ' H' => σ'.length = env.length ∧ Fx fx σ' ∧ ∃ en : Env, en.length = env.length ∧ G ki H' (zE σ' en ++ (x0 ++ T)) ∧ forM tg mb (ds.drop (i + 1)) en = some (fl, env'),
    fun σ' H' ⟨a1, a2, a3⟩ => ⟨ds.length - (i + 1), by omega, rfl, hlt, a1, a2, a3⟩, fun x H' y => ?_⟩
  have gy := wk.yields i _ x H' _ d hd gx y
  have gy2 : G ki H' (zE σ3 en ++ ((some x, .p d) :: (x0 ++ T))) := by
    refine gy.perm ?_
    refine List.Perm.trans (List.Perm.cons _ ?_) List.perm_middle.symm
    rw [← List.append_assoc, ← List.append_assoc]
    exact List.Perm.append_right _ List.perm_append_comm
  refine hg σ3 H' en e4 x (.p d) _ (hl3.trans hen.symm) gy2 p1 _ fun σ5 H5 l5 l6 k5 g5 => ?_
  have hf5 : Fx fx σ5 := hf3.keep k5 hw
  have hn4 : e4.length = env.length := l6.trans hen
  cases hmb : mb e4 with
  | none => simp only [hmb] at p2; cases p2
  | some pr =>
    obtain ⟨f6, e6⟩ := pr
    simp only [hmb] at p2
    refine hb σ5 H5 e4 (x0 ++ T) f6 e6 (l5.trans (hl3.trans hn4.symm)) hf5 g5 hmb _ ?_
    rw [hn4]
    cases f6 with
    | nx => exact fun σ' H' l1 l2 hf' g' => ⟨l1, hf', e6, l2, g', p2⟩
    | ct => exact fun σ' H' l1 l2 hf' g' => ⟨l1, hf', e6, l2, g', p2⟩
    | bk => cases p2; exact fun σ' H' l1 l2 hf' g' => post σ' H' l1 l2 hf' (dropMid g')
    | rt s => cases p2; exact post.widen (fun z => nomatch z) (fun z => nomatch z) (fun z => nomatch z) rfl
    | ex x => cases p2; exact post.widen (fun z => nomatch z) (fun z => nomatch z) (fun z => nomatch z) rfl
def whM (mc : Mir Bool) (mb : StM) : Nat → Env → Option (Fl × Env)
  | 0, _ => none
  | n + 1, env => match mc env with
    | some (.ok true, e1) => (match mb e1 with
      | some (.nx, e2) => whM mc mb n e2
      | some (.ct, e2) => whM mc mb n e2
      | some (.bk, e2) => some (.nx, e2)
      | some (.rt s, e2) => some (.rt s, e2)
      | some (.ex x, e2) => some (.ex x, e2)
      | none => none)
    | some (.ok false, e1) => some (.nx, e1)
    | some (.ex x, e1) => some (.ex x, e1)
    | none => none
/-- by some number of turns -/
noncomputable def sWhile (mc : Mir Bool) (mb : StM) : StM := fun env => by
  classical exact if h : ∃ n, (whM mc mb n env).isSome then whM mc mb h.choose env else none
theorem whM_mono {mc : Mir Bool} {mb : StM} : ∀ (n k : Nat) (env : Env) (r : Fl × Env), whM mc mb n env = some r → n ≤ k → whM mc mb k env = some r
  | 0, _, _, _, h, _ => nomatch h
  | n + 1, 0, _, _, _, h => absurd h (Nat.not_succ_le_zero _)
  | n + 1, k + 1, env, r, h, hk => by
    have ih := whM_mono (mc := mc) (mb := mb) n k
    unfold whM at h ⊢
    cases hc : mc env with
    | none => simp only [hc] at h; cases h
    | some p =>
      obtain ⟨rb, e1⟩ := p
      simp only [hc] at h ⊢
      cases rb with
      | ex x => exact h
      | ok b =>
        cases b with
        | false => exact h
        | true =>
          simp only at h ⊢
          cases hb : mb e1 with
          | none => simp only [hb] at h; cases h
          | some p =>
            obtain ⟨f, e2⟩ := p
            simp only [hb] at h ⊢
            cases f with
            | nx => exact ih _ _ h (by omega)
            | ct => exact ih _ _ h (by omega)
            | _ => exact h
theorem sWhile_of {mc : Mir Bool} {mb : StM} {n : Nat} {env : Env} {r : Fl × Env} (h : whM mc mb n env = some r) : sWhile mc mb env = some r := by
  unfold sWhile
  have hx : ∃ n, (whM mc mb n env).isSome := ⟨n, by rw [h]; rfl⟩
  rw [dif_pos hx]
  obtain ⟨q, hq⟩ := Option.isSome_iff_exists.mp hx.choose_spec
  have e1 := whM_mono _ (n + hx.choose) env r h (by omega)
  have e2 := whM_mono _ (n + hx.choose) env q hq (by omega)
  rw [hq]
  rw [e1] at e2
  exact e2.symm
theorem sWhile_inv {mc : Mir Bool} {mb : StM} {env : Env} {r : Fl × Env} (h : sWhile mc mb env = some r) : ∃ n, whM mc mb n env = some r := by
  unfold sWhile at h
  by_cases hx : ∃ n, (whM mc mb n env).isSome
  · rw [dif_pos hx] at h; exact ⟨_, h⟩
  · rw [dif_neg hx] at h; cases h
theorem rds_while {tc : TT} {tb : TS} {mc : Mir Bool} {mb : StM} (hc : RdT ki W tc mc) (hb : RdS ki W fx tb mb) : RdS ki W fx (tWhile tc tb) (sWhile mc mb) := fun σ H env T fl env' hl hf gd e D post => by
  obtain ⟨n0, e0⟩ := sWhile_inv e
  refine ⟨fun m σ H => σ.length = env.length ∧ Fx fx σ ∧ ∃ en : Env, en.length = env.length ∧ G ki H (zE σ en ++ T) ∧ whM mc mb m en = some (fl, env'), ⟨n0, hl, hf, env, rfl, gd, e0⟩, ?_⟩
  rintro m σ3 H3 ⟨hl3, hf3, en, hen, g3, e3⟩
  cases m with
  | zero => cases e3
  | succ m =>
    unfold whM at e3
    cases hcm : mc en with
    | none => simp only [hcm] at e3; cases e3
    | some p =>
      obtain ⟨rb, e4⟩ := p
      simp only [hcm] at e3
      cases rb with
      | ex x =>
        cases e3
        exact hc σ3 H3 en T _ _ (hl3.trans hen.symm) g3 hcm _ fun cls d H1 hn g1 hx => post cls d σ3 H1 hl3 (hn.trans hen) hf3 g1 hx
      | ok b =>
        refine hc σ3 H3 en T _ _ (hl3.trans hen.symm) g3 hcm _ fun H1 hn g1 => ?_
        cases b with
        | false =>
          rw [if_neg Bool.false_ne_true]
          cases e3
          exact post σ3 H1 hl3 (hn.trans hen) hf3 g1
        | true =>
          rw [if_pos rfl]
          simp only at e3
          refine ⟨fun σ' H' => σ'.length = env.length ∧ Fx fx σ' ∧ ∃ en : Env, en.length = env.length ∧ G ki H' (zE σ' en ++ T) ∧ whM mc mb m en = some (fl, env'), fun σ' H' q => ⟨m, Nat.lt_succ_self _, q⟩, ?_⟩
          cases hbm : mb e4 with
          | none => simp only [hbm] at e3; cases e3
          | some p =>
            obtain ⟨f6, e6⟩ := p
            simp only [hbm] at e3
            have hn4 : e4.length = env.length := hn.trans hen
            refine hb σ3 H1 e4 T f6 e6 (hl3.trans hn4.symm) hf3 g1 hbm _ ?_
            rw [hn4]
            cases f6 with
            | nx => exact fun σ' H' l1 l2 hf' g' => ⟨l1, hf', e6, l2, g', e3⟩
            | ct => exact fun σ' H' l1 l2 hf' g' => ⟨l1, hf', e6, l2, g', e3⟩
            | bk => cases e3; exact fun σ' H' l1 l2 hf' g' => post σ' H' l1 l2 hf' g'
            | rt s => cases e3; exact post
            | ex x => cases e3; exact post
end
end MM
/-! M7: defs, their promises and calls; the rules laid together -/
namespace MM
open PySem PySem.Spec L2

/-! ### defs -/
abbrev FnM := List Slot → Option (Res Slot × List Slot)
/-- a def's mirror by its body's: n parameters, N names -/
def runE (n : Nat) : Option (Fl × Env) → Option (Res Slot × List Slot)
  | some (.rt s, e) => some (.ok s, e.take n)
  | some (.nx, e) => some (.ok (.p .none), e.take n)
  | some (.ex x, e) => some (.ex x, e.take n)
  | _ => none
def runB (n N : Nat) (mb : StM) : FnM := fun ss => if ss.length = n then runE n (mb (ss ++ List.replicate (N - n) .un)) else none
theorem runB_n {n N : Nat} {mb : StM} {ss : List Slot} (h : (runB n N mb ss).isSome) : ss.length = n := by
  unfold runB at h
  by_cases q : ss.length = n
  · exact q
  · rw [if_neg q] at h; cases h
def lentRow (vs : List V) (ss : List Slot) (lent : List Nat) : Row := lent.map fun i => (vs[i]?, (ss[i]?).getD .un)
def PstF (ki : Ki) (lent : List Nat) (vs : List V) (T : Row) (Q : VK) (E : XK) : Res Slot → List Slot → Prop
  | .ok s, ss' => ∀ v H', G ki H' (lentRow vs ss' lent ++ ((some v, s) :: T)) → Q v H'
  | .ex x, ss' => ∀ cls d H', G ki H' (lentRow vs ss' lent ++ T) → XP ki x cls d H' → E cls d H'
/-- the promise: who hands such things gets what the mirror says -/
def spM (ki : Ki) (n : Nat) (lent : List Nat) (fm : FnM) : Sp := fun vs H Q E => ∃ (ss : List Slot) (T : Row) (r : Res Slot) (ss' : List Slot), vs.length = n ∧ ss.length = n ∧ G ki H (zE (vs.map some) ss ++ T) ∧ fm ss = some (r, ss') ∧ PstF ki lent vs T Q E r ss'
theorem zE_app {σ τ : L2.St} {e f : Env} (h : σ.length = e.length) : zE (σ ++ τ) (e ++ f) = zE σ e ++ zE τ f := List.zip_append h
theorem Good.pushUns {K : PySem.W.Frag} {H : Hp} {R : List Addr} {L : Row} (g : Good K H R L) : ∀ (k : Nat) (σ : L2.St), σ.length = k → Good K H R (zE σ (List.replicate k .un) ++ L)
  | 0, [], _ => g
  | k + 1, o :: σ, h => (g.pushUns k σ (by simpa using h)).pushUn
  | 0, _ :: _, h => by simp at h
  | _ + 1, [], h => by simp at h
/-- picking places out of a row -/
theorem pickRow {ki : Ki} {H : Hp} {σ : L2.St} {env : Env} {T : Row} (hl : σ.length = env.length) : ∀ (is : List Nat), is.Nodup → G ki H (zE σ env ++ T) → G ki H ((is.map fun i => ((σ[i]?).getD none, (env[i]?).getD .un)) ++ T) := by
  have main : ∀ (is : List Nat), is.Nodup → ∀ (σ : L2.St) (env : Env) (T : Row), σ.length = env.length → G ki H (zE σ env ++ T) → G ki H ((is.map fun i => ((σ[i]?).getD none, (env[i]?).getD .un)) ++ T) := by
    intro is
    induction is with
    | nil => exact fun _ σ env T _ g => Good.dropApp g
    | cons i is ih =>
      intro nd σ env T hl g
      have nd2 := List.nodup_cons.mp nd
      have g1 := takeOut hl i g
      have g2 := ih nd2.2 (σ.set i none) (env.set i .un) _ (by rw [List.length_set, List.length_set]; exact hl) g1
      have e : (is.map fun j => (((σ.set i none)[j]?).getD none, ((env.set i Slot.un)[j]?).getD .un)) = is.map fun j => ((σ[j]?).getD none, (env[j]?).getD .un) := by
        apply List.map_congr_left
        intro j hj
        have : i ≠ j := fun z => nd2.1 (z ▸ hj)
        rw [List.getElem?_set_ne this, List.getElem?_set_ne this]
      rw [e] at g2
      exact g2.perm List.perm_middle
  exact fun is nd g => main is nd σ env T hl g
theorem fn_mir {P : Program} {w : World} {K : PySem.W.Frag} {cl : Str → Value} {mg : Str → Option Value} {base : Heap} {x qual : Str} {st : Stmt} {f : Addr} {fd : FuncData} {N ps : List Str} {k n : Nat} {lent : List Nat} {mb : StM}
    (F : Fun K x qual st f fd) (S : FnScope N ps (defScope st)) (hn : ps.length = n) (hN : n ≤ N.length) (hnd : lent.Nodup) (hlt : ∀ i ∈ lent, i < n)
    (hbody : ∀ (cdv : Value) (A : Around) (outer : List PySem.Env) (s : Shared) (H : Hp) (E : XK) (W : WX) (fx : FxL), Room k (A.deeper (PyProof.Rows.envOfC qual (defScope st) s.heap.objs.size f cdv)) →
      Takes (cxOf (L2.CX P w) P w K mg base N qual (defScope st) f cdv A outer s H E) W →
      PassesOwn (model P w) (A.deeper (PyProof.Rows.envOfC qual (defScope st) s.heap.objs.size f cdv)) (cxOf (L2.CX P w) P w K mg base N qual (defScope st) f cdv A outer s H E).env (cxOf (L2.CX P w) P w K mg base N qual (defScope st) f cdv A outer s H E).xe → (∀ p ∈ fx, p.1 ∈ lent) →
      ∃ ts, PSs (cxOf (L2.CX P w) P w K mg base N qual (defScope st) f cdv A outer s H E) (defBody st) ts ∧ RdS ⟨K, cl⟩ W fx ts mb) : FnOk P w K mg base (L2.CX P w) (k + 1) f fd ps (spM ⟨K, cl⟩ n lent (runB n N.length mb)) := by
  refine F.okX S (fun vs H Q E h => ?_) (fun cdv A outer s H vs Q E hr h => ?_)
  · obtain ⟨ss, T, r, ss', h1, _⟩ := h
    exact h1.trans hn.symm
  · obtain ⟨ss, T, r, ss', h1, h2, g, hm, post⟩ := h
    have hfx : ∀ p ∈ (lent.filterMap fun i => (vs[i]?).map fun v => (i, v)), p.1 ∈ lent := fun p hp => by
      obtain ⟨i, hi, e⟩ := List.mem_filterMap.mp hp
      obtain ⟨v, _, e⟩ := Option.map_eq_some_iff.mp e
      rw [← e]; exact hi
    obtain ⟨ts, hp, hr2⟩ := hbody cdv A outer s H E (fun cls d _ H => E cls d H) (lent.filterMap fun i => (vs[i]?).map fun v => (i, v)) hr
      (takes_of rfl rfl rfl rfl) (passes_of rfl) hfx
    refine ⟨ts, hp, ?_⟩
    -- the entry
    have hs : (L2.start N vs).length = (ss ++ List.replicate (N.length - n) Slot.un).length := by
      unfold L2.start; rw [List.length_append, List.length_map, List.length_replicate, List.length_append, List.length_replicate, h1, h2]
    have g0 : G ⟨K, cl⟩ H (zE (L2.start N vs) (ss ++ List.replicate (N.length - n) .un) ++ T) := by
      unfold L2.start
      rw [zE_app (by rw [List.length_map, h1, h2]), h1]
      have g1 := Good.pushUns g (N.length - n) (List.replicate (N.length - n) none) List.length_replicate
      exact g1.perm (by rw [List.append_assoc, ← List.append_assoc, ← List.append_assoc]; exact List.Perm.append_right _ List.perm_append_comm)
    have hf0 : Fx (lent.filterMap fun i => (vs[i]?).map fun v => (i, v)) (L2.start N vs) := fun p hp => by
      obtain ⟨i, hi, e⟩ := List.mem_filterMap.mp hp
      obtain ⟨v, e1, e⟩ := Option.map_eq_some_iff.mp e
      subst e
      have hlt' : i < vs.length := (List.getElem?_eq_some_iff.mp e1).1
      show (L2.start N vs)[i]? = some (some v)
      unfold L2.start
      rw [List.getElem?_append_left (by rw [List.length_map]; exact hlt'), List.getElem?_map, e1]; rfl
    -- what is lent, at the end
    have back : ∀ {σ' : L2.St} {e : Env} {H' : Hp} {B : Row}, σ'.length = (ss ++ List.replicate (N.length - n) Slot.un).length → e.length = (ss ++ List.replicate (N.length - n) Slot.un).length → Fx (lent.filterMap fun i => (vs[i]?).map fun v => (i, v)) σ' → G ⟨K, cl⟩ H' (zE σ' e ++ B) → G ⟨K, cl⟩ H' (lentRow vs (e.take n) lent ++ B) := fun {σ' e H' B} l1 l2 hf' g' => by
      have g2 := pickRow (l1.trans l2.symm) lent hnd g'
      have : (lent.map fun i => ((σ'[i]?).getD none, (e[i]?).getD Slot.un)) = lentRow vs (e.take n) lent := by
        unfold lentRow
        apply List.map_congr_left
        intro i hi
        have hin := hlt i hi
        have hv : i < vs.length := by omega
        have q1 := hf' (i, vs[i]) (List.mem_filterMap.mpr ⟨i, hi, by rw [List.getElem?_eq_getElem hv]; rfl⟩)
        have q1 : σ'[i]? = some (some vs[i]) := q1
        rw [q1, List.getElem?_eq_getElem hv, List.getElem?_take_of_lt hin]; rfl
      rw [this] at g2
      exact g2
    unfold runB at hm
    rw [if_pos h2] at hm
    cases hmb : mb (ss ++ List.replicate (N.length - n) .un) with
    | none => rw [hmb] at hm; cases hm
    | some p =>
      obtain ⟨fl, e⟩ := p
      rw [hmb] at hm
      refine hr2 _ H _ T fl e hs hf0 g0 hmb _ ?_
      cases fl with
      | nx => cases hm; exact fun σ' H' l1 l2 hf' g' => post .non H' ((back l1 l2 hf' g').push (fun F => .non) |> toTop)
      | rt s => cases hm; exact fun v σ' H' l1 l2 hf' g' => post v H' (back l1 l2 hf' g')
      | ex x => cases hm; exact fun cls d σ' H' l1 l2 hf' g' hx => post cls d H' (back l1 l2 hf' g') hx
      | bk => cases hm
      | ct => cases hm

/-! ### calls of defs -/
def argS : List Opd → Option (List Slot)
  | [] => some []
  | .val s :: os => (argS os).map fun ss => (match s.dat with | some d => .p d | none => s) :: ss
  | .ref _ :: _ => none
def fnRes {α : Type} (f : Slot → α) : Res Slot → Res α
  | .ok s => .ok (f s)
  | .ex x => .ex x
def mFn (fm : FnM) (ms : Mir (List Opd)) : ExM := bnd ms fun os env => (argS os).bind fun ss => (fm ss).map fun p => (fnRes .val p.1, env)
/-- the first argument is a name's own thing, handed on and taken back -/
def mFnL (fm : FnM) (ms : Mir (List Opd)) : ExM := bnd ms fun os env => match os with
  | .ref i :: os' => (argS os').bind fun ss => (fm (((env[i]?).getD .un) :: ss)).map fun p => (fnRes .val p.1, env.set i ((p.2[0]?).getD .un))
  | _ => none
section
variable {ki : Ki} {W : WX} {tas : TA} {ms : Mir (List Opd)} {fm : FnM} {n : Nat} {σ : L2.St}
theorem argS_row {K : PySem.W.Frag} {H : Hp} {R : List Addr} : ∀ {os : List Opd} {vs : List V} {ss : List Slot} {L : Row}, isAll σ vs os → argS os = some ss → Good K H R (zO vs os ++ L) → Good K H R (zE (vs.map some) ss ++ L) ∧ vs.length = ss.length
  | [], [], ss, L, _, h, g => by cases h; exact ⟨g, rfl⟩
  | o :: os, v :: vs, ss, L, ⟨h1, h2⟩, h, g => by
    cases o with
    | ref i => cases h
    | val s =>
      obtain ⟨ss', q1, rfl⟩ := Option.map_eq_some_iff.mp (show (argS os).map _ = some ss from h)
      have g1 : Good K H R ((some v, s) :: (zO vs os ++ L)) := g
      have g2 : Good K H R ((some v, (match s.dat with | some d => .p d | none => s)) :: (zO vs os ++ L)) := by
        cases q : s.dat with
        | none => exact g1
        | some d => exact g1.frz q
      generalize (match s.dat with | some d => Slot.p d | none => s) = s2 at g2
      have g3 : Good K H R (zO vs os ++ ((some v, s2) :: L)) := g2.perm List.perm_middle.symm
      obtain ⟨g4, len⟩ := argS_row h2 q1 g3
      exact ⟨g4.perm List.perm_middle, by rw [List.length_cons, List.length_cons, len]⟩
  | [], _ :: _, _, _, h, _, _ => h.elim
  | _ :: _, [], _, _, h, _, _ => h.elim
theorem isAll_len : ∀ {vs : List V} {os : List Opd}, isAll σ vs os → vs.length = os.length
  | [], [], _ => rfl
  | _ :: _, _ :: _, ⟨_, h⟩ => by rw [List.length_cons, List.length_cons, isAll_len h]
  | [], _ :: _, h => h.elim
  | _ :: _, [], h => h.elim
theorem argS_len : ∀ {os : List Opd} {ss : List Slot}, argS os = some ss → ss.length = os.length
  | [], ss, h => by cases h; rfl
  | .val s :: os, ss, h => by
    obtain ⟨ss', q1, rfl⟩ := Option.map_eq_some_iff.mp (show (argS os).map _ = some ss from h)
    rw [List.length_cons, List.length_cons, argS_len q1]
  | .ref _ :: _, _, h => by cases h
theorem rd_fn (hn : ∀ os ss, argS os = some ss → (fm ss).isSome → ss.length = n) (ha : RdA ki W tas ms) : Rd ki W (tCallS (spM ki n [] fm) (WE W) tas) (mFn fm ms) := fun σ H env T r env' hl gd e Q post => by
  refine ha.use (E := []) hl gd e post fun os vs H1 env1 n1 g1 i1 e => ?_
  obtain ⟨ss, q1, e⟩ := Option.bind_eq_some_iff.mp e
  obtain ⟨⟨r1, ss'⟩, q2, e⟩ := Option.map_eq_some_iff.mp e
  cases e
  obtain ⟨g2, len⟩ := argS_row i1 q1 (front g1)
  have hss := hn os ss q1 (by rw [q2]; rfl)
  refine ⟨ss, _, r1, ss', len.trans hss, hss, g2, q2, ?_⟩
  cases r1 with
  | ok s => exact fun v H' g3 => post v H' n1 (toTop g3) trivial
  | ex x => exact fun cls d H' g3 hx => post cls d H' n1 g3 hx
theorem rd_fnL (hn : ∀ s ss, (fm (s :: ss)).isSome → ss.length + 1 = n) (ha : RdA ki W tas ms) : Rd ki W (tCallS (spM ki n [0] fm) (WE W) tas) (mFnL fm ms) := fun σ H env T r env' hl gd e Q post => by
  refine ha.use (E := []) hl gd e post fun os vs H1 env1 n1 g1 i1 e => ?_
  match os, vs, i1, g1, e with
  | [], _, _, _, e => cases e
  | .val _ :: _, _, _, _, e => cases e
  | .ref i :: os', [], i1, _, _ => exact i1.elim
  | .ref i :: os', v0 :: vs, ⟨h0, i1⟩, g1, e =>
    obtain ⟨ss, q1, e⟩ := Option.bind_eq_some_iff.mp e
    obtain ⟨⟨r1, ss'⟩, q2, e⟩ := Option.map_eq_some_iff.mp e
    cases e
    have hl1 : σ.length = env1.length := hl.trans n1.symm
    have h0 : σ[i]? = some (some v0) := h0
    have hi : i < env1.length := by
      have := (List.getElem?_eq_some_iff.mp h0).1
      omega
    have g2 : G ki H1 (zE σ env1 ++ (zO vs os' ++ T)) := dropTop (x := (some v0, .un)) g1
    have g3 := takeOut hl1 i g2
    rw [h0] at g3
    have g4 : G ki H1 (zO vs os' ++ ((some v0, (env1[i]?).getD .un) :: (zE (σ.set i none) (env1.set i .un) ++ T))) := by
      refine g3.perm ?_
      refine (List.perm_middle).trans ?_
      refine (List.Perm.cons _ ?_).trans List.perm_middle.symm
      rw [← List.append_assoc, ← List.append_assoc]
      exact List.Perm.append_right _ List.perm_append_comm
    obtain ⟨g5, len⟩ := argS_row i1 q1 g4
    have hss := hn _ ss (by rw [q2]; rfl)
    have g6 : G ki H1 (zE ((v0 :: vs).map some) (((env1[i]?).getD .un) :: ss) ++ (zE (σ.set i none) (env1.set i .un) ++ T)) := g5.perm List.perm_middle
    refine ⟨((env1[i]?).getD .un) :: ss, _, r1, ss', by rw [List.length_cons]; omega, by rw [List.length_cons]; omega, g6, q2, ?_⟩
    have put : ∀ {H' : Hp} {B : Row} {s : Slot}, G ki H' ((some v0, s) :: (zE (σ.set i none) (env1.set i .un) ++ B)) → G ki H' (zE σ (env1.set i s) ++ B) := fun {H' B s} g => by
      have g7 := zE_set (i := i) (by rw [List.length_set, List.length_set]; exact hl1) (by rw [List.length_set]; exact hi) (toTop g)
      rw [List.set_set, List.set_set] at g7
      have ez : σ.set i (some v0) = σ := by
        apply List.ext_getElem?
        intro j
        by_cases hj : i = j
        · subst hj; rw [List.getElem?_set_self (by omega)]; exact h0.symm
        · rw [List.getElem?_set_ne hj]
      rw [ez] at g7
      exact g7
    cases r1 with
    | ok s =>
      intro v H' g7
      have g8 : G ki H' ((some v0, (ss'[0]?).getD .un) :: ((some v, s) :: (zE (σ.set i none) (env1.set i .un) ++ T))) := g7
      have g9 : G ki H' ((some v0, (ss'[0]?).getD .un) :: (zE (σ.set i none) (env1.set i .un) ++ ((some v, s) :: T))) := g8.perm (List.Perm.cons _ List.perm_middle.symm)
      exact post v H' (by rw [List.length_set]; exact n1) (put g9) trivial
    | ex x =>
      intro cls d H' g7 hx
      exact post cls d H' (by rw [List.length_set]; exact n1) (put g7) hx
end
end MM
/-! M8: operations by data -/
namespace L2
open PySem PySem.Spec PyProof.Rows
section
variable {X : Cx}
/-- lists added, whoever they are -/
def rCatG (K : PySem.W.Frag) : R2 := fun x y H Q => ∃ l b xs zs, x = .ref l ∧ y = .ref b ∧ SqL K H l xs ∧ SqL K H b zs ∧ xs.length + zs.length ≤ sizeLine ∧ ∀ p, H p = none → Q (.ref p) (upd H p (.lst (xs ++ zs)))
theorem op_catG : OpR X (binaryOp .Add) (rCatG X.K) := by
  intro pins s σ H x y v u Q I rx ry h
  obtain ⟨l, b, xs, zs, rfl, rfl, hH, hB, hz, q⟩ := h
  cases rx
  cases ry
  obtain ⟨its, r, p1, z1⟩ := I.list hH
  obtain ⟨its2, r2, p2, z2⟩ := I.list hB
  obtain ⟨⟨cls, dd, data, sl⟩, n, ho, hc, hdn, hd⟩ := p1
  obtain ⟨⟨cls2, dd2, data2, sl2⟩, n2, ho2, hc2, hdn2, hd2⟩ := p2
  simp only at hc hd hc2 hd2
  subst hc hd hc2 hd2
  have e : its.toArray ++ its2.toArray = (its ++ its2).toArray := by simp
  have hl := r.length
  have hl2 := r2.length
  refine concat_meets ⟨_, ho, rfl⟩ ⟨_, ho2, rfl⟩ noFill_list_add seq_list_add PySem.F.slot_list_add PySem.F.entry_list_add (PySem.F.args_list_add_2 _ _) (list_addW l b its.toArray its2.toArray n n2 dd dd2 sl sl2 (by simp; omega)) ⟨ho, ho2, ?_⟩
  rw [e]
  exact ⟨.ref _, _, I.lnew (t' := s.toks) (r.append r2) (by rw [List.length_append]; omega), rfl, q _ I.fresh⟩
/-- t + u, the new one laid as the reading wants -/
def rCatC (K : PySem.W.Frag) : R2 := fun x y H Q => ∃ a b xs ys, x = .ref a ∧ y = .ref b ∧ SqT K H a xs ∧ SqT K H b ys ∧ xs.length + ys.length ≤ sizeLine ∧
  (xs = [] → Q (.ref b) H) ∧ (xs ≠ [] → ys = [] → Q (.ref a) H) ∧ (xs ≠ [] → ys ≠ [] → ∀ p, H p = none → ∃ k : Bool, ∀ ob : Obj, ob.dict = none → Q (.ref p) (upd H p (hoT k ob (xs ++ ys))))
theorem op_catC : OpR X (binaryOp .Add) (rCatC X.K) := by
  intro pins s σ H x y v u Q I rx ry h
  obtain ⟨a, b, xs, ys, rfl, rfl, ha, hb, hz, q0, q1, q2⟩ := h
  cases rx
  cases ry
  obtain ⟨its, r1, p1, _⟩ := I.tuple ha
  obtain ⟨its2, r2, p2, _⟩ := I.tuple hb
  by_cases hx : xs = []
  · subst hx
    cases r1
    exact cat_tup0 p1 p2 ⟨.ref b, H, I, rfl, q0 rfl⟩
  · refine HT.cat_tup p1 p2 (fun z => hx (r1.nil_iff.mp z)) (fun z => ⟨.ref a, H, I, rfl, q1 hx (r2.nil_iff.mp z)⟩) (fun z => ?_) (by rw [← r1.length, ← r2.length]; exact hz)
    obtain ⟨k, q2⟩ := q2 hx (fun w => z (r2.nil_iff.mpr w)) _ (I.hok.fresh (Nat.le_refl _))
    refine ⟨.ref s.heap.objs.size, _, I.laid (t' := s.toks) (o := hoT k _ (xs ++ ys)) (fun b ob q => Heap.get?_push_of_some _ q) (Nat.le_refl _) (okT k (Heap.get?_push_size _ rfl) ?_), rfl, q2 _ rfl⟩
    exact ⟨by rw [List.length_append]; exact hz, _, r1.append r2, IsTup.new _ _⟩
def rAddG (K : PySem.W.Frag) : R2 := fun x y H Q => rI0 (fun i j => .int (i + j)) x y H Q ∨ (∃ i j, x = .str i ∧ y = .str j ∧ i.length + j.length ≤ sizeLine ∧ Q (.str (i ++ j)) H) ∨ rCatG K x y H Q ∨ rCatC K x y H Q
theorem op_addG : OpR X (binaryOp .Add) (rAddG X.K) := op_add.or (op_add_str.or (op_catG.or op_catC))
theorem call_tuple_ofC : CallR X (.type "tuple") (fun xs H Q => ∃ p ys, xs = [.ref p] ∧ ((SqL X.K H p ys ∧ ∀ l, H l = none → ∃ k : Bool, ∀ ob : Obj, ob.dict = none → Q (.ref l) (upd H l (hoT k ob ys))) ∨ (SqT X.K H p ys ∧ Q (.ref p) H))) := by
  intro pins s σ H xs us Q I r h
  obtain ⟨p, ys, rfl, h⟩ := h
  obtain ⟨u, rfl, rx⟩ := vals1 r
  cases rx
  rcases h with ⟨hq, q⟩ | ⟨hq, q⟩
  · obtain ⟨its, r', pl, hz⟩ := I.list hq
    have hlen := r'.length
    refine call_tuple_list pl.isList (fun h' kp => ?_) (by simp only [List.size_toArray] <;> omega)
    have I1 : Inv X pins σ H { s with heap := h' } := I.kept (t' := s.toks) kp
    obtain ⟨k, q⟩ := q _ (I1.hok.fresh (Nat.le_refl _))
    have I2 : Inv X pins σ (upd H h'.objs.size (hoT k { cls := .type "tuple", data := .seq its.toArray } ys)) { s with heap := h'.push { cls := .type "tuple", data := .seq its.toArray } } :=
      I1.laid (t' := s.toks) (fun b o e => Heap.get?_push_of_some _ e) (Nat.le_refl _) (okT k (Heap.get?_push_size _ rfl) (show ObjOk X.prog X.w _ _ _ (.tup ys) from ⟨hz, its, r', IsTup.new _ _⟩))
    exact ⟨.ref h'.objs.size, _, I2, rfl, q _ rfl⟩
  · obtain ⟨its, r', pl, hz⟩ := I.tuple hq
    exact call_tuple_same pl ⟨.ref p, H, I, rfl, q⟩
/-- in, not in: a list, a tuple of data, a text -/
def rInG (K : PySem.W.Frag) : R2 := fun x y H Q => (∃ d ds, Dp K H x d ∧ Dp K H y (.list ds) ∧ SeqAt.shaped d = true ∧ SeqAt.shaped (.list ds) = true ∧ Q (.bl (ds.any fun z => PyData.eqv z d)) H) ∨
  (∃ d ds, Dp K H x d ∧ Dp K H y (.tuple ds) ∧ SeqAt.shaped d = true ∧ SeqAt.shaped (.tuple ds) = true ∧ Q (.bl (ds.any fun z => PyData.eqv z d)) H) ∨
  (∃ i j, x = .str i ∧ y = .str j ∧ Q (.bl (!(Builtin.Str.occurrences j i 0 j.length 1).isEmpty)) H)
def rNotInG (K : PySem.W.Frag) : R2 := fun x y H Q => (∃ d ds, Dp K H x d ∧ Dp K H y (.list ds) ∧ SeqAt.shaped d = true ∧ SeqAt.shaped (.list ds) = true ∧ Q (.bl (!ds.any fun z => PyData.eqv z d)) H) ∨
  (∃ d ds, Dp K H x d ∧ Dp K H y (.tuple ds) ∧ SeqAt.shaped d = true ∧ SeqAt.shaped (.tuple ds) = true ∧ Q (.bl (!ds.any fun z => PyData.eqv z d)) H) ∨
  (∃ i j, x = .str i ∧ y = .str j ∧ Q (.bl (!(!(Builtin.Str.occurrences j i 0 j.length 1).isEmpty))) H)
theorem op_inT (hu : X.A.units + 65 < cLine) : OpR X (compareOp .In) (fun x y H Q => ∃ d ds, Dp X.K H x d ∧ Dp X.K H y (.tuple ds) ∧ SeqAt.shaped d = true ∧ SeqAt.shaped (.tuple ds) = true ∧ Q (.bl (ds.any fun z => PyData.eqv z d)) H) := by
  intro pins s σ H x y v u Q I rx ry h
  obtain ⟨d, ds, hd, he, sd, se, q⟩ := h
  obtain ⟨as, r1⟩ := Dp.reads I d x v hd rx
  obtain ⟨bs, r2⟩ := Dp.reads I (.tuple ds) y u he ry
  exact SeqAt.in_tuple_reads r2 r1 (SeqAt.canLay_of_shaped se) (SeqAt.canLay_of_shaped sd) (room_in_shaped sd hu) ⟨.bl _, H, I, rfl, q⟩
theorem op_notInT (hu : X.A.units + 65 < cLine) : OpR X (compareOp .NotIn) (fun x y H Q => ∃ d ds, Dp X.K H x d ∧ Dp X.K H y (.tuple ds) ∧ SeqAt.shaped d = true ∧ SeqAt.shaped (.tuple ds) = true ∧ Q (.bl (!ds.any fun z => PyData.eqv z d)) H) := by
  intro pins s σ H x y v u Q I rx ry h
  obtain ⟨d, ds, hd, he, sd, se, q⟩ := h
  obtain ⟨as, r1⟩ := Dp.reads I d x v hd rx
  obtain ⟨bs, r2⟩ := Dp.reads I (.tuple ds) y u he ry
  exact SeqAt.notIn_tuple_reads r2 r1 (SeqAt.canLay_of_shaped se) (SeqAt.canLay_of_shaped sd) (room_in_shaped sd hu) ⟨.bl _, H, I, rfl, q⟩
theorem op_inG (hu : X.A.units + 65 < cLine) : OpR X (compareOp .In) (rInG X.K) := (op_inD hu).or ((op_inT hu).or op_in_str)
theorem op_notInG (hu : X.A.units + 65 < cLine) : OpR X (compareOp .NotIn) (rNotInG X.K) := (op_notInD hu).or ((op_notInT hu).or op_notin_str)
end
end L2

namespace MM
open PySem PySem.Spec L2
section
variable {ki : Ki}
theorem dpStr {K : PySem.W.Frag} {H : Hp} {v : V} {i : Str} (h : Dp K H v (.str i)) : v = .str i := by cases h; rfl
def smallL (n : Nat) : Bool := decide (n ≤ 1000000)
def gAdd : PyData → PyData → Option Slot
  | .int i, .int j => some (.p (.int (i + j)))
  | .str i, .str j => if smallL (i.length + j.length) then some (.p (.str (i ++ j))) else none
  | .list xs, .list ys => if smallL (xs.length + ys.length) then some (.l ((xs ++ ys).map .p)) else none
  | .tuple xs, .tuple ys => if smallL (xs.length + ys.length) then some (.p (.tuple (xs ++ ys))) else none
  | _, _ => none
theorem zP_append {xs zs : List V} {ds es : List PyData} (h : xs.length = ds.length) : zP (xs ++ zs) (ds ++ es) = zP xs ds ++ zP zs es := by
  unfold zP
  rw [List.map_append, List.map_append, List.zip_append (by rw [List.length_map, List.length_map]; exact h)]
theorem opg_add : OpG ki (rAddG ki.K) gAdd := fun H L x y sx sy d e s g hx dx hy dy hs Q post => by
  have d1 := g.datDp hx dx
  have d2 := g.datDp hy dy
  cases d1 with
  | int i =>
    cases d2 with
    | int j => cases hs; exact .inl ⟨i, j, rfl, rfl, post _ _ (g.push fun F => .int _)⟩
    | _ => cases hs
  | str i =>
    cases d2 with
    | str j =>
      have hs : (if smallL (i.length + j.length) then some (Slot.p (.str (i ++ j))) else none) = some s := hs
      cases hz : smallL (i.length + j.length) with
      | false => rw [hz] at hs; cases hs
      | true =>
        rw [hz] at hs; cases hs
        exact .inr (.inl ⟨i, j, rfl, rfl, big_le (of_decide_eq_true hz), post _ _ (g.push fun F => .str _)⟩)
    | _ => cases hs
  | @lst a xs ds hq ha =>
    cases d2 with
    | @lst b zs es hq2 ha2 =>
      have hs : (if smallL (ds.length + es.length) then some (Slot.l ((ds ++ es).map .p)) else none) = some s := hs
      cases hz : smallL (ds.length + es.length) with
      | false => rw [hz] at hs; cases hs
      | true =>
        rw [hz] at hs; cases hs
        have hz := of_decide_eq_true hz
        obtain ⟨a1, vs1, e1, _, h1, l1, g1⟩ := g.view hx dx (.inr rfl)
        obtain ⟨a2, vs2, e2, _, h2, l2, g2⟩ := g1.view (List.mem_append_right _ hy) dy (.inr rfl)
        cases e1; cases e2
        refine .inr (.inr (.inl ⟨a, b, vs1, vs2, rfl, rfl, h1 rfl, h2 rfl, big_le (by omega), fun p np => post _ _ ?_⟩))
        refine Good.newList (vs := vs1 ++ vs2) ?_ np (by rw [List.length_append, List.length_append]; omega)
        rw [zP_append l1, List.append_assoc]
        refine g2.perm ?_
        rw [← List.append_assoc, ← List.append_assoc]
        exact List.Perm.append_right _ List.perm_append_comm
    | _ => cases hs
  | @tup a xs ds hq ha =>
    cases d2 with
    | @tup b zs es hq2 ha2 =>
      have hs : (if smallL (ds.length + es.length) then some (Slot.p (.tuple (ds ++ es))) else none) = some s := hs
      cases hz : smallL (ds.length + es.length) with
      | false => rw [hz] at hs; cases hs
      | true =>
        rw [hz] at hs; cases hs
        have hz := of_decide_eq_true hz
        obtain ⟨a1, vs1, e1, h1, _, l1, g1⟩ := g.view hx dx (.inl rfl)
        obtain ⟨a2, vs2, e2, h2, _, l2, g2⟩ := g1.view (List.mem_append_right _ hy) dy (.inl rfl)
        cases e1; cases e2
        have pureOf : ∀ {v : V} {s : Slot} {t : List PyData}, (some v, s) ∈ L → s.dat = some (.tuple t) → s = .p (.tuple t) := fun {v s t} hm hd => by
          cases s with
          | p d => cases hd; rfl
          | l xs =>
            obtain ⟨es, _, h⟩ := Option.map_eq_some_iff.mp (show (allP xs).map PyData.list = some _ from hd)
            cases h
          | _ => cases hd
        have sx1 := pureOf hx dx
        have sy1 := pureOf hy dy
        subst sx1 sy1
        refine .inr (.inr (.inr ⟨a, b, vs1, vs2, rfl, rfl, h1 rfl, h2 rfl, big_le (by omega), fun z => ?_, fun _ z => ?_, fun _ _ p np => ⟨rowB (ds ++ es), fun ob hob => post _ _ ?_⟩⟩))
        · subst z
          have : ds = [] := List.length_eq_zero_iff.mp l1.symm
          subst this
          exact post _ _ (g.copy hy)
        · subst z
          have : es = [] := List.length_eq_zero_iff.mp l2.symm
          subst this
          rw [List.append_nil] at post
          exact post _ _ (g.copy hx)
        · refine Good.newTup (vs := vs1 ++ vs2) ?_ np (by rw [List.length_append, List.length_append]; omega) (hoT_ok hob)
          rw [zP_append l1, List.append_assoc]
          refine g2.perm ?_
          rw [← List.append_assoc, ← List.append_assoc]
          exact List.Perm.append_right _ List.perm_append_comm
    | _ => cases hs
  | _ => cases hs
/-- whole numbers -/
def gI (f : Int → Int → Option PyData) : PyData → PyData → Option Slot
  | .int i, .int j => (f i j).map .p
  | _, _ => none
theorem opg_int {C : Int → Int → Prop} {h : Int → Int → V} {f : Int → Int → Option PyData} (hf : ∀ i j d, f i j = some d → C i j ∧ ∀ F, Dq ki.K F (h i j) d) : OpG ki (rI C h) (gI f) := fun H L x y sx sy d e s g hx dx hy dy hs Q post => by
  have d1 := g.datDp hx dx
  have d2 := g.datDp hy dy
  cases d1 with
  | int i =>
    cases d2 with
    | int j =>
      obtain ⟨z, h1, h2⟩ := Option.map_eq_some_iff.mp (show (f i j).map Slot.p = some s from hs)
      subst h2
      obtain ⟨c, k⟩ := hf i j z h1
      exact ⟨i, j, rfl, rfl, c, post _ _ (g.push k)⟩
    | _ => cases hs
  | _ => cases hs
theorem opg_int0 {h : Int → Int → V} {f : Int → Int → PyData} (hf : ∀ i j F, Dq ki.K F (h i j) (f i j)) : OpG ki (rI0 h) (gI fun i j => some (f i j)) := fun H L x y sx sy d e s g hx dx hy dy hs Q post => by
  have d1 := g.datDp hx dx
  have d2 := g.datDp hy dy
  cases d1 with
  | int i =>
    cases d2 with
    | int j => cases hs; exact ⟨i, j, rfl, rfl, post _ _ (g.push (hf i j))⟩
    | _ => cases hs
  | _ => cases hs
abbrev fSub : Int → Int → PyData := fun i j => .int (i - j)
def fMul (i j : Int) : Option PyData := if (decide (-(2 ^ 64) < i) && decide (i < 2 ^ 64)) || (decide (-(2 ^ 64) < j) && decide (j < 2 ^ 64)) then some (.int (i * j)) else none
def fMod (i j : Int) : Option PyData := if decide (0 < j) then some (.int (i % j)) else none
def fDiv (i j : Int) : Option PyData := if decide (0 < j) && decide (j < 1073741824) then some (.int (i / j)) else none
theorem opg_sub : OpG ki (rI0 fun i j => .int (i - j)) (gI fun i j => some (.int (i - j))) := opg_int0 (f := fSub) fun _ _ _ => .int _
theorem opg_mul : OpG ki (rI CMul fun i j => .int (i * j)) (gI fMul) := opg_int fun i j d h => by
  unfold fMul at h
  split at h
  · rename_i hc
    cases h
    simp only [Bool.or_eq_true, Bool.and_eq_true, decide_eq_true_eq] at hc
    exact ⟨hc, fun F => .int _⟩
  · cases h
theorem opg_mod : OpG ki (rI (fun _ j => 0 < j) fun i j => .int (i % j)) (gI fMod) := opg_int fun i j d h => by
  unfold fMod at h
  split at h
  · rename_i hc
    cases h
    exact ⟨of_decide_eq_true hc, fun F => .int _⟩
  · cases h
theorem opg_fdiv : OpG ki (rI CDiv fun i j => .int (i / j)) (gI fDiv) := opg_int fun i j d h => by
  unfold fDiv at h
  split at h
  · rename_i hc
    cases h
    simp only [Bool.and_eq_true, decide_eq_true_eq] at hc
    exact ⟨hc, fun F => .int _⟩
  · cases h
abbrev gLtI := gI fun i j => some (.bool (decide (i < j)))
abbrev gLeI := gI fun i j => some (.bool (decide (i ≤ j)))
abbrev gGtI := gI fun i j => some (.bool (decide (j < i)))
abbrev gGeI := gI fun i j => some (.bool (decide (j ≤ i)))
theorem opg_lt : OpG ki (rI0 fun i j => .bl (decide (i < j))) gLtI := opg_int0 (f := fun i j => .bool (decide (i < j))) fun _ _ _ => .bl _
theorem opg_le : OpG ki (rI0 fun i j => .bl (decide (i ≤ j))) gLeI := opg_int0 (f := fun i j => .bool (decide (i ≤ j))) fun _ _ _ => .bl _
theorem opg_gt : OpG ki (rI0 fun i j => .bl (decide (j < i))) gGtI := opg_int0 (f := fun i j => .bool (decide (j < i))) fun _ _ _ => .bl _
theorem opg_ge : OpG ki (rI0 fun i j => .bl (decide (j ≤ i))) gGeI := opg_int0 (f := fun i j => .bool (decide (j ≤ i))) fun _ _ _ => .bl _
/-- == of data -/
def gEq (d e : PyData) : Option Slot := if SeqAt.shaped d && SeqAt.shaped e then some (.p (.bool (PyData.eqv d e))) else none
def gNe (d e : PyData) : Option Slot := if SeqAt.shaped d && SeqAt.shaped e then some (.p (.bool (!PyData.eqv d e))) else none
theorem opg_eq : OpG ki (rEqD ki.K) gEq := fun H L x y sx sy d e s g hx dx hy dy hs Q post => by
  unfold gEq at hs
  split at hs
  · rename_i hc
    cases hs
    simp only [Bool.and_eq_true] at hc
    exact ⟨d, e, g.datDp hx dx, g.datDp hy dy, hc.1, hc.2, post _ _ (g.push fun F => .bl _)⟩
  · cases hs
theorem opg_ne : OpG ki (rNeD ki.K) gNe := fun H L x y sx sy d e s g hx dx hy dy hs Q post => by
  unfold gNe at hs
  split at hs
  · rename_i hc
    cases hs
    simp only [Bool.and_eq_true] at hc
    exact ⟨d, e, g.datDp hx dx, g.datDp hy dy, hc.1, hc.2, post _ _ (g.push fun F => .bl _)⟩
  · cases hs
/-- x in a list, a tuple of data; a text in a text -/
def gIn (neg : Bool) (d : PyData) : PyData → Option Slot
  | .list ds => if SeqAt.shaped d && SeqAt.shaped (.list ds) then some (.p (.bool (if neg then !ds.any fun z => PyData.eqv z d else ds.any fun z => PyData.eqv z d))) else none
  | .tuple ds => if SeqAt.shaped d && SeqAt.shaped (.tuple ds) then some (.p (.bool (if neg then !ds.any fun z => PyData.eqv z d else ds.any fun z => PyData.eqv z d))) else none
  | .str j => (match d with
    | .str i => some (.p (.bool (if neg then !(!(Builtin.Str.occurrences j i 0 j.length 1).isEmpty) else !(Builtin.Str.occurrences j i 0 j.length 1).isEmpty)))
    | _ => none)
  | _ => none
theorem opg_in : OpG ki (rInG ki.K) (gIn false) := fun H L x y sx sy d e s g hx dx hy dy hs Q post => by
  have d1 := g.datDp hx dx
  have d2 := g.datDp hy dy
  cases e with
  | list ds =>
    have hs : (if SeqAt.shaped d && SeqAt.shaped (.list ds) then some (Slot.p (.bool (ds.any fun z => PyData.eqv z d))) else none) = some s := hs
    split at hs
    · rename_i hc
      cases hs
      simp only [Bool.and_eq_true] at hc
      exact .inl ⟨d, ds, d1, d2, hc.1, hc.2, post _ _ (g.push fun F => .bl _)⟩
    · cases hs
  | tuple ds =>
    have hs : (if SeqAt.shaped d && SeqAt.shaped (.tuple ds) then some (Slot.p (.bool (ds.any fun z => PyData.eqv z d))) else none) = some s := hs
    split at hs
    · rename_i hc
      cases hs
      simp only [Bool.and_eq_true] at hc
      exact .inr (.inl ⟨d, ds, d1, d2, hc.1, hc.2, post _ _ (g.push fun F => .bl _)⟩)
    · cases hs
  | str j =>
    cases d with
    | str i => cases hs; exact .inr (.inr ⟨i, j, dpStr d1, dpStr d2, post _ _ (g.push fun F => .bl _)⟩)
    | _ => cases hs
  | _ => cases hs
theorem opg_notIn : OpG ki (rNotInG ki.K) (gIn true) := fun H L x y sx sy d e s g hx dx hy dy hs Q post => by
  have d1 := g.datDp hx dx
  have d2 := g.datDp hy dy
  cases e with
  | list ds =>
    have hs : (if SeqAt.shaped d && SeqAt.shaped (.list ds) then some (Slot.p (.bool (!ds.any fun z => PyData.eqv z d))) else none) = some s := hs
    split at hs
    · rename_i hc
      cases hs
      simp only [Bool.and_eq_true] at hc
      exact .inl ⟨d, ds, d1, d2, hc.1, hc.2, post _ _ (g.push fun F => .bl _)⟩
    · cases hs
  | tuple ds =>
    have hs : (if SeqAt.shaped d && SeqAt.shaped (.tuple ds) then some (Slot.p (.bool (!ds.any fun z => PyData.eqv z d))) else none) = some s := hs
    split at hs
    · rename_i hc
      cases hs
      simp only [Bool.and_eq_true] at hc
      exact .inr (.inl ⟨d, ds, d1, d2, hc.1, hc.2, post _ _ (g.push fun F => .bl _)⟩)
    · cases hs
  | str j =>
    cases d with
    | str i => cases hs; exact .inr (.inr ⟨i, j, dpStr d1, dpStr d2, post _ _ (g.push fun F => .bl _)⟩)
    | _ => cases hs
  | _ => cases hs
/-- an item -/
def gIdx : PyData → PyData → Option Slot
  | .list ds, .int i => (atI ds i).map .p
  | .tuple ds, .int i => (atI ds i).map .p
  | .str z, .int i => if smallL z.length then (atI z.cps.toList i).map fun c => .p (.str ⟨#[c]⟩) else none
  | _, _ => none
theorem atI_zip {vs : List V} {ds : List PyData} {i : Int} {d : PyData} (len : vs.length = ds.length) (h : atI ds i = some d) : ∃ v, atI vs i = some v ∧ (some v, Slot.p d) ∈ zP vs ds := by
  unfold atI at h ⊢
  rw [len]
  cases q : ixN ds.length i with
  | none => rw [q] at h; cases h
  | some j =>
    rw [q] at h
    have h : ds[j]? = some d := h
    have hj : j < vs.length := by rw [len]; exact (List.getElem?_eq_some_iff.mp h).1
    exact ⟨vs[j], List.getElem?_eq_getElem hj, zP_at (List.getElem?_eq_getElem hj) h⟩
theorem opg_idx : OpG ki (rIx ki.K) gIdx := fun H L x y sx sy d e s g hx dx hy dy hs Q post => by
  have d2 := g.datDp hy dy
  cases e with
  | int i =>
    cases dpInt d2
    cases d with
    | list ds =>
      obtain ⟨c, h1, h2⟩ := Option.map_eq_some_iff.mp (show (atI ds i).map Slot.p = some s from hs)
      subst h2
      obtain ⟨a, vs, rfl, _, hl, len, g1⟩ := g.view hx dx (.inr rfl)
      obtain ⟨v, h3, h4⟩ := atI_zip len h1
      exact .inl ⟨a, vs, i, v, rfl, rfl, hl rfl, h3, post v H (dropMid (A := [(some v, .p c)]) (g1.copy (List.mem_append_left _ h4)))⟩
    | tuple ds =>
      obtain ⟨c, h1, h2⟩ := Option.map_eq_some_iff.mp (show (atI ds i).map Slot.p = some s from hs)
      subst h2
      obtain ⟨a, vs, rfl, hl, _, len, g1⟩ := g.view hx dx (.inl rfl)
      obtain ⟨v, h3, h4⟩ := atI_zip len h1
      exact .inr (.inl ⟨a, vs, i, v, rfl, rfl, hl rfl, h3, post v H (dropMid (A := [(some v, .p c)]) (g1.copy (List.mem_append_left _ h4)))⟩)
    | str z =>
      have hs : (if smallL z.length then (atI z.cps.toList i).map fun c => Slot.p (.str ⟨#[c]⟩) else none) = some s := hs
      cases hz : smallL z.length with
      | false => rw [hz] at hs; cases hs
      | true =>
        rw [hz] at hs
        obtain ⟨c, h1, h2⟩ := Option.map_eq_some_iff.mp (show (atI z.cps.toList i).map (fun c => Slot.p (.str ⟨#[c]⟩)) = some s from hs)
        subst h2
        exact .inr (.inr ⟨z, i, c, dpStr (g.datDp hx dx), rfl, big_le (of_decide_eq_true hz), h1, post _ H (g.push fun F => .str _)⟩)
    | _ => cases hs
  | _ => cases d <;> cases hs
/-- is None -/
def isN : PyData → Bool
  | .none => true
  | _ => false
def gIsN (neg : Bool) (d e : PyData) : Option Slot := match e with
  | .none => some (.p (.bool (if neg then !isN d else isN d)))
  | _ => none
theorem dpNon {K : PySem.W.Frag} {H : Hp} {v : V} {d : PyData} (h : Dp K H v d) : decide (v = .non) = isN d := by
  cases h <;> rfl
theorem opg_isN : OpG ki (fun x y H Q => y = .non ∧ Q (.bl (decide (x = .non))) H) (gIsN false) := fun H L x y sx sy d e s g hx dx hy dy hs Q post => by
  have d1 := g.datDp hx dx
  have d2 := g.datDp hy dy
  cases d2 with
  | non =>
    cases hs
    exact ⟨rfl, by rw [dpNon d1]; exact post _ _ (g.push fun F => .bl _)⟩
  | _ => cases hs
theorem opg_notN : OpG ki (fun x y H Q => y = .non ∧ Q (.bl (!decide (x = .non))) H) (gIsN true) := fun H L x y sx sy d e s g hx dx hy dy hs Q post => by
  have d1 := g.datDp hx dx
  have d2 := g.datDp hy dy
  cases d2 with
  | non =>
    cases hs
    exact ⟨rfl, by rw [dpNon d1]; exact post _ _ (g.push fun F => .bl _)⟩
  | _ => cases hs
/-- -n -/
def gNeg : PyData → Option Slot
  | .int i => some (.p (.int (-i)))
  | _ => none
theorem ung_neg : UnG ki (rU fun i => .int (-i)) gNeg := fun H L x sx d s g hx dx hs Q post => by
  have d1 := g.datDp hx dx
  cases d1 with
  | int i => cases hs; exact ⟨i, rfl, post _ _ (g.push fun F => .int _)⟩
  | _ => cases hs

/-! ### built-ins -/
def g1I (f : Int → Option PyData) : List PyData → Option Slot
  | [.int i] => (f i).map .p
  | _ => none
theorem args1 {L : Row} {vs : List V} {d : PyData} {H : Hp} (g : G ki H L) (a : Args L vs [d]) : ∃ v s, vs = [v] ∧ (some v, s) ∈ L ∧ s.dat = some d ∧ Dp ki.K H v d := by
  cases a with
  | cons h1 h2 t => cases t; exact ⟨_, _, rfl, h1, h2, g.datDp h1 h2⟩
theorem args2 {L : Row} {vs : List V} {d e : PyData} {H : Hp} (g : G ki H L) (a : Args L vs [d, e]) : ∃ v w, vs = [v, w] ∧ Dp ki.K H v d ∧ Dp ki.K H w e := by
  cases a with
  | cons h1 h2 t =>
    cases t with
    | cons h3 h4 t => cases t; exact ⟨_, _, rfl, g.datDp h1 h2, g.datDp h3 h4⟩
def gAbs : List PyData → Option Slot
  | [.int i] => some (.p (.int (if i < 0 then -i else i)))
  | _ => none
theorem cg_abs : CallG ki (fun xs H Q => ∃ i, xs = [.int i] ∧ Q (.int (if i < 0 then -i else i)) H) gAbs := fun H L vs ds s g a hs Q post => by
  unfold gAbs at hs
  split at hs
  · cases hs
    obtain ⟨v, _, rfl, _, _, h⟩ := args1 g a
    cases dpInt h
    exact ⟨_, rfl, post _ _ (g.push fun F => .int _)⟩
  · cases hs
def gInt : List PyData → Option Slot
  | [.int i] => some (.p (.int i))
  | [.bool b] => some (.p (.int (if b then 1 else 0)))
  | _ => none
theorem cg_int : CallG ki (fun xs H Q => (∃ i, xs = [.int i] ∧ Q (.int i) H) ∨ ∃ k, xs = [.bl k] ∧ Q (.int (if k then 1 else 0)) H) gInt := fun H L vs ds s g a hs Q post => by
  unfold gInt at hs
  split at hs
  · cases hs
    obtain ⟨v, _, rfl, _, _, h⟩ := args1 g a
    cases dpInt h
    exact .inl ⟨_, rfl, post _ _ (g.push fun F => .int _)⟩
  · cases hs
    obtain ⟨v, _, rfl, _, _, h⟩ := args1 g a
    cases h
    exact .inr ⟨_, rfl, post _ _ (g.push fun F => .int _)⟩
  · cases hs
def gMax2 : List PyData → Option Slot
  | [.int i, .int j] => some (.p (.int (if j > i then j else i)))
  | _ => none
theorem cg_max2 : CallG ki (fun xs H Q => ∃ i j, xs = [.int i, .int j] ∧ Q (.int (if j > i then j else i)) H) gMax2 := fun H L vs ds s g a hs Q post => by
  unfold gMax2 at hs
  split at hs
  · cases hs
    obtain ⟨v, w, rfl, h, k⟩ := args2 g a
    cases dpInt h; cases dpInt k
    exact ⟨_, _, rfl, post _ _ (g.push fun F => .int _)⟩
  · cases hs
def gMin2 : List PyData → Option Slot
  | [.int i, .int j] => some (.p (.int (if j < i then j else i)))
  | _ => none
theorem cg_min2 : CallG ki (fun xs H Q => ∃ i j, xs = [.int i, .int j] ∧ Q (.int (if j < i then j else i)) H) gMin2 := fun H L vs ds s g a hs Q post => by
  unfold gMin2 at hs
  split at hs
  · cases hs
    obtain ⟨v, w, rfl, h, k⟩ := args2 g a
    cases dpInt h; cases dpInt k
    exact ⟨_, _, rfl, post _ _ (g.push fun F => .int _)⟩
  · cases hs
/-- len -/
def gLen : List PyData → Option Slot
  | [.list ds] => some (.p (.int ds.length))
  | [.tuple ds] => some (.p (.int ds.length))
  | [.str z] => if smallL z.length then some (.p (.int z.length)) else none
  | _ => none
theorem dp_lenAll {K : PySem.W.Frag} {H : Hp} : ∀ {vs : List V} {ds : List PyData}, DpAll K H vs ds → vs.length = ds.length
  | _, _, .nil => rfl
  | _, _, .cons _ t => by rw [List.length_cons, List.length_cons, dp_lenAll t]
theorem cg_len : CallG ki (fun xs H Q => (∃ p ys, xs = [.ref p] ∧ (SqL ki.K H p ys ∨ SqT ki.K H p ys) ∧ Q (.int ys.length) H) ∨ ∃ z, xs = [.str z] ∧ z.length ≤ sizeLine ∧ Q (.int z.length) H) gLen := fun H L vs ds s g a hs Q post => by
  unfold gLen at hs
  split at hs
  · cases hs
    obtain ⟨v, _, rfl, _, _, h⟩ := args1 g a
    cases h with
    | lst hq ha => exact .inl ⟨_, _, rfl, .inl hq, by rw [dp_lenAll ha]; exact post _ _ (g.push fun F => .int _)⟩
  · cases hs
    obtain ⟨v, _, rfl, _, _, h⟩ := args1 g a
    cases h with
    | tup hq ha => exact .inl ⟨_, _, rfl, .inr hq, by rw [dp_lenAll ha]; exact post _ _ (g.push fun F => .int _)⟩
  · rename_i z
    obtain ⟨v, _, rfl, _, _, h⟩ := args1 g a
    cases hz : smallL z.length with
    | false => rw [hz] at hs; cases hs
    | true =>
      rw [hz] at hs
      cases hs
      cases dpStr h
      exact .inr ⟨z, rfl, big_le (of_decide_eq_true hz), post _ _ (g.push fun F => .int _)⟩
  · cases hs
/-- list(x), tuple(x) of a list, a tuple -/
def gList : List PyData → Option Slot
  | [.list ds] => some (.l (ds.map .p))
  | [.tuple ds] => some (.l (ds.map .p))
  | _ => none
theorem cg_list : CallG ki (fun xs H Q => ∃ p ys, xs = [.ref p] ∧ (SqL ki.K H p ys ∨ SqT ki.K H p ys) ∧ ∀ l, H l = none → Q (.ref l) (upd H l (.lst ys))) gList := fun H L vs ds s g a hs Q post => by
  unfold gList at hs
  split at hs
  · cases hs
    obtain ⟨v, sv, rfl, hm, hd, h⟩ := args1 g a
    obtain ⟨p, vs, rfl, _, hl, len, g1⟩ := g.view hm hd (.inr rfl)
    exact ⟨p, vs, rfl, .inl (hl rfl), fun l nl => post _ _ (Good.newList g1 nl len)⟩
  · cases hs
    obtain ⟨v, sv, rfl, hm, hd, h⟩ := args1 g a
    obtain ⟨p, vs, rfl, hl, _, len, g1⟩ := g.view hm hd (.inl rfl)
    exact ⟨p, vs, rfl, .inr (hl rfl), fun l nl => post _ _ (Good.newList g1 nl len)⟩
  · cases hs
def gTuple : List PyData → Option Slot
  | [.list ds] => some (.p (.tuple ds))
  | [.tuple ds] => some (.p (.tuple ds))
  | _ => none
theorem dat_tup {s : Slot} {t : List PyData} (hd : s.dat = some (.tuple t)) : s = .p (.tuple t) := by
  cases s with
  | p d => cases hd; rfl
  | l xs =>
    obtain ⟨es, _, h⟩ := Option.map_eq_some_iff.mp (show (allP xs).map PyData.list = some _ from hd)
    cases h
  | _ => cases hd
theorem cg_tuple : CallG ki (fun xs H Q => ∃ p ys, xs = [.ref p] ∧ ((SqL ki.K H p ys ∧ ∀ l, H l = none → ∃ k : Bool, ∀ ob : Obj, ob.dict = none → Q (.ref l) (upd H l (hoT k ob ys))) ∨ (SqT ki.K H p ys ∧ Q (.ref p) H))) gTuple := fun H L vs ds s g a hs Q post => by
  unfold gTuple at hs
  split at hs
  · cases hs
    obtain ⟨v, sv, rfl, hm, hd, h⟩ := args1 g a
    obtain ⟨p, vs, rfl, _, hl, len, g1⟩ := g.view hm hd (.inr rfl)
    exact ⟨p, vs, rfl, .inl ⟨hl rfl, fun l nl => ⟨_, fun ob hob => post _ _ (Good.newTup g1 nl len (hoT_ok hob))⟩⟩⟩
  · cases hs
    obtain ⟨v, sv, rfl, hm, hd, h⟩ := args1 g a
    obtain ⟨p, vs, rfl, hl, _, len, g1⟩ := g.view hm hd (.inl rfl)
    have e := dat_tup hd
    subst e
    exact ⟨p, vs, rfl, .inr ⟨hl rfl, post _ _ (g.copy hm)⟩⟩
  · cases hs
/-- sum of a list of numbers; any, all of a list of truths -/
def ints? : List PyData → Option (List Int)
  | [] => some []
  | .int i :: ds => (ints? ds).map (i :: ·)
  | _ :: _ => none
def bools? : List PyData → Option (List Bool)
  | [] => some []
  | .bool i :: ds => (bools? ds).map (i :: ·)
  | _ :: _ => none
theorem dp_ints {K : PySem.W.Frag} {H : Hp} : ∀ {vs : List V} {ds : List PyData} {ns : List Int}, DpAll K H vs ds → ints? ds = some ns → vs = ns.map V.int
  | _, _, _, .nil, h => by cases h; rfl
  | _, d :: ds, ns, .cons h1 h2, h => by
    cases d with
    | int i =>
      obtain ⟨ms, q1, rfl⟩ := Option.map_eq_some_iff.mp (show (ints? ds).map (i :: ·) = some ns from h)
      rw [dpInt h1, dp_ints h2 q1]; rfl
    | _ => cases h
theorem dp_bools {K : PySem.W.Frag} {H : Hp} : ∀ {vs : List V} {ds : List PyData} {ns : List Bool}, DpAll K H vs ds → bools? ds = some ns → vs = ns.map V.bl
  | _, _, _, .nil, h => by cases h; rfl
  | _, d :: ds, ns, .cons h1 h2, h => by
    cases d with
    | bool i =>
      obtain ⟨ms, q1, rfl⟩ := Option.map_eq_some_iff.mp (show (bools? ds).map (i :: ·) = some ns from h)
      cases h1
      rw [dp_bools h2 q1]; rfl
    | _ => cases h
def gSum : List PyData → Option Slot
  | [.list ds] => (ints? ds).map fun ns => .p (.int ns.sum)
  | _ => none
theorem cg_sum : CallG ki (rSum ki.K) gSum := fun H L vs ds s g a hs Q post => by
  unfold gSum at hs
  split at hs
  · rename_i es
    obtain ⟨ns, q1, rfl⟩ := Option.map_eq_some_iff.mp hs
    obtain ⟨v, sv, rfl, hm, hd, h⟩ := args1 g a
    cases h with
    | lst hq ha => exact ⟨_, ns, rfl, by rw [← dp_ints ha q1]; exact hq, post _ _ (g.push fun F => .int _)⟩
  · cases hs
def gAny : List PyData → Option Slot
  | [.list ds] => (bools? ds).map fun ns => .p (.bool (ns.any id))
  | _ => none
def gAll : List PyData → Option Slot
  | [.list ds] => (bools? ds).map fun ns => .p (.bool (ns.all id))
  | _ => none
theorem cg_any : CallG ki (rAny ki.K) gAny := fun H L vs ds s g a hs Q post => by
  unfold gAny at hs
  split at hs
  · rename_i es
    obtain ⟨ns, q1, rfl⟩ := Option.map_eq_some_iff.mp hs
    obtain ⟨v, sv, rfl, hm, hd, h⟩ := args1 g a
    cases h with
    | lst hq ha => exact ⟨_, ns, rfl, by rw [← dp_bools ha q1]; exact hq, post _ _ (g.push fun F => .bl _)⟩
  · cases hs
theorem cg_all : CallG ki (rAll ki.K) gAll := fun H L vs ds s g a hs Q post => by
  unfold gAll at hs
  split at hs
  · rename_i es
    obtain ⟨ns, q1, rfl⟩ := Option.map_eq_some_iff.mp hs
    obtain ⟨v, sv, rfl, hm, hd, h⟩ := args1 g a
    cases h with
    | lst hq ha => exact ⟨_, ns, rfl, by rw [← dp_bools ha q1]; exact hq, post _ _ (g.push fun F => .bl _)⟩
  · cases hs
end
end MM
/-! M9: lists and dicts of a name's own, changed; isinstance -/
namespace MM
open PySem PySem.Spec L2

section
variable {ki : Ki} {H : Hp} {σ : L2.St} {env : Env} {T : Row}
theorem slotOut {i : Nat} {o : Option V} {s : Slot} (hl : σ.length = env.length) (ho : σ[i]? = some o) (hs : env[i]? = some s) (g : G ki H (zE σ env ++ T)) : G ki H ((o, s) :: (zE (σ.set i none) (env.set i .un) ++ T)) := by
  have g1 := takeOut hl i g
  rw [ho, hs] at g1
  exact g1.perm List.perm_middle
theorem slotIn {i : Nat} {o : Option V} {s : Slot} (hl : σ.length = env.length) (ho : σ[i]? = some o) (g : G ki H ((o, s) :: (zE (σ.set i none) (env.set i .un) ++ T))) : G ki H (zE σ (env.set i s) ++ T) := by
  have hi : i < σ.length := (List.getElem?_eq_some_iff.mp ho).1
  have g7 := zE_set (i := i) (by rw [List.length_set, List.length_set]; exact hl) (by rw [List.length_set]; omega) (toTop g)
  rw [List.set_set, List.set_set] at g7
  have ez : σ.set i o = σ := by
    apply List.ext_getElem?
    intro j
    by_cases hj : i = j
    · subst hj; rw [List.getElem?_set_self hi]; exact ho.symm
    · rw [List.getElem?_set_ne hj]
  rw [ez] at g7
  exact g7
end
section
variable {K : PySem.W.Frag} {H : Hp} {R : List Addr} {L : Row}
theorem zS_app {vs : List V} {xs : List Slot} (y : V) (s : Slot) (len : vs.length = xs.length) : zS (vs ++ [y]) (xs ++ [s]) = zS vs xs ++ [(some y, s)] := by
  unfold zS
  rw [List.map_append, List.zip_append (by rw [List.length_map]; exact len)]
  rfl
theorem Good.addTop {D : Addr} {xs : List Slot} {y : V} {s : Slot} (g : Good K H R ((some (.ref D), .l xs) :: (some y, s) :: L)) :
    ∃ vs, H D = some (.lst vs) ∧ vs.length = xs.length ∧ Good K (upd H D (.lst (vs ++ [y]))) R ((some (.ref D), .l (xs ++ [s])) :: L) := by
  obtain ⟨a, vs, e, ha, len, g1⟩ := g.open_
  cases e
  refine ⟨vs, ha, len, ?_⟩
  have g2 : Good K H (D :: R) (zS (vs ++ [y]) (xs ++ [s]) ++ L) := by
    rw [zS_app y s len, List.append_assoc]
    exact g1
  exact (g2.write List.mem_cons_self).close upd_same (by rw [List.length_append, List.length_append, len]; rfl)
theorem Good.setTop {D : Addr} {xs : List Slot} {y : V} {s : Slot} {j : Nat} (hj : j < xs.length) (g : Good K H R ((some (.ref D), .l xs) :: (some y, s) :: L)) :
    ∃ vs, H D = some (.lst vs) ∧ vs.length = xs.length ∧ Good K (upd H D (.lst (vs.set j y))) R ((some (.ref D), .l (xs.set j s)) :: L) := by
  obtain ⟨a, vs, e, ha, len, g1⟩ := g.open_
  cases e
  refine ⟨vs, ha, len, ?_⟩
  have g2 := zE_set (σ := vs.map some) (env := xs) (by rw [List.length_map]; exact len) hj g1
  have e : (vs.map some).set j (some y) = (vs.set j y).map some := by rw [List.map_set]
  rw [e] at g2
  exact (Good.write (u := .lst (vs.set j y)) g2 List.mem_cons_self).close upd_same (by rw [List.length_set, List.length_set, len])
/-- two lists, the second one's items go to the first one's end -/
theorem Good.extTop {D B : Addr} {xs ys : List Slot} (g : Good K H R ((some (.ref D), .l xs) :: (some (.ref B), .l ys) :: L)) :
    ∃ vs ws, H D = some (.lst vs) ∧ H B = some (.lst ws) ∧ vs.length = xs.length ∧ ws.length = ys.length ∧ Good K (upd H D (.lst (vs ++ ws))) R ((some (.ref D), .l (xs ++ ys)) :: L) := by
  obtain ⟨a, vs, e, ha, len, g1⟩ := g.open_
  cases e
  have g1' : Good K H (D :: R) ((some (.ref B), .l ys) :: (zS vs xs ++ L)) := g1.perm List.perm_middle
  obtain ⟨b, ws, e, hb, len2, g2⟩ := g1'.open_
  cases e
  have g3 : Good K H (D :: R) (zS ws ys ++ (zS vs xs ++ L)) := g2.free
  have g4 : Good K H (D :: R) (zS (vs ++ ws) (xs ++ ys) ++ L) := by
    have : zS (vs ++ ws) (xs ++ ys) = zS vs xs ++ zS ws ys := by
      unfold zS
      rw [List.map_append, List.zip_append (by rw [List.length_map]; exact len)]
    rw [this, List.append_assoc]
    refine g3.perm ?_
    rw [← List.append_assoc, ← List.append_assoc]
    exact List.Perm.append_right _ List.perm_append_comm
  exact ⟨vs, ws, ha, hb, len, len2, (g4.write List.mem_cons_self).close upd_same (by rw [List.length_append, List.length_append, len, len2])⟩
end
/-- what is laid into something: plain where it can be -/
def Slot.fz (s : Slot) : Slot := match s.dat with
  | some d => .p d
  | none => s
theorem Good.fz {K : PySem.W.Frag} {H : Hp} {R : List Addr} {L : Row} {v : V} {s : Slot} (g : Good K H R ((some v, s) :: L)) : Good K H R ((some v, s.fz) :: L) := by
  unfold Slot.fz
  cases q : s.dat with
  | none => exact g
  | some d => exact g.frz q

section
variable {ki : Ki} {W : WX} {fx : FxL} {te ti tv ty tx : TE} {me mi mv mk md : ExM}
theorem envLt {σ : L2.St} {env : Env} {i : Nat} {s : Slot} (hl : σ.length = env.length) (h : env[i]? = some s) : i < σ.length := by
  have := (List.getElem?_eq_some_iff.mp h).1
  omega
/-- x.append(e) -/
def apK (i : Nat) (o : Opd) : StM := fun env => match o with
  | .val s => (match env[i]? with
    | some (.l xs) => if smallL xs.length then some (.nx, env.set i (.l (xs ++ [s.fz]))) else none
    | _ => none)
  | .ref _ => none
def isL (i : Nat) (k : StM) : StM := fun env => match env[i]? with
  | some (.l _) => k env
  | _ => none
theorem isL_inv {i : Nat} {k : StM} {env env' : Env} {fl : Fl} (h : isL i k env = some (fl, env')) : (∃ xs, env[i]? = some (.l xs)) ∧ k env = some (fl, env') := by
  unfold isL at h
  split at h
  · rename_i xs q
    exact ⟨⟨xs, q⟩, h⟩
  · cases h
def sApp (i : Nat) (me : ExM) : StM := isL i (bndS me (apK i))
theorem lst_at {σ : L2.St} {env : Env} {i : Nat} {xs : List Slot} {H : Hp} {T : Row} (hl : σ.length = env.length) (g : G ki H (zE σ env ++ T)) (h : env[i]? = some (.l xs)) : ∃ l vs, σ[i]? = some (some (.ref l)) ∧ H l = some (.lst vs) ∧ vs.length = xs.length := by
  obtain ⟨o, ho⟩ := lenGet hl h
  have g1 := slotOut hl ho h g
  obtain ⟨a, vs, e, ha, len, _⟩ := g1.open_
  subst e
  exact ⟨a, vs, ho, ha, len⟩
theorem ty_list {K : PySem.W.Frag} {H : Hp} {l : Addr} {vs : List V} (h : H l = some (.lst vs)) : tyV K "list" (.ref l) H := .inl ⟨rfl, vs, SqL.of h⟩
theorem rds_app {i : Nat} (h : Rd ki W te me) : RdS ki W fx (tDrop (tBM ki.K "list" rAppend (tVar i) (tCons te tNil))) (sApp i me) := fun σ H env T fl env' hl hf gd e D post => by
  obtain ⟨⟨xs0, hx0⟩, e⟩ := isL_inv e
  obtain ⟨l, vs0, ho, hv0, _⟩ := lst_at hl gd hx0
  refine ⟨.ref l, ho, ty_list hv0, ?_⟩
  refine h.useS hl hf gd e post fun o v H1 env1 n1 g1 i1 e => ?_
  unfold apK at e
  cases o with
  | ref _ => cases e
  | val s =>
    simp only at e
    split at e
    · rename_i xs hx
      split at e
      · rename_i hz
        cases e
        have hl1 : σ.length = env1.length := hl.trans n1.symm
        have g2 := slotOut hl1 ho hx g1
        have g3 : G ki H1 ((some v, s) :: (some (V.ref l), .l xs) :: (zE (σ.set i none) (env1.set i .un) ++ T)) := g2.perm ((List.Perm.cons _ List.perm_middle).trans (List.Perm.swap _ _ _))
        have g4 := g3.fz
        have g5 : G ki H1 ((some (V.ref l), .l xs) :: (some v, s.fz) :: (zE (σ.set i none) (env1.set i .un) ++ T)) := g4.perm (List.Perm.swap _ _ _)
        obtain ⟨vs, hv, len, g6⟩ := g5.addTop
        refine ⟨l, vs, v, rfl, rfl, hv, Nat.lt_of_lt_of_le (show vs.length < 1000001 by have := of_decide_eq_true hz; omega) (by decide), ?_⟩
        exact post σ _ hl (by rw [List.length_set]; exact n1) hf (slotIn hl1 ho g6)
      · cases e
    · cases e
/-- x.extend(e), e a new list -/
def exK (i : Nat) (o : Opd) : StM := fun env => match o with
  | .val (.l ys) => (match env[i]? with
    | some (.l xs) => if smallL (xs.length + ys.length) then some (.nx, env.set i (.l (xs ++ ys))) else none
    | _ => none)
  | _ => none
def sExt (i : Nat) (me : ExM) : StM := isL i (bndS me (exK i))
theorem rds_ext {i : Nat} (h : Rd ki W te me) : RdS ki W fx (tDrop (tBM ki.K "list" rExtend (tVar i) (tCons te tNil))) (sExt i me) := fun σ H env T fl env' hl hf gd e D post => by
  obtain ⟨⟨xs0, hx0⟩, e⟩ := isL_inv e
  obtain ⟨l, vs0, ho, hv0, _⟩ := lst_at hl gd hx0
  refine ⟨.ref l, ho, ty_list hv0, ?_⟩
  refine h.useS hl hf gd e post fun o v H1 env1 n1 g1 i1 e => ?_
  unfold exK at e
  split at e
  · rename_i ys
    split at e
    · rename_i xs hx
      split at e
      · rename_i hz
        cases e
        have hl1 : σ.length = env1.length := hl.trans n1.symm
        have g2 := slotOut hl1 ho hx g1
        have g3 : G ki H1 ((some (V.ref l), .l xs) :: (some v, .l ys) :: (zE (σ.set i none) (env1.set i .un) ++ T)) := g2.perm (List.Perm.cons _ List.perm_middle)
        obtain ⟨b, hb⟩ : ∃ b, v = .ref b := by
          obtain ⟨b, _, e, _⟩ := (show G ki H1 ((some v, .l ys) :: (some (V.ref l), .l xs) :: (zE (σ.set i none) (env1.set i .un) ++ T)) from g3.perm (List.Perm.swap _ _ _)).open_
          cases e; exact ⟨b, rfl⟩
        subst hb
        obtain ⟨vs, ws, hv, hw, len, len2, g6⟩ := g3.extTop
        have hz := of_decide_eq_true hz
        refine ⟨l, b, vs, ws, rfl, rfl, hv, hw, big_le (by omega), ?_⟩
        exact post σ _ hl (by rw [List.length_set]; exact n1) hf (slotIn hl1 ho g6)
      · cases e
    · cases e
  · cases e
/-- x[i] = e, x a list of a name's own -/
def stK (i : Nat) (s : Slot) (d : PyData) : StM := fun env => match d with
  | .int k => (match env[i]? with
    | some (.l xs) => (ixN xs.length k).bind fun j => some (.nx, env.set i (.l (xs.set j s.fz)))
    | _ => none)
  | _ => none
def sSetL (i : Nat) (me mi : ExM) : StM := bndS me fun o => match o with
  | .val s => isL i (bndS mi fun oi => bndS (look oi) fun d => stK i s d)
  | .ref _ => fun _ => none
theorem lookS_inv {o : Opd} {k : PyData → StM} {env env' : Env} {fl : Fl} (h : bndS (look o) k env = some (fl, env')) : ∃ d, (o.get env).dat = some d ∧ k d env = some (fl, env') := by
  unfold bndS look at h
  cases q : (o.get env).dat with
  | none => rw [q] at h; cases h
  | some d => rw [q] at h; exact ⟨d, rfl, h⟩
theorem ixN_lt {n : Nat} {k : Int} {j : Nat} (h : ixN n k = some j) : j < n := (ixN_seq h).2.1
theorem Rd.useS' {E T : Row} {σ : L2.St} {H : Hp} {env env' : Env} {k : Opd → StM} {fl : Fl} {D : Ends} (h : Rd ki W te me) (hl : σ.length = env.length) (hf : Fx fx σ) (g : G ki H (zE σ env ++ (E ++ T))) (e : bndS me k env = some (fl, env')) (post : PstS ki W fx T D env.length fl env') {Q1 : VK}
    (go : ∀ o v H1 env1, env1.length = env.length → G ki H1 (zE σ env1 ++ ((some v, o.slot) :: (E ++ T))) → o.is σ v → k o env1 = some (fl, env') → Q1 v H1) : te σ H Q1 := by
  unfold bndS at e
  cases hm : me env with
  | none => rw [hm] at e; cases e
  | some p =>
    obtain ⟨r1, e1⟩ := p
    rw [hm] at e
    cases r1 with
    | ok o => exact h σ H env (E ++ T) _ _ hl g hm Q1 fun v H1 hn g1 ho => go o v H1 e1 hn g1 ho e
    | ex x =>
      cases e
      exact h σ H env (E ++ T) _ _ hl g hm Q1 fun cls d H1 hn g1 hx => post cls d σ H1 hl hn hf (dropMid g1) hx
theorem rds_setL {i : Nat} (h : Rd ki W te me) (h2 : Rd ki W ti mi) : RdS ki W fx (tAsg te (gSub (tVar i) ti rSetL)) (sSetL i me mi) := fun σ H env T fl env' hl hf gd e D post => by
  refine h.useS hl hf gd e post fun o v H1 env1 n1 g1 i1 e => ?_
  cases o with
  | ref _ => cases e
  | val s =>
    obtain ⟨⟨xs0, hx0⟩, e⟩ := isL_inv e
    have hl1 : σ.length = env1.length := hl.trans n1.symm
    obtain ⟨l, vs0, ho, hv0, _⟩ := lst_at hl1 g1 hx0
    refine ⟨.ref l, ho, ?_⟩
    refine h2.useS' (E := [(some v, s)]) hl1 hf g1 e (by rw [n1]; exact post) fun oi vi H2 env2 n2 g2 i2 e => ?_
    obtain ⟨d, q, e⟩ := lookS_inv e
    unfold stK at e
    split at e
    · rename_i k
      split at e
      · rename_i xs hx
        obtain ⟨j, hj, e⟩ := Option.bind_eq_some_iff.mp e
        cases e
        have hl2 : σ.length = env2.length := hl1.trans n2.symm
        have dk := dpInt (g2.datDp (Opd.memD (A := []) i2 q) q)
        subst dk
        have g3 : G ki H2 (zE σ env2 ++ ((some v, s) :: T)) := dropMid (E := [_]) g2
        have g4 := slotOut hl2 ho hx g3
        have g5 : G ki H2 ((some v, s) :: (some (V.ref l), .l xs) :: (zE (σ.set i none) (env2.set i .un) ++ T)) := g4.perm ((List.Perm.cons _ List.perm_middle).trans (List.Perm.swap _ _ _))
        have g6 : G ki H2 ((some (V.ref l), .l xs) :: (some v, s.fz) :: (zE (σ.set i none) (env2.set i .un) ++ T)) := g5.fz.perm (List.Perm.swap _ _ _)
        obtain ⟨vs, hv, len, g7⟩ := g6.setTop (ixN_lt hj)
        refine ⟨l, vs, k, j, rfl, rfl, hv, by rw [len]; exact hj, ?_⟩
        exact post σ _ hl (by rw [List.length_set]; exact n2.trans n1) hf (slotIn hl2 ho g7)
      · cases e
    · cases e
end

/-! ### dicts -/
def keyD : PyData → Option Key
  | .int i => some (.inl i)
  | .str x => some (.inr x)
  | _ => none
def valS (ks : List (Key × Slot)) (k : Key) : Option Slot := (ks.find? fun kv => decide (kv.1 = k)).map (·.2)
def putS (ks : List (Key × Slot)) (k : Key) (s : Slot) : List (Key × Slot) :=
  if (ks.any fun kv => decide (kv.1 = k)) = true then ks.map (fun kv => if kv.1 = k then (kv.1, s) else kv) else ks ++ [(k, s)]
theorem keyD_V {K : PySem.W.Frag} {H : Hp} {v : V} {d : PyData} {k : Key} (h : Dp K H v d) (e : keyD d = some k) : v = kV k := by
  cases h <;> first | (cases e; rfl) | cases e
theorem valS_at : ∀ {vs : List (Key × V)} {ks : List (Key × Slot)} {k : Key}, vs.map (·.1) = ks.map (·.1) → (∀ s, valS ks k = some s → ∃ v, valV vs k = some v ∧ (some v, s) ∈ zM vs ks) ∧ (valS ks k = none → valV vs k = none)
  | [], [], _, _ => ⟨fun _ h => (nomatch h), fun _ => rfl⟩
  | (a, v) :: vs, (b, s) :: ks, k, e => by
    simp only [List.map_cons, List.cons.injEq] at e
    obtain ⟨rfl, e⟩ := e
    obtain ⟨h1, h2⟩ := valS_at (k := k) e
    by_cases q : a = k
    · refine ⟨fun s' h => ?_, fun h => ?_⟩
      · have : s = s' := by simpa [valS, List.find?_cons, q] using h
        subst this
        exact ⟨v, valV_pos q, List.mem_cons_self⟩
      · simp [valS, List.find?_cons, q] at h
    · have e1 : valS ((a, s) :: ks) k = valS ks k := by simp [valS, List.find?_cons, q]
      rw [e1, valV_neg (p := (a, v)) q]
      exact ⟨fun s' h => let ⟨w, p1, p2⟩ := h1 s' h; ⟨w, p1, List.mem_cons_of_mem _ p2⟩, h2⟩
  | [], _ :: _, _, e => by simp at e
  | _ :: _, [], _, e => by simp at e
theorem keys_any : ∀ {vs : List (Key × V)} {ks : List (Key × Slot)} (k : Key), vs.map (·.1) = ks.map (·.1) → (vs.any fun kv => decide (kv.1 = k)) = (ks.any fun kv => decide (kv.1 = k))
  | [], [], _, _ => rfl
  | (a, v) :: vs, (b, s) :: ks, k, e => by
    simp only [List.map_cons, List.cons.injEq] at e
    obtain ⟨rfl, e⟩ := e
    rw [List.any_cons, List.any_cons, keys_any k e]
  | [], _ :: _, _, e => by simp at e
  | _ :: _, [], _, e => by simp at e
theorem put_rep {K : PySem.W.Frag} {H : Hp} {R : List Addr} {L : Row} {k : Key} {v : V} {d : PyData} : ∀ {vs : List (Key × V)} {ks : List (Key × Slot)}, vs.map (·.1) = ks.map (·.1) → Good K H R (zM vs ks ++ ((some v, .p d) :: L)) →
    Good K H R (zM (vs.map fun kv => if kv.1 = k then (kv.1, v) else kv) (ks.map fun kv => if kv.1 = k then (kv.1, Slot.p d) else kv) ++ ((some v, .p d) :: L)) ∧ (vs.map fun kv => if kv.1 = k then (kv.1, v) else kv).map (·.1) = (ks.map fun kv => if kv.1 = k then (kv.1, Slot.p d) else kv).map (·.1)
  | [], [], _, g => ⟨g, rfl⟩
  | (a, x) :: vs, (b, s) :: ks, e, g => by
    simp only [List.map_cons, List.cons.injEq] at e
    obtain ⟨rfl, e⟩ := e
    have main : ∀ {L' : Row}, Good K H R (zM vs ks ++ ((some v, .p d) :: L')) → Good K H R (zM (vs.map fun kv => if kv.1 = k then (kv.1, v) else kv) (ks.map fun kv => if kv.1 = k then (kv.1, Slot.p d) else kv) ++ ((some v, .p d) :: L')) := fun g => (put_rep e g).1
    have g0 : Good K H R ((some x, s) :: (zM vs ks ++ ((some v, .p d) :: L))) := g
    have h2 := (put_rep (k := k) e g0.drop).2
    by_cases q : a = k
    · simp only [List.map_cons, if_pos q]
      have g1 := (put_rep (k := k) e g0.drop).1
      exact ⟨g1.copy (List.mem_append_right _ List.mem_cons_self), by rw [h2]⟩
    · simp only [List.map_cons, if_neg q]
      have g1 : Good K H R (zM vs ks ++ ((some v, .p d) :: ((some x, s) :: L))) := g0.perm ((List.perm_middle (l₁ := zM vs ks) (l₂ := (some v, Slot.p d) :: L)).symm.trans (List.Perm.append_left _ (List.Perm.swap _ _ _)))
      have g2 := main g1
      refine ⟨?_, by rw [h2]⟩
      exact g2.perm ((List.Perm.append_left _ (List.Perm.swap _ _ _)).trans List.perm_middle)
  | [], _ :: _, e, _ => by simp at e
  | _ :: _, [], e, _ => by simp at e
theorem Good.putTop {K : PySem.W.Frag} {H : Hp} {R : List Addr} {L : Row} {D : Addr} {ks : List (Key × Slot)} {k : Key} {v : V} {d : PyData} (g : Good K H R ((some (.ref D), .m ks) :: (some v, .p d) :: L)) :
    ∃ vs, H D = some (.dK vs) ∧ vs.length = ks.length ∧ Good K (upd H D (.dK (putK vs k v))) R ((some (.ref D), .m (putS ks k (.p d))) :: L) := by
  obtain ⟨a, vs, e, ha, keys, g1⟩ := g.openM
  cases e
  have len : vs.length = ks.length := by have := congrArg List.length keys; simpa using this
  refine ⟨vs, ha, len, ?_⟩
  unfold putK putS
  rw [keys_any k keys]
  by_cases q : (ks.any fun kv => decide (kv.1 = k)) = true
  · rw [if_pos q, if_pos q]
    obtain ⟨g2, k2⟩ := put_rep (k := k) keys g1
    have g4 : Good K H (D :: R) (zM (vs.map fun kv => if kv.1 = k then (kv.1, v) else kv) (ks.map fun kv => if kv.1 = k then (kv.1, Slot.p d) else kv) ++ L) := by
      have g5 : Good K H (D :: R) ((some v, Slot.p d) :: (zM (vs.map fun kv => if kv.1 = k then (kv.1, v) else kv) (ks.map fun kv => if kv.1 = k then (kv.1, Slot.p d) else kv) ++ L)) := g2.perm List.perm_middle
      exact g5.drop
    exact (g4.write List.mem_cons_self).closeM upd_same k2
  · rw [if_neg q, if_neg q]
    have g2 : Good K H (D :: R) (zM (vs ++ [(k, v)]) (ks ++ [(k, Slot.p d)]) ++ L) := by
      have : zM (vs ++ [(k, v)]) (ks ++ [(k, Slot.p d)]) = zM vs ks ++ [(some v, .p d)] := by
        unfold zM
        rw [List.map_append, List.map_append, List.zip_append (by rw [List.length_map, List.length_map]; exact len)]
        rfl
      rw [this, List.append_assoc]
      exact g1
    exact (g2.write List.mem_cons_self).closeM upd_same (by rw [List.map_append, List.map_append, keys]; rfl)
section
variable {ki : Ki} {W : WX} {fx : FxL} {te ti tv ty tx : TE} {me mi mv mk md : ExM}
theorem dct_at {σ : L2.St} {env : Env} {i : Nat} {xs : List (Key × Slot)} {H : Hp} {T : Row} (hl : σ.length = env.length) (g : G ki H (zE σ env ++ T)) (h : env[i]? = some (.m xs)) : ∃ l vs, σ[i]? = some (some (.ref l)) ∧ H l = some (.dK vs) ∧ vs.map (·.1) = xs.map (·.1) := by
  obtain ⟨o, ho⟩ := lenGet hl h
  have g1 := slotOut hl ho h g
  obtain ⟨a, vs, e, ha, len, _⟩ := g1.openM
  subst e
  exact ⟨a, vs, ho, ha, len⟩
def isM {α : Type} (i : Nat) (k : Env → Option α) : Env → Option α := fun env => match env[i]? with
  | some (.m _) => k env
  | _ => none
theorem isM_inv {α : Type} {i : Nat} {k : Env → Option α} {env : Env} {r : α} (h : isM i k env = some r) : (∃ xs, env[i]? = some (.m xs)) ∧ k env = some r := by
  unfold isM at h
  split at h
  · rename_i xs q
    exact ⟨⟨xs, q⟩, h⟩
  · cases h
/-- d.get(k, x), d a dict of a name's own -/
def dgK (i : Nat) (d : PyData) (od : Opd) : ExM := fun env => match env[i]?, keyD d with
  | some (.m ks), some k => (match valS ks k with
    | some (.p e) => some (.ok (.val (.p e)), env)
    | none => (match od with
      | .val s => some (.ok (.val s), env)
      | .ref _ => none)
    | _ => none)
  | _, _ => none
def mDGet2 (i : Nat) (mk md : ExM) : ExM := isM i (bnd mk fun ok => bnd md fun od => bnd (look ok) fun d => dgK i d od)
/-- a plain thing of a dict of a name's own, copied -/
theorem dct_get {σ : L2.St} {env : Env} {i : Nat} {xs : List (Key × Slot)} {H : Hp} {T : Row} {k : Key} (hl : σ.length = env.length) (g : G ki H (zE σ env ++ T)) (h : env[i]? = some (.m xs)) :
    ∃ l vs, σ[i]? = some (some (.ref l)) ∧ H l = some (.dK vs) ∧ (∀ e, valS xs k = some (.p e) → ∃ v, valV vs k = some v ∧ G ki H ((some v, .p e) :: (zE σ env ++ T))) ∧ (valS xs k = none → valV vs k = none) := by
  obtain ⟨o, ho⟩ := lenGet hl h
  have g1 := slotOut hl ho h g
  obtain ⟨a, vs, e, ha, keys, g2⟩ := g1.openM
  subst e
  obtain ⟨q1, q2⟩ := valS_at (k := k) keys
  refine ⟨a, vs, ho, ha, fun d hd => ?_, q2⟩
  obtain ⟨v, e1, e2⟩ := q1 _ hd
  refine ⟨v, e1, ?_⟩
  have g3 := g2.copy (o := some v) (d := d) (List.mem_append_left _ e2)
  have g4 : Good ki.K H [a] (zM vs xs ++ ((some v, .p d) :: (zE (σ.set i none) (env.set i .un) ++ T))) := g3.perm List.perm_middle.symm
  have g5 := g4.closeM ha keys
  have g6 : G ki H ((some (V.ref a), .m xs) :: (zE (σ.set i none) (env.set i .un) ++ ((some v, .p d) :: T))) := g5.perm (List.Perm.cons _ List.perm_middle.symm)
  have g7 := slotIn hl ho g6
  have ee : env.set i (.m xs) = env := by
    apply List.ext_getElem?
    intro j
    by_cases hj : i = j
    · subst hj; rw [List.getElem?_set_self (List.getElem?_eq_some_iff.mp h).1]; exact h.symm
    · rw [List.getElem?_set_ne hj]
  rw [ee] at g7
  exact g7.perm List.perm_middle
theorem rd_dget2 {i : Nat} (h1 : Rd ki W ty mk) (h2 : Rd ki W tx md) : Rd ki W (tDGet2 (tVar i) ty tx) (mDGet2 i mk md) := fun σ H env T r env' hl gd e Q post => by
  obtain ⟨⟨xs0, hx0⟩, e⟩ := isM_inv e
  obtain ⟨l, vs0, ho, hv0, _⟩ := dct_at hl gd hx0
  refine ⟨.ref l, ho, l, rfl, .inl ⟨vs0, .inl hv0⟩, ?_⟩
  refine h1.use (E := []) hl gd e post fun o1 v1 H1 env1 n1 g1 i1 e => ?_
  refine h2.use (E := [(some v1, o1.slot)]) (hl.trans n1.symm) g1 e (by rw [n1]; exact post) fun o2 v2 H2 env2 n2 g2 i2 e => ?_
  obtain ⟨d, q, e⟩ := look_inv e
  have hl2 : σ.length = env2.length := hl.trans (n2.trans n1).symm
  unfold dgK at e
  split at e
  · rename_i ks k hx hk
    have hkv := keyD_V (g2.datDp (Opd.memD (A := [(some v2, o2.slot)]) i1 q) q) hk
    subst hkv
    obtain ⟨l', vs, ho', hv, hg1, hg2⟩ := dct_get (k := k) hl2 g2 hx
    rw [ho] at ho'
    cases ho'
    refine ⟨valV vs k, .inl ⟨vs, k, .inl hv, rfl, rfl⟩, ?_⟩
    split at e
    · rename_i d2 hd2
      cases e
      obtain ⟨v, ev, g3⟩ := hg1 _ hd2
      rw [ev]
      exact post v H2 (n2.trans n1) (settle (E := [(some v2, o2.slot), (some (kV k), o1.slot)]) g3) trivial
    · rename_i hd2
      rw [hg2 hd2]
      split at e
      · rename_i s2 _
        cases e
        refine post v2 H2 (n2.trans n1) ?_ trivial
        have g3 : G ki H2 ((zE σ env' ++ [(some v2, s2)]) ++ ([(some (kV k), o1.slot)] ++ T)) := by rw [List.append_assoc]; exact g2
        have g4 := dropMid g3
        rw [List.append_assoc] at g4
        exact g4
      · cases e
    · cases e
  · cases e
/-- d[k] = e, d a dict of a name's own -/
def dpK (i : Nat) (e d : PyData) : StM := fun env => match env[i]?, keyD d with
  | some (.m ks), some k => if smallL ks.length then some (.nx, env.set i (.m (putS ks k (.p e)))) else none
  | _, _ => none
def sDSet (i : Nat) (mv mk : ExM) : StM := bndS mv fun ov => match ov.own with
  | some e => isM i (bndS mk fun ok => bndS (look ok) fun d => dpK i e d)
  | none => fun _ => none
theorem rds_dput {i : Nat} (h1 : Rd ki W tv mv) (h2 : Rd ki W ty mk) : RdS ki W fx (sDPut (tVar i) ty tv) (sDSet i mv mk) := fun σ H env T fl env' hl hf gd e D post => by
  refine h1.useS hl hf gd e post fun o v H1 env1 n1 g1 i1 e => ?_
  cases o with
  | ref _ => cases e
  | val s =>
    have e : (match s.dat with
      | some e => isM i (bndS mk fun ok => bndS (look ok) fun d => dpK i e d)
      | none => fun _ => none) env1 = some (fl, env') := e
    cases q : s.dat with
    | none => rw [q] at e; cases e
    | some dv =>
      rw [q] at e
      obtain ⟨⟨xs0, hx0⟩, e⟩ := isM_inv e
      have hl1 : σ.length = env1.length := hl.trans n1.symm
      obtain ⟨l, vs0, ho, hv0, _⟩ := dct_at hl1 g1 hx0
      refine ⟨.ref l, ho, ?_⟩
      refine h2.useS' (E := [(some v, s)]) hl1 hf g1 e (by rw [n1]; exact post) fun oi vi H2 env2 n2 g2 i2 e => ?_
      obtain ⟨d, q2, e⟩ := lookS_inv e
      have hl2 : σ.length = env2.length := hl1.trans n2.symm
      unfold dpK at e
      split at e
      · rename_i ks k hx hk
        split at e
        · rename_i hz
          cases e
          have hkv := keyD_V (g2.datDp (Opd.memD (A := []) i2 q2) q2) hk
          subst hkv
          have g3 : G ki H2 (zE σ env2 ++ ((some v, s) :: T)) := dropMid (E := [_]) g2
          have g4 := slotOut hl2 ho hx g3
          have g5 : G ki H2 ((some v, s) :: (some (V.ref l), .m ks) :: (zE (σ.set i none) (env2.set i .un) ++ T)) := g4.perm ((List.Perm.cons _ List.perm_middle).trans (List.Perm.swap _ _ _))
          have g6 : G ki H2 ((some (V.ref l), .m ks) :: (some v, .p dv) :: (zE (σ.set i none) (env2.set i .un) ++ T)) := (g5.frz q).perm (List.Perm.swap _ _ _)
          obtain ⟨vs, hv, len, g7⟩ := g6.putTop (k := k)
          have hz := of_decide_eq_true hz
          refine ⟨l, _, rfl, .inl ⟨vs, k, hv, rfl, Nat.lt_of_lt_of_le (show vs.length < 1000001 by omega) (by decide), rfl⟩, ?_⟩
          exact post σ _ hl (by rw [List.length_set]; exact n2.trans n1) hf (slotIn hl2 ho g7)
        · cases e
      · cases e
/-- {} -/
def mDNew : ExM := ret (.val (.m []))
theorem rd_dnew : Rd ki W tDNewK mDNew := fun σ H env T r env' hl g e Q post => by
  cases e
  intro p np
  have g1 := Good.reserve (u := .dK []) g np
  have g2 : Good ki.K (upd H p (.dK [])) [p] (zM [] [] ++ (zE σ env ++ T)) := g1
  exact post _ _ rfl (toTop (g2.closeM upd_same rfl)) trivial
end
end MM
/-! M10a: rules over the heap: dict() of a tuple of pairs, the items of a dict sorted, rows of data sorted -/
namespace L2
open PySem PySem.Spec PyProof.Rows
section
variable {X : Cx} {pins : List (Addr × Obj)} {σ : St} {H : Hp} {s : Shared}
theorem call_or {f : Value} {r1 r2 : List V → Hp → VK → Prop} (h1 : CallR X f r1) (h2 : CallR X f r2) : CallR X f (fun xs H Q => r1 xs H Q ∨ r2 xs H Q) := by
  intro pins s σ H xs us Q I r h
  rcases h with h | h
  · exact h1 pins s σ H xs us Q I r h
  · exact h2 pins s σ H xs us Q I r h
/-- a tuple that is an object known whole -/
def TupN (K : PySem.W.Frag) (H : Hp) (a : Addr) (xs : List V) : Prop :=
  (∃ (o : Obj) (its : Array Value) (n : Nat), K.lookup a = some o ∧ o.cls = .type "tuple" ∧ o.data = .seq its n ∧ its.size ≤ sizeLine ∧ Vals xs its.toList ∧ o.dict = none) ∨
    ∃ o : Obj, H a = some (.frz o (.tup xs)) ∧ o.dict = none
theorem tupN_at {a : Addr} {xs : List V} (I : Inv X pins σ H s) (h : TupN X.K H a xs) : ∃ (o : Obj) (its : List Value) (n : Nat), s.heap.get? a = some o ∧ o.cls = .type "tuple" ∧ o.dict = none ∧ o.data = .seq its.toArray n ∧ Vals xs its ∧ its.length ≤ sizeLine := by
  rcases h with ⟨o, its, n, h1, h2, h3, h4, h5, h6⟩ | ⟨o, h1, h2⟩
  · exact ⟨o, its.toList, n, I.kIn a o h1, h2, h6, by rw [Array.toArray_toList]; exact h3, h5, by rw [Array.length_toList]; exact h4⟩
  · obtain ⟨e1, hz, its, rv, o', e2, hc, n, hd⟩ := (show ObjOk X.prog X.w H s.heap a (.frz o (.tup xs)) from I.hok a _ h1)
    have e1 : s.heap.get? a = some o := e1
    have e2 : s.heap.get? a = some o' := e2
    rw [e1] at e2
    cases e2
    exact ⟨o, its, n, e1, hc, h2, hd, rv, by rw [← Vals.length rv]; exact hz⟩
theorem pairs_in (I : Inv X pins σ H s) : ∀ {ps : List Addr} {kvs : List (Key × V)}, Paired (fun p kv => SqT X.K H p [kV kv.1, kv.2]) ps kvs →
    ∃ (prs : List (Key × Value)) (pv : List (Value × Value)), KV kvs prs ∧ prs.length = ps.length ∧ pv.length = ps.length ∧
      ∀ (j : Nat) (k v : Value), pv[j]? = some (k, v) → ∃ (b : Addr) (q : Key), ps[j]? = some b ∧ prs[j]? = some (q, v) ∧ keyIs q k = true ∧ s.heap.IsTuple b #[k, v]
  | _, _, .nil => ⟨[], [], .nil, rfl, rfl, fun j k v e => by simp at e⟩
  | _, _, .cons (a := p) (b := kv) h t => by
    obtain ⟨prs, pv, r, l1, l2, hp⟩ := pairs_in I t
    obtain ⟨its, rv, ht, _⟩ := I.tuple h
    obtain ⟨u, y, ei, ru, ry⟩ := vals2 rv
    subst ei
    refine ⟨(kv.1, y) :: prs, (u, y) :: pv, .cons ⟨rfl, ry⟩ r, by rw [List.length_cons, List.length_cons, l1], by rw [List.length_cons, List.length_cons, l2], fun j k v e => ?_⟩
    cases j with
    | zero =>
      have e' : (u, y) = (k, v) := Option.some.inj e
      cases e'
      exact ⟨p, kv.1, rfl, rfl, kV_is (P := X.prog) (w := X.w) ru, ht⟩
    | succ j =>
      obtain ⟨b, q, e1, e2, e3⟩ := hp j k v (by simpa using e)
      exact ⟨b, q, by simpa using e1, by simpa using e2, e3⟩
def rDictT (K : PySem.W.Frag) : List V → Hp → VK → Prop := fun xs H Q => ∃ (a : Addr) (ps : List Addr) (kvs : List (Key × V)), xs = [.ref a] ∧ TupN K H a (ps.map V.ref) ∧ Paired (fun p kv => SqT K H p [kV kv.1, kv.2]) ps kvs ∧
    ∀ p, H p = none → Q (.ref p) (upd H p (.dK (mergeK [] kvs)))
/-- dict(t), t a tuple of pairs -/
theorem call_dictT (hcalm : X.calm = true) : CallR X (.type "dict") (rDictT X.K) := by
  intro pins s σ H xs us Q I r q
  obtain ⟨a, ps, kvs, ex, hq, hp, q⟩ := q
  subst ex
  obtain ⟨u, eu, rx⟩ := vals1 r
  subst eu
  cases rx
  obtain ⟨o, its, n, ho, hc, hd, hdat, rv, hz⟩ := tupN_at I hq
  have ei := refs_at rv
  subst ei
  rw [List.length_map] at hz
  obtain ⟨prs, pv, rel, l1, l2, hpr⟩ := pairs_in I hp
  have at_ : ∀ j k v, pv[j]? = some (k, v) → ((ps.map Value.ref).toArray)[j]? = some (Value.ref ((ps[j]?).getD 0)) ∧ PairAt s.heap ((ps[j]?).getD 0) k v := fun j k v e => by
    obtain ⟨b, q, e1, e2, e3, e4⟩ := hpr j k v e
    rw [e1]
    refine ⟨?_, .inl e4⟩
    rw [List.getElem?_toArray, List.getElem?_map, e1]; rfl
  refine PySem.call_dict_pairs (knd := mixKind X.prog X.w) (kvs := prs) (PairArg.tuple a (ps.map Value.ref).toArray (fun j => (ps[j]?).getD 0) pv) (I.ok.hd hcalm)
    ⟨⟨o, n, ho, hc, hd, hdat⟩, by simp [l2], at_⟩ ⟨by omega, fun i key v e => ?_⟩ (by omega) fun h' tk hd' k => ?_
  · obtain ⟨b, q, e1, e2, e3, e4⟩ := hpr i key v e
    exact ⟨q, e2, e3⟩
  · have hm : (s.heap.objs.size == sysModules) = false := beq_eq_false_iff_ne.mpr (Nat.ne_of_gt I.big)
    have hlen : (mergeK [] kvs).length ≤ sizeLine := by
      refine Nat.le_trans (length_mergeK kvs []) ?_
      rw [List.length_nil, Nat.zero_add, rel.length, l1]
      exact hz
    exact ⟨.ref s.heap.objs.size, upd H s.heap.objs.size (.dK (mergeK [] kvs)), I.laid (t' := tk) (fun b o e => k b o (fun z => nomatch z) e) (Nat.le_refl _) (show ObjOk X.prog X.w _ _ _ (.dK (mergeK [] kvs)) from ⟨hlen, hm, merged [] prs, KV.merge rel .nil, hd'⟩), rfl, q _ (I.hok.fresh (Nat.le_refl _))⟩

/-! ### the view of a dict's items -/
def rItemsV : V → List V → Hp → VK → Prop := fun x xs H Q => ∃ (a : Addr) (kvs : List (Key × V)), x = .ref a ∧ xs = [] ∧ H a = some (.dK kvs) ∧ ∀ p, H p = none → Q (.ref p) (upd H p (L2.DX.itemsO p a))
theorem mt_itemsV : MtR X "dict.items" rItemsV := by
  intro pins s σ H x xs v us Q I rx rxs h
  obtain ⟨a, kvs, rfl, rfl, ha, q⟩ := h
  cases rx
  cases rxs
  obtain ⟨z, hd, vs, kv, hdo⟩ := (show ObjOk X.prog X.w H s.heap a (.dK kvs) from I.hok a _ ha)
  obtain ⟨ep, o, es, ho, hx, hdat, _⟩ := hdo.dictAt
  refine DT.callItems (es := es) (ep := ep) hd ⟨o, ho, hx, hdat⟩ ?_
  have hf : H s.heap.objs.size = none := I.hok.fresh (Nat.le_refl _)
  exact ⟨.ref s.heap.objs.size, upd H s.heap.objs.size (L2.DX.itemsO s.heap.objs.size a), I.laid (t' := s.toks) (fun b u e => Heap.get?_push_of_some _ e) (Nat.le_refl _) (L2.DX.itemsO_ok (Heap.get?_push_size _ rfl)), rfl, q _ hf⟩

/-- tuples that were laid are tracked, one by one -/
theorem lay_tups {h' : Heap} {tk : Nat} {H0 : Hp} (I0 : Inv X pins σ H0 s) : ∀ (ts : List (Addr × List V)) (H1 : Hp), Inv X pins σ H1 { s with heap := h', toks := tk } → (ts.map (·.1)).Nodup →
    (∀ t ∈ ts, s.heap.objs.size ≤ t.1 ∧ H1 t.1 = none ∧ ∀ H2, ObjOk X.prog X.w H2 h' t.1 (.tup t.2)) →
    ∃ H2, Inv X pins σ H2 { s with heap := h', toks := tk } ∧ (∀ b o, H1 b = some o → H2 b = some o) ∧ ∀ t ∈ ts, H2 t.1 = some (.tup t.2)
  | [], H1, I1, _, _ => ⟨H1, I1, fun _ _ e => e, fun _ h => nomatch h⟩
  | t :: ts, H1, I1, hn, h => by
    obtain ⟨hb, hnone, ok⟩ := h t List.mem_cons_self
    rw [List.map_cons, List.nodup_cons] at hn
    have I2 : Inv X pins σ (upd H1 t.1 (.tup t.2)) { s with heap := h', toks := tk } := I1.take (h' := h') (t' := tk) (fun b ob _ e => e) (I0.fpOk hb hnone) (ok _)
    obtain ⟨H2, I3, g, q⟩ := lay_tups I0 ts _ I2 hn.2 fun c hc => by
      obtain ⟨c1, c2, c3⟩ := h c (List.mem_cons_of_mem _ hc)
      exact ⟨c1, by rw [upd_ne (fun z => hn.1 (by rw [← z]; exact List.mem_map_of_mem hc))]; exact c2, c3⟩
    refine ⟨H2, I3, fun b o e => g b o (by rw [upd_ne (fun z => by rw [z, hnone] at e; cases e)]; exact e), fun c hc => ?_⟩
    rcases List.mem_cons.mp hc with rfl | hc
    · exact g _ _ upd_same
    · exact q c hc

/-! ### sorting -/
/-- a key's datum -/
def keyP : Key → PyData
  | .inl i => .int i
  | .inr x => .str x
abbrev Kvd := Addr × (Key × V) × PyData
def prP (z : Kvd) : PyData := .tuple [keyP z.2.1.1, z.2.2]
def zip3 (as : List Addr) (kvs : List (Key × V)) (es : List PyData) : List Kvd := as.zip (kvs.zip es)
def rSortIt (K : PySem.W.Frag) : List V → Hp → VK → Prop := fun xs H Q => ∃ (p a : Addr) (kvs : List (Key × V)) (es : List PyData), xs = [.ref p] ∧ H p = some (L2.DX.itemsO p a) ∧ H a = some (.dK kvs) ∧ DpAll K H (kvs.map (·.2)) es ∧
  PySem.W.AllAlike ((kvs.zip es).map fun z => .tuple [keyP z.1.1, z.2]) ∧ (∀ d ∈ es, d.depth ≤ 40) ∧
  ∀ (H' : Hp) (l : Addr) (as : List Addr), (∀ b o, H b = some o → H' b = some o) → H l = none → l ∉ as → as.Nodup → (∀ t ∈ as, H t = none) → as.length = kvs.length →
    (∀ z ∈ as.zip kvs, H' z.1 = some (.tup [kV z.2.1, z.2.2])) → H' l = some (.lst (((zip3 as kvs es).mergeSort (PySem.W.dataLe false prP)).map fun z => V.ref z.1)) → Q (.ref l) H'
theorem reads_key {h : Heap} {k : Key} {u : Value} (e : keyIs k u = true) : Reads h u (keyP k) [] := by
  rcases keyIs_shape e with ⟨i, t, rfl, rfl⟩ | ⟨x, t, rfl, rfl⟩
  · exact Reads.int i t
  · exact Reads.str x t
theorem dpAll_get {K : PySem.W.Frag} : ∀ {vs : List V} {ds : List PyData} {j : Nat} {v : V}, DpAll K H vs ds → vs[j]? = some v → ∃ d, ds[j]? = some d ∧ Dp K H v d
  | _, _, _, _, .nil, e => by simp at e
  | _, _, 0, _, .cons h _, e => by cases e; exact ⟨_, rfl, h⟩
  | _ :: _, _ :: _, j + 1, _, .cons _ t, e => dpAll_get (j := j) t (by simpa using e)
theorem dpAll_len {K : PySem.W.Frag} : ∀ {vs : List V} {ds : List PyData}, DpAll K H vs ds → vs.length = ds.length
  | _, _, .nil => rfl
  | _, _, .cons _ t => by rw [List.length_cons, List.length_cons, dpAll_len t]
theorem eachIs_of {α β : Type} {R : α → β → Prop} : ∀ {xs : List α} {ys : List β}, xs.length = ys.length → (∀ (j : Nat) (x : α) (y : β), xs[j]? = some x → ys[j]? = some y → R x y) → PySem.W.EachIs R xs ys
  | [], [], _, _ => .nil
  | x :: xs, y :: ys, h, k => .cons (k 0 x y rfl rfl) (eachIs_of (by simpa using h) fun j a b e1 e2 => k (j + 1) a b e1 e2)
  | [], _ :: _, h, _ => by simp at h
  | _ :: _, [], h, _ => by simp at h
theorem each_refs : ∀ {vs : List Value} {bs : List Kvd}, PySem.W.EachIs (fun v b => v = .ref b.1) vs bs → vs = bs.map fun b => Value.ref b.1
  | _, _, .nil => rfl
  | _, _, .cons h t => by rw [List.map_cons, ← h, ← each_refs t]
theorem keyP_depth (k : Key) : (keyP k).depth = 0 := by cases k <;> simp [keyP, PyData.depth]
theorem prP_depth {k : Key} {d : PyData} : (PyData.tuple [keyP k, d]).depth = d.depth + 1 := by
  simp [PyData.depth, PyData.depthAll, keyP_depth]
theorem zip3_at {as : List Addr} {kvs : List (Key × V)} {es : List PyData} {j : Nat} {z : Kvd} (h : (zip3 as kvs es)[j]? = some z) : as[j]? = some z.1 ∧ kvs[j]? = some z.2.1 ∧ es[j]? = some z.2.2 := by
  have h1 := List.getElem?_zip_eq_some.mp h
  have h2 := List.getElem?_zip_eq_some.mp h1.2
  exact ⟨h1.1, h2.1, h2.2⟩
theorem zip3_len {as : List Addr} {kvs : List (Key × V)} {es : List PyData} (h1 : as.length = kvs.length) (h2 : kvs.length = es.length) : (zip3 as kvs es).length = as.length := by
  unfold zip3
  rw [List.length_zip, List.length_zip]; omega
theorem zip3_prP {as : List Addr} {kvs : List (Key × V)} {es : List PyData} (h1 : as.length = kvs.length) (h2 : kvs.length = es.length) : (zip3 as kvs es).map prP = (kvs.zip es).map fun z => .tuple [keyP z.1.1, z.2] := by
  have e : ((zip3 as kvs es).map Prod.snd).map (fun z : (Key × V) × PyData => PyData.tuple [keyP z.1.1, z.2]) = (kvs.zip es).map fun z => .tuple [keyP z.1.1, z.2] := by
    unfold zip3
    rw [List.map_snd_zip (by rw [List.length_zip]; omega)]
  rw [← e, List.map_map]; rfl
/-- sorted(d.items()) -/
theorem cr_sortIt (hc : X.calm = true) (hu : X.A.units + 64 < cLine) : CallR X (.builtin "sorted") (rSortIt X.K) := by
  intro pins s σ H xs us Q I r h
  obtain ⟨p, a, kvs, es, rfl, hp, ha, hd, hal, hdep, q⟩ := h
  obtain rfl := Vals.ref1 r
  have view : s.heap.IsItemsView p a := (show ObjOk X.prog X.w H s.heap p (L2.DX.itemsO p a) from I.hok p _ hp).1
  obtain ⟨hz, hs0, vs, kv, hdo⟩ := (show ObjOk X.prog X.w H s.heap a (.dK kvs) from I.hok a _ ha)
  obtain ⟨ep, o, ens, ho, hx, hdat, hks, hpr, hn⟩ := hdo.dictAt
  have lk : kvs.length = vs.length := Paired.length kv
  have le : kvs.length = es.length := by have := dpAll_len hd; rwa [List.length_map] at this
  have lens : ens.size = vs.length := by rw [← hpr.length]; simp
  have hh : X.A.handled = none := I.ok.hd hc
  refine DT.sortedI (es := ens) (ep := ep) hh view ⟨o, ho, hx, hdat⟩ (by omega) fun h' tk as hk hlt hl hG => ?_
  have las : as.length = kvs.length := by omega
  have nd : as.Nodup := List.Pairwise.imp (fun h => Nat.ne_of_lt h) hG.rise
  have hob : (h'.push { cls := .type "list", data := .seq (as.map Value.ref).toArray }).get? h'.objs.size = some (seqObj "list" (as.map Value.ref).toArray 0) := Heap.get?_push_size _ rfl
  have kb : ∀ b o, s.heap.get? b = some o → (h'.push { cls := .type "list", data := .seq (as.map Value.ref).toArray }).get? b = some o := fun b o e => Heap.get?_push_of_some _ (hk b o e)
  have ne0 : ∀ b o, h'.get? b = some o → b ≠ h'.objs.size := fun b o e => Nat.ne_of_lt (Heap.lt_size e)
  generalize hh2 : h'.push { cls := .type "list", data := .seq (as.map Value.ref).toArray } = h2 at hob kb ⊢
  have ka : ∀ b o, h'.get? b = some o → h2.get? b = some o := fun b o e => by rw [← hh2]; exact Heap.get?_push_of_some _ e
  have lz := zip3_len las le
  -- what each pair is
  have pr : ∀ (j : Nat) (z : Kvd), (zip3 as kvs es)[j]? = some z → ∃ key x, h'.get? z.1 = some { cls := .type "tuple", data := .seq #[key, x] } ∧ keyIs z.2.1.1 key = true ∧ RelV z.2.1.2 x ∧ Dp X.K H z.2.1.2 z.2.2 := by
    intro j z hj
    obtain ⟨z1, z2, z3⟩ := zip3_at hj
    obtain ⟨en, he, hg⟩ := hG.pairs j z.1 z1
    obtain ⟨y, hy, f1, f2⟩ := LiI.paired_get kv z2
    obtain ⟨y1, y2⟩ := y
    simp only at f1 f2
    obtain ⟨g1, g2⟩ := hpr.get? (i := j) (e := en) (by simpa using he) hy
    obtain ⟨d, d1, d2⟩ := dpAll_get (j := j) (v := z.2.1.2) hd (by rw [List.getElem?_map, z2]; rfl)
    rw [z3] at d1
    cases d1
    subst g2
    refine ⟨en.key, en.val, hg, ?_, f2, d2⟩
    rw [f1]; exact g1
  have bs1 : PySem.W.EachIs (fun v (b : Kvd) => v = Value.ref b.1) (as.map Value.ref) (zip3 as kvs es) := eachIs_of (by rw [List.length_map, lz]) fun j v b e1 e2 => by
    obtain ⟨z1, _, _⟩ := zip3_at e2
    rw [List.getElem?_map, z1] at e1
    exact (Option.some.inj e1).symm
  have bs2 : PySem.W.EachIs (fun v (b : Kvd) => ∃ ad, Reads h2 v (prP b) ad ∧ h'.objs.size ∉ ad) (as.map Value.ref) (zip3 as kvs es) := eachIs_of (by rw [List.length_map, lz]) fun j v b e1 e2 => by
    obtain ⟨z1, _, _⟩ := zip3_at e2
    rw [List.getElem?_map, z1] at e1
    cases (Option.some.inj e1).symm
    obtain ⟨key, x, hg, hk1, rx, dx⟩ := pr j b e2
    obtain ⟨ad, rd⟩ := Dp.reads I _ _ _ dx rx
    have rd2 := PyProof.Rows.Reads.keeps kb rd
    refine ⟨[] ++ (ad ++ []), Reads.tuple (ka _ _ hg) rfl rfl (ReadsAll.cons (reads_key hk1) (ReadsAll.cons rd2 ReadsAll.nil)), fun hm => ?_⟩
    have hm : h'.objs.size ∈ ad := by simpa using hm
    obtain ⟨oo, hoo⟩ := PyProof.On.reads_mem_get rd _ hm
    exact absurd (Heap.lt_size hoo) (Nat.not_lt.mpr (Nat.le_of_lt hlt))
  refine PySem.W.list_sort_data (s := { s with heap := h2, toks := tk }) (enc := prP) (R := fun v b => v = Value.ref b.1) (vs := as.map Value.ref) hob bs1 bs2 (by rw [zip3_prP las le]; exact hal) (PySem.W.Sortable.tuples fun b => ⟨_, _, rfl⟩) (by omega) (fun b hb => ?_) fun out o1 o2 => ?_
  · obtain ⟨j, hj⟩ := List.mem_iff_getElem?.mp hb
    have := hdep _ (List.mem_of_getElem? (zip3_at hj).2.2)
    show X.A.units + 1 + 1 + (PyData.tuple [keyP b.2.1.1, b.2.2]).depth < cLine
    rw [prP_depth]; omega
  · have eo := each_refs o2
    show EP X pins σ Q (.ref h'.objs.size) { s with heap := sortedHeap h2 h'.objs.size (as.map Value.ref) out.toArray, toks := tk }
    have kF : ∀ b o, b ≠ h'.objs.size → h2.get? b = some o → (sortedHeap h2 h'.objs.size (as.map Value.ref) out.toArray).get? b = some o := fun b o hb e => (PyProof.Rows.sortedHeap_old hb (Heap.lt_size e)).trans e
    have kS : ∀ b o, s.heap.get? b = some o → (sortedHeap h2 h'.objs.size (as.map Value.ref) out.toArray).get? b = some o := fun b o e => kF b o (ne0 _ _ (hk b o e)) (kb b o e)
    obtain ⟨eF, heF⟩ := PyProof.Rows.sortedHeap_at (vs := as.map Value.ref) (out := out.toArray) hob
    have I1 : Inv X pins σ H { s with heap := sortedHeap h2 h'.objs.size (as.map Value.ref) out.toArray, toks := tk } := I.kept (t' := tk) kS
    have hn0 : H h'.objs.size = none := I.hok.fresh (Nat.le_of_lt hlt)
    have hlen : ((zip3 as kvs es).mergeSort (PySem.W.dataLe false prP)).length = kvs.length := by rw [List.length_mergeSort, lz, las]
    have rv : Vals (((zip3 as kvs es).mergeSort (PySem.W.dataLe false prP)).map fun z => V.ref z.1) out := by
      rw [eo]
      exact vals_maps (fun z : Kvd => V.ref z.1) (fun z => Value.ref z.1) _ fun _ _ => rfl
    have I2 : Inv X pins σ (upd H h'.objs.size (.lst (((zip3 as kvs es).mergeSort (PySem.W.dataLe false prP)).map fun z => V.ref z.1))) { s with heap := sortedHeap h2 h'.objs.size (as.map Value.ref) out.toArray, toks := tk } :=
      I1.take (h' := sortedHeap h2 h'.objs.size (as.map Value.ref) out.toArray) (t' := tk) (fun b ob _ e => e) (I.fpOk (Nat.le_of_lt hlt) hn0) ⟨by rw [List.length_map, hlen]; exact hz, out, eF, rv, heF⟩
    have ets : ((as.zip kvs).map fun z => ((z.1, [kV z.2.1, z.2.2]) : Addr × List V)).map (·.1) = as := by
      rw [List.map_map]
      show (as.zip kvs).map (fun z => z.1) = as
      exact List.map_fst_zip (by omega)
    obtain ⟨H2, I3, g, qt⟩ := lay_tups I ((as.zip kvs).map fun z => (z.1, [kV z.2.1, z.2.2])) _ I2 (by rw [ets]; exact nd) fun t ht => by
      obtain ⟨z, hz1, rfl⟩ := List.mem_map.mp ht
      obtain ⟨j, hj⟩ := List.mem_iff_getElem?.mp hz1
      have hj2 := List.getElem?_zip_eq_some.mp hj
      have hjl : j < as.length := (List.getElem?_eq_some_iff.mp hj2.1).1
      obtain ⟨w, hw⟩ : ∃ w, (zip3 as kvs es)[j]? = some w := ⟨_, List.getElem?_eq_getElem (by omega)⟩
      obtain ⟨w1, w2, w3⟩ := zip3_at hw
      rw [hj2.1] at w1
      rw [hj2.2] at w2
      have e1 : z.1 = w.1 := Option.some.inj w1
      have e2 : z.2 = w.2.1 := Option.some.inj w2
      obtain ⟨key, x, hg, hk1, rx, dx⟩ := pr j w hw
      rw [← e1] at hg
      rw [← e2] at hk1 rx
      have hbl : s.heap.objs.size ≤ z.1 := Nat.le_of_lt (hG.above _ (List.mem_of_getElem? hj2.1))
      refine ⟨hbl, ?_, fun H3 => ⟨by rw [sizeLine_eq]; show 2 ≤ 16777216; omega, [key, x], .cons (relV_key hk1) (.cons rx .nil), ⟨_, kF _ _ (ne0 _ _ hg) (ka _ _ hg), rfl, 0, rfl⟩⟩⟩
      show upd H h'.objs.size _ z.1 = none
      rw [upd_ne (ne0 _ _ hg)]
      exact I.hok.fresh hbl
    have gr : ∀ b o, H b = some o → H2 b = some o := fun b o e => g b o (by rw [upd_ne (fun z => by rw [z, hn0] at e; cases e)]; exact e)
    have nas : h'.objs.size ∉ as := fun hm => absurd (hG.there hm) (Nat.lt_irrefl _)
    exact ⟨.ref h'.objs.size, H2, I3, rfl, q H2 h'.objs.size as gr hn0 nas nd (fun t ht => I.hok.fresh (Nat.le_of_lt (hG.above t ht))) las (fun z hz1 => qt (z.1, [kV z.2.1, z.2.2]) (List.mem_map_of_mem (f := fun z : Addr × Key × V => (z.1, [kV z.2.1, z.2.2])) hz1)) (g _ _ upd_same)⟩
end
end L2
/-! M10: dict() of pairs, sorted items, isinstance, by data -/
namespace MM
open PySem PySem.Spec L2

/-! ### dict(pairs) -/
def prD (z : Key × PyData) : PyData := .tuple [keyP z.1, z.2]
def pairD : PyData → Option (Key × PyData)
  | .tuple [a, b] => (keyD a).map fun k => (k, b)
  | _ => none
def pairsD : List PyData → Option (List (Key × PyData))
  | [] => some []
  | d :: ds => (pairD d).bind fun z => (pairsD ds).map (z :: ·)
def mergeS (acc : List (Key × Slot)) (more : List (Key × PyData)) : List (Key × Slot) := more.foldl (fun acc z => putS acc z.1 (.p z.2)) acc
def kS (kds : List (Key × PyData)) : List (Key × Slot) := kds.map fun z => (z.1, .p z.2)
section
variable {K : PySem.W.Frag} {H H' : Hp} {R : List Addr} {L : Row}
theorem zM_kS {kvs : List (Key × V)} {kds : List (Key × PyData)} : zM kvs (kS kds) = zP (kvs.map (·.2)) (kds.map (·.2)) := by
  unfold zM zP kS
  rw [List.map_map, List.map_map, List.map_map]; rfl
theorem pairD_inv {d : PyData} {z : Key × PyData} (h : pairD d = some z) : ∃ a, d = .tuple [a, z.2] ∧ keyD a = some z.1 := by
  unfold pairD at h
  split at h
  · rename_i a b
    obtain ⟨k, h1, rfl⟩ := Option.map_eq_some_iff.mp h
    exact ⟨a, rfl, h1⟩
  · cases h
theorem zP_cons (v : V) (vs : List V) (d : PyData) (ds : List PyData) : zP (v :: vs) (d :: ds) = (some v, .p d) :: zP vs ds := rfl
theorem pairsRow : ∀ {ds : List PyData} {vs : List V} {kds : List (Key × PyData)} {L : Row}, vs.length = ds.length → pairsD ds = some kds → Good K H R (zP vs ds ++ L) →
    ∃ (ps : List Addr) (kvs : List (Key × V)), vs = ps.map V.ref ∧ Paired (fun p kv => SqT K H p [kV kv.1, kv.2]) ps kvs ∧ kvs.map (·.1) = kds.map (·.1) ∧ Good K H R (zM kvs (kS kds) ++ L)
  | [], [], kds, L, _, h, g => by
    cases h
    exact ⟨[], [], rfl, .nil, rfl, g⟩
  | d :: ds, v :: vs, kds, L, hn, h, g => by
    obtain ⟨z, h1, h2⟩ := Option.bind_eq_some_iff.mp (show (pairD d).bind _ = some kds from h)
    obtain ⟨kds', h3, rfl⟩ := Option.map_eq_some_iff.mp h2
    obtain ⟨a, rfl, hk⟩ := pairD_inv h1
    have g0 : Good K H R ((some v, .p (.tuple [a, z.2])) :: (zP vs ds ++ L)) := g
    obtain ⟨p, ws, e, hs, _, len, g1⟩ := g0.items (ds := [a, z.2]) List.mem_cons_self (.inl rfl)
    cases e
    match ws, len with
    | [w1, w2], _ =>
      have g2 : Good K H R ((some w1, .p a) :: (some w2, .p z.2) :: (some (.ref p), .p (.tuple [a, z.2])) :: (zP vs ds ++ L)) := g1
      obtain ⟨x, ex, dx⟩ := g2.dp (o := some w1) (d := a) List.mem_cons_self
      cases ex
      have ek := keyD_V dx hk
      subst ek
      have g3 : Good K H R ((some w2, .p z.2) :: (zP vs ds ++ L)) := by
        have g4 := g2.drop.perm (List.Perm.swap _ _ _)
        exact g4.drop
      have g5 : Good K H R (zP vs ds ++ ((some w2, .p z.2) :: L)) := g3.perm List.perm_middle.symm
      obtain ⟨ps, kvs, rfl, q1, q2, g6⟩ := pairsRow (by simpa using hn) h3 g5
      refine ⟨p :: ps, (z.1, w2) :: kvs, rfl, .cons (hs rfl) q1, by rw [List.map_cons, List.map_cons, q2], ?_⟩
      exact g6.perm List.perm_middle
  | [], _ :: _, _, _, hn, _, _ => by simp at hn
  | _ :: _, [], _, _, hn, _, _ => by simp at hn
theorem Good.itemsT {o : Option V} {ds : List PyData} (g : Good K H R L) (h : (o, Slot.p (.tuple ds)) ∈ L) : ∃ a vs, o = some (.ref a) ∧ TpK K H a vs ds ∧ vs.length = ds.length ∧ Good K H R (zP vs ds ++ L) := by
  obtain ⟨F, fp, e, w, nd, fn, rt⟩ := g
  obtain ⟨v, rfl, q⟩ := w.mem h
  cases q with
  | tup hq ha => exact ⟨_, _, rfl, hq.mono e, (dpall_row (H := H) ha).2, F, [] ++ fp, e, (dpall_row ha).1.app w, nd, fn, rt⟩
theorem mergeRow {p : Addr} : ∀ {kds : List (Key × PyData)} {kvs : List (Key × V)} {acc : List (Key × V)} {ac : List (Key × Slot)}, kvs.map (·.1) = kds.map (·.1) →
    Good K (upd H p (.dK acc)) R ((some (.ref p), .m ac) :: (zM kvs (kS kds) ++ L)) → Good K (upd H p (.dK (mergeK acc kvs))) R ((some (.ref p), .m (mergeS ac kds)) :: L)
  | [], [], acc, ac, _, g => g
  | z :: kds, (k, v) :: kvs, acc, ac, e0, g => by
    have e := e0
    simp only [List.map_cons, List.cons.injEq] at e
    obtain ⟨rfl, e⟩ := e
    clear e0
    have g0 : Good K (upd H p (.dK acc)) R ((some (.ref p), .m ac) :: (some v, .p z.2) :: (zM kvs (kS kds) ++ L)) := g
    obtain ⟨vs, h1, _, g1⟩ := g0.putTop (k := z.1)
    rw [upd_same] at h1
    cases h1
    rw [upd_upd] at g1
    exact mergeRow (kds := kds) (kvs := kvs) (acc := putK acc z.1 v) (ac := putS ac z.1 (.p z.2)) e g1
  | [], _ :: _, _, _, e, _ => by simp at e
  | _ :: _, [], _, _, e, _ => by simp at e
end
def gDict : List PyData → Option Slot
  | [.list ds] => (pairsD ds).map fun kds => .m (mergeS [] kds)
  | [.tuple ds] => (pairsD ds).map fun kds => .m (mergeS [] kds)
  | _ => none
theorem pairsD_row : ∀ {ds : List PyData} {kds : List (Key × PyData)}, pairsD ds = some kds → rowB ds = true
  | [], _, _ => rfl
  | d :: ds, kds, h => by
    obtain ⟨z, h1, h2⟩ := Option.bind_eq_some_iff.mp (show (pairD d).bind _ = some kds from h)
    obtain ⟨kds', h3, rfl⟩ := Option.map_eq_some_iff.mp h2
    obtain ⟨a, rfl, hk⟩ := pairD_inv h1
    have := pairsD_row h3
    unfold rowB at this ⊢
    rw [List.all_cons, this]; rfl
section
variable {ki : Ki} {W : WX} {te : TE} {me : ExM}
theorem newDictRow {H : Hp} {L : Row} {p : Addr} {kvs : List (Key × V)} {kds : List (Key × PyData)} (g : G ki H (zM kvs (kS kds) ++ L)) (np : H p = none) (e : kvs.map (·.1) = kds.map (·.1)) : G ki (upd H p (.dK (mergeK [] kvs))) ((some (.ref p), .m (mergeS [] kds)) :: L) := by
  have g1 := Good.reserve (u := .dK []) g np
  have g2 : Good ki.K (upd H p (.dK [])) [p] (zM [] [] ++ (zM kvs (kS kds) ++ L)) := g1
  exact mergeRow e (g2.closeM upd_same rfl)
def rDictG (K : PySem.W.Frag) : List V → Hp → VK → Prop := fun xs H Q => (∃ (a : Addr) (ps : List Addr) (kvs : List (Key × V)), xs = [.ref a] ∧ SqL K H a (ps.map V.ref) ∧ Paired (fun p kv => SqT K H p [kV kv.1, kv.2]) ps kvs ∧
    ∀ p, H p = none → Q (.ref p) (upd H p (.dK (mergeK [] kvs)))) ∨ rDictT K xs H Q
theorem call_dictG {X : Cx} (hc : X.calm = true) : CallR X (.type "dict") (rDictG X.K) := call_or (call_dictP hc) (call_dictT hc)
theorem cg_dict : CallG ki (rDictG ki.K) gDict := fun H L vs ds s g a hs Q post => by
  unfold gDict at hs
  split at hs
  · rename_i es
    obtain ⟨kds, h1, rfl⟩ := Option.map_eq_some_iff.mp hs
    obtain ⟨v, sv, rfl, hm, hd, h⟩ := args1 g a
    obtain ⟨p, vs, rfl, _, hl, len, g1⟩ := g.view hm hd (.inr rfl)
    obtain ⟨ps, kvs, rfl, q1, q2, g2⟩ := pairsRow len h1 g1
    exact .inl ⟨p, ps, kvs, rfl, hl rfl, q1, fun l nl => post _ _ (newDictRow g2 nl q2)⟩
  · rename_i es
    obtain ⟨kds, h1, rfl⟩ := Option.map_eq_some_iff.mp hs
    obtain ⟨v, sv, rfl, hm, hd, h⟩ := args1 g a
    have es1 := dat_tup hd
    subst es1
    obtain ⟨p, vs, ew, tk, len, g1⟩ := g.itemsT hm
    cases ew
    obtain ⟨ps, kvs, rfl, q1, q2, g2⟩ := pairsRow len h1 g1
    refine .inr ⟨p, ps, kvs, rfl, ?_, q1, fun l nl => post _ _ (newDictRow g2 nl q2)⟩
    rcases tk with ⟨o, its, n, k1, k2, k3, k4, k5, k6⟩ | ⟨_, o, k1, k2⟩ | ⟨k0, _⟩
    · exact .inl ⟨o, its, n, k1, k2, k3, k4, k5, k6⟩
    · exact .inr ⟨o, k1, k2⟩
    · rw [pairsD_row h1] at k0; cases k0
  · cases hs
end

/-! ### sorted(d.items()) -/
theorem Good.ext {K : PySem.W.Frag} {H H' : Hp} {R : List Addr} {L : Row} (g : Good K H R L) (e : Ex H H') : Good K H' R L := by
  obtain ⟨F, fp, e1, w, nd, fn, rt⟩ := g
  have k : ∀ a, H a ≠ none → H' a = H a := fun a h => by
    cases q : H a with
    | none => exact absurd q h
    | some o => exact e a o q
  exact ⟨F, fp, e1.trans e, w.mono (Ex.refl F) fun a h => k a (w.there a h), nd, fn, fun a h => by rw [k a (rt a h)]; exact rt a h⟩
theorem keyP_dq {K : PySem.W.Frag} {F : Hp} (k : Key) : Dq K F (kV k) (keyP k) := by
  cases k with
  | inl i => exact .int i
  | inr x => exact .str x
theorem keyP_row (k : Key) (d : PyData) : rowB [keyP k, d] = false := by cases k <;> rfl
def tupRow (zs : List Kvd) : Row := zs.map fun z => (some (.ref z.1), .p (prP z))
theorem layRow {K : PySem.W.Frag} {H' : Hp} {R : List Addr} : ∀ (zs : List Kvd) (H : Hp) (L : Row), Good K H R L → Ex H H' → (zs.map (·.1)).Nodup → (∀ z ∈ zs, H z.1 = none ∧ H' z.1 = some (.tup [kV z.2.1.1, z.2.1.2]) ∧ (some z.2.1.2, Slot.p z.2.2) ∈ L) →
    ∃ H1, Ex H1 H' ∧ (∀ b, b ∉ zs.map (·.1) → H1 b = H b) ∧ Good K H1 R (tupRow zs ++ L)
  | [], H, L, g, e, _, _ => ⟨H, e, fun _ _ => rfl, g⟩
  | z :: zs, H, L, g, e, hn, h => by
    obtain ⟨h1, h2, h3⟩ := h z List.mem_cons_self
    rw [List.map_cons, List.nodup_cons] at hn
    have g1 := g.copy h3
    have g2 : Good K H R (zP [kV z.2.1.1, z.2.1.2] [keyP z.2.1.1, z.2.2] ++ L) := g1.push fun F => keyP_dq _
    have g3 : Good K (upd H z.1 (.tup [kV z.2.1.1, z.2.1.2])) R ((some (.ref z.1), .p (prP z)) :: L) := g2.newTup h1 rfl (.inr ⟨keyP_row _ _, rfl⟩)
    have e2 : Ex (upd H z.1 (.tup [kV z.2.1.1, z.2.1.2])) H' := fun b o q => by
      by_cases hb : b = z.1
      · subst hb; rw [upd_same] at q; rw [h2]; exact q
      · rw [upd_ne hb] at q; exact e b o q
    obtain ⟨H1, e3, k3, g4⟩ := layRow zs _ _ g3 e2 hn.2 fun y hy => by
      obtain ⟨y1, y2, y3⟩ := h y (List.mem_cons_of_mem _ hy)
      exact ⟨by rw [upd_ne (fun w => hn.1 (by rw [← w]; exact List.mem_map_of_mem hy))]; exact y1, y2, List.mem_cons_of_mem _ y3⟩
    refine ⟨H1, e3, fun b hb => ?_, g4.perm List.perm_middle⟩
    rw [k3 b (fun w => hb (List.mem_cons_of_mem _ w)), upd_ne (fun w => hb (by rw [w]; exact List.mem_cons_self))]
def kdsS : List (Key × Slot) → Option (List (Key × PyData))
  | [] => some []
  | (k, .p d) :: ks => (kdsS ks).map ((k, d) :: ·)
  | _ :: _ => none
theorem kdsS_eq : ∀ {ks : List (Key × Slot)} {kds : List (Key × PyData)}, kdsS ks = some kds → ks = kS kds
  | [], kds, h => by cases h; rfl
  | (k, .p d) :: ks, kds, h => by
    obtain ⟨es, h1, rfl⟩ := Option.map_eq_some_iff.mp (show (kdsS ks).map ((k, d) :: ·) = some kds from h)
    rw [kdsS_eq h1]; rfl
  | (_, .un) :: _, _, h => nomatch h
  | (_, .l _) :: _, _, h => nomatch h
  | (_, .m _) :: _, _, h => nomatch h
def sortB (ds : List PyData) : Bool := ds.all fun d => ds.all fun e => PySem.W.alike d e
theorem sortB_all {ds : List PyData} (h : sortB ds = true) : PySem.W.AllAlike ds := fun d hd e he => by
  unfold sortB at h
  exact List.all_eq_true.mp (List.all_eq_true.mp h d hd) e he
def srt (ds : List PyData) : List PyData := ds.mergeSort (PySem.W.dataLe false id)
/-- sorted(x.items()) -/
def mSortIt (i : Nat) : ExM := fun env => match env[i]? with
  | some (.m ks) => (kdsS ks).bind fun kds => if sortB (kds.map prD) = true ∧ (kds.all fun z => decide (z.2.depth ≤ 40)) = true then some (.ok (.val (.l ((srt (kds.map prD)).map .p))), env) else none
  | _ => none
theorem ty_dict {K : PySem.W.Frag} {H : Hp} {l : Addr} {vs : List (Key × V)} (h : H l = some (.dK vs)) : tyV K "dict" (.ref l) H := .inr (.inr (.inl ⟨rfl, .inl ⟨vs, h⟩⟩))
theorem zip3_map {as : List Addr} {kvs : List (Key × V)} {kds : List (Key × PyData)} (h1 : as.length = kvs.length) (h2 : kvs.map (·.1) = kds.map (·.1)) : (zip3 as kvs (kds.map (·.2))).map prP = kds.map prD := by
  have len : kvs.length = kds.length := by have := congrArg List.length h2; simpa using this
  rw [zip3_prP h1 (by rw [List.length_map]; exact len)]
  have : ∀ {kvs : List (Key × V)} {kds : List (Key × PyData)}, kvs.map (·.1) = kds.map (·.1) → ((kvs.zip (kds.map (·.2))).map fun z => PyData.tuple [keyP z.1.1, z.2]) = kds.map prD := by
    intro kvs
    induction kvs with
    | nil => intro kds h; cases kds with
      | nil => rfl
      | cons _ _ => simp at h
    | cons kv kvs ih => intro kds h; cases kds with
      | nil => simp at h
      | cons kd kds =>
        simp only [List.map_cons, List.cons.injEq] at h
        simp only [List.map_cons, List.zip_cons_cons, ih h.2]
        rw [h.1]; rfl
  exact this h2
theorem rd_sortIt {ki : Ki} {W : WX} {i : Nat} : Rd ki W (tCB (rSortIt ki.K) (tCons (tBM0 ki.K "dict" rItemsV (tVar i)) tNil)) (mSortIt i) := fun σ H env T r env' hl g e Q post => by
  unfold mSortIt at e
  split at e
  · rename_i ks hx
    obtain ⟨kds, h1, e⟩ := Option.bind_eq_some_iff.mp e
    split at e
    · rename_i hc
      cases e
      obtain ⟨hc1, hc2⟩ := hc
      have hks := kdsS_eq h1
      subst hks
      obtain ⟨o, ho⟩ := lenGet hl hx
      have g1 := slotOut hl ho hx g
      obtain ⟨a, kvs, eo, ha, keys, g2⟩ := g1.openM
      subst eo
      have keys' : kvs.map (·.1) = kds.map (·.1) := by
        rw [keys]; unfold kS; rw [List.map_map]; rfl
      have len : kvs.length = kds.length := by have := congrArg List.length keys'; simpa using this
      rw [zM_kS] at g2
      have dp := g2.dpAll (by rw [List.length_map, List.length_map]; exact len)
      refine ⟨.ref a, ho, ty_dict ha, a, kvs, rfl, rfl, ha, fun p np => ?_⟩
      have ne : a ≠ p := fun z => by rw [z, np] at ha; cases ha
      have dp2 : DpAll ki.K (upd H p (L2.DX.itemsO p a)) (kvs.map (·.2)) (kds.map (·.2)) := by
        have g3 := (Good.ext g2 (H' := upd H p (L2.DX.itemsO p a)) (fun b u q => by rw [upd_ne (fun z => by rw [z, np] at q; cases q)]; exact q))
        exact g3.dpAll (by rw [List.length_map, List.length_map]; exact len)
      refine ⟨p, a, kvs, kds.map (·.2), rfl, upd_same, by rw [upd_ne ne]; exact ha, dp2, ?_, ?_, ?_⟩
      · have := zip3_map (as := kvs.map fun _ => 0) (by rw [List.length_map]) keys'
        rw [zip3_prP (by rw [List.length_map]) (by rw [List.length_map]; exact len)] at this
        rw [this]
        exact sortB_all hc1
      · intro d hd
        obtain ⟨z, hz, rfl⟩ := List.mem_map.mp hd
        have := List.all_eq_true.mp hc2 z hz
        exact of_decide_eq_true this
      · intro H' l as hex hl0 hnl nd hnew las htup hlst
        have hex0 : Ex H H' := fun b u q => hex b u (by rw [upd_ne (fun z => by rw [z, np] at q; cases q)]; exact q)
        have hnone : ∀ t, upd H p (L2.DX.itemsO p a) t = none → H t = none := fun t q => by
          by_cases z : t = p
          · rw [z, upd_same] at q; cases q
          · rw [upd_ne z] at q; exact q
        have lz := zip3_len las (show kvs.length = (kds.map (·.2)).length by rw [List.length_map]; exact len)
        have e1 : (zip3 as kvs (kds.map (·.2))).map (·.1) = as := by
          unfold zip3
          exact List.map_fst_zip (by rw [List.length_zip, List.length_map]; omega)
        -- the items, beside
        have gA : G ki H ((zP (kvs.map (·.2)) (kds.map (·.2)) ++ (zE σ env ++ T))) := by
          have g4 := Good.elems (A := []) g2 (zP (kvs.map (·.2)) (kds.map (·.2))) fun _ h => h
          have g5 : Good ki.K H [a] (zM kvs (kS kds) ++ (zP (kvs.map (·.2)) (kds.map (·.2)) ++ (zE (σ.set i none) (env.set i .un) ++ T))) := by rw [zM_kS]; exact g4
          have g6 := g5.closeM ha keys
          have g7 : G ki H ((some (V.ref a), .m (kS kds)) :: (zE (σ.set i none) (env.set i .un) ++ (zP (kvs.map (·.2)) (kds.map (·.2)) ++ T))) := g6.perm (List.Perm.cons _ (by
            rw [← List.append_assoc, ← List.append_assoc]; exact List.Perm.append_right _ List.perm_append_comm))
          have g8 := slotIn hl ho g7
          have ee : env.set i (.m (kS kds)) = env := by
            apply List.ext_getElem?
            intro j
            by_cases hj : i = j
            · subst hj; rw [List.getElem?_set_self (List.getElem?_eq_some_iff.mp hx).1]; exact hx.symm
            · rw [List.getElem?_set_ne hj]
          rw [ee] at g8
          exact front g8
        have inRow : ∀ z ∈ zip3 as kvs (kds.map (·.2)), H z.1 = none ∧ H' z.1 = some (.tup [kV z.2.1.1, z.2.1.2]) ∧ (some z.2.1.2, Slot.p z.2.2) ∈ zP (kvs.map (·.2)) (kds.map (·.2)) ++ (zE σ env ++ T) := by
          intro z hz
          obtain ⟨j, hj⟩ := List.mem_iff_getElem?.mp hz
          obtain ⟨z1, z2, z3⟩ := zip3_at hj
          refine ⟨hnone _ (hnew _ (List.mem_of_getElem? z1)), htup (z.1, z.2.1) (List.mem_of_getElem? (List.getElem?_zip_eq_some.mpr ⟨z1, z2⟩)), List.mem_append_left _ (zP_at (i := j) ?_ z3)⟩
          rw [List.getElem?_map, z2]; rfl
        obtain ⟨H1, x1, x2, gB⟩ := layRow (H' := H') (zip3 as kvs (kds.map (·.2))) H _ gA hex0 (by rw [e1]; exact nd) inRow
        have gC : G ki H1 (tupRow (zip3 as kvs (kds.map (·.2))) ++ (zE σ env ++ T)) := dropMid gB
        have hs : (zip3 as kvs (kds.map (·.2))).mergeSort (PySem.W.dataLe false prP) |>.Perm (zip3 as kvs (kds.map (·.2))) := List.mergeSort_perm _ _
        have gD : G ki H1 (tupRow ((zip3 as kvs (kds.map (·.2))).mergeSort (PySem.W.dataLe false prP)) ++ (zE σ env ++ T)) := gC.perm (List.Perm.append_right _ (hs.symm.map _))
        have hsrt : ((zip3 as kvs (kds.map (·.2))).mergeSort (PySem.W.dataLe false prP)).map prP = srt (kds.map prD) := by
          unfold srt
          rw [← zip3_map las keys']
          exact List.map_mergeSort fun a _ b _ => rfl
        have hz : tupRow ((zip3 as kvs (kds.map (·.2))).mergeSort (PySem.W.dataLe false prP)) = zP (((zip3 as kvs (kds.map (·.2))).mergeSort (PySem.W.dataLe false prP)).map fun z => V.ref z.1) (srt (kds.map prD)) := by
          rw [← hsrt]
          unfold tupRow zP
          rw [List.map_map, List.map_map]
          generalize (zip3 as kvs (kds.map (·.2))).mergeSort (PySem.W.dataLe false prP) = ys
          induction ys with
          | nil => rfl
          | cons y ys ih => rw [List.map_cons, List.map_cons, List.map_cons, List.zip_cons_cons, ih]; rfl
        rw [hz] at gD
        have hl1 : H1 l = none := by
          rw [x2 l (by rw [e1]; exact hnl)]
          exact hnone _ hl0
        have gE := gD.newList hl1 (by rw [← hsrt, List.length_map, List.length_map])
        have x3 : Ex (upd H1 l (.lst (((zip3 as kvs (kds.map (·.2))).mergeSort (PySem.W.dataLe false prP)).map fun z => V.ref z.1))) H' := fun b u q => by
          by_cases hb : b = l
          · subst hb; rw [upd_same] at q; rw [hlst]; exact q
          · rw [upd_ne hb] at q; exact x1 b u q
        exact post _ _ rfl (toTop (gE.ext x3)) trivial
    · cases e
  · cases e

/-! ### isinstance -/
def tyD : PyData → String
  | .none => "NoneType"
  | .bool _ => "bool"
  | .int _ => "int"
  | .str _ => "str"
  | .list _ => "list"
  | .tuple _ => "tuple"
  | .dict _ => "dict"
def tyS : Slot → Option String
  | .p d => some (tyD d)
  | .l _ => some "list"
  | .m _ => some "dict"
  | .un => none
def tyNs : List String := ["NoneType", "bool", "int", "str", "list", "tuple", "dict"]
def isSub (a b : String) : Bool := a == b || (a == "bool" && b == "int")
def tyOK (n : String) : Bool := tyNs.all fun a => kitB a n == some (isSub a n)
theorem dqTyX {K : PySem.W.Frag} {H : Hp} {v : V} {d : PyData} (h : Dq K H v d) : TyX K H v (.type (tyD d)) := by
  cases h with
  | non => exact .base .non
  | bl b => exact .base (.bl b)
  | int i => exact .base (.int i)
  | str x => exact .base (.str x)
  | lst h _ =>
    rcases h with (h | ⟨o, h⟩) | ⟨o, its, n, h1, h2, _⟩
    · exact .base (.lst h)
    · exact .base (.frz h)
    · exact .kList h1 h2
  | tup h _ =>
    rcases h with ⟨o, its, n, h1, h2, _⟩ | ⟨_, o, h, _⟩ | ⟨_, h⟩
    · exact .kTuple h1 h2
    · exact .fTuple h
    · exact .base (.tup h)
theorem slotTyX {K : PySem.W.Frag} {H : Hp} {R : List Addr} {L : Row} {v : V} {s : Slot} {t : String} (g : Good K H R L) (hm : (some v, s) ∈ L) (h : tyS s = some t) : TyX K H v (.type t) := by
  obtain ⟨L', p⟩ := mem_perm hm
  cases s with
  | un => cases h
  | p d =>
    cases h
    obtain ⟨w, e, dq⟩ := g.dq hm
    cases e
    exact dqTyX dq
  | l xs =>
    cases h
    obtain ⟨a, vs, e, ha, _⟩ := (g.perm p).open_
    cases e
    exact .base (.lst ha)
  | m ks =>
    cases h
    obtain ⟨a, vs, e, ha, _⟩ := (g.perm p).openM
    cases e
    exact .base (.dK ha)
theorem tyS_ns {s : Slot} {t : String} (h : tyS s = some t) : t ∈ tyNs := by
  cases s with
  | un => cases h
  | p d => cases h; cases d <;> simp [tyD, tyNs]
  | l xs => cases h; simp [tyNs]
  | m ks => cases h; simp [tyNs]
theorem kit_of_ok {K : PySem.W.Frag} {n t : String} (h : tyOK n = true) (ht : t ∈ tyNs) : PySem.W.kitOne K (.type t) (.type n) = some (isSub t n) := by
  have := List.all_eq_true.mp h t ht
  exact kit_ty (eq_of_beq this)
def lookT (o : Opd) : Mir String := fun env => (tyS (o.get env)).map fun t => (.ok t, env)
theorem lookT_inv {α : Type} {o : Opd} {k : String → Mir α} {env env' : Env} {r : Res α} (h : bnd (lookT o) k env = some (r, env')) : ∃ d, tyS (o.get env) = some d ∧ k d env = some (r, env') := by
  unfold bnd lookT at h
  cases q : tyS (o.get env) with
  | none => rw [q] at h; cases h
  | some d => rw [q] at h; exact ⟨d, rfl, h⟩
def mIsi (ns : List String) (me : ExM) : ExM := bnd me fun o => bnd (lookT o) fun t => ret (.val (.p (.bool (ns.any fun n => isSub t n))))
theorem Opd.memT {σ : L2.St} {env : Env} {o : Opd} {v : V} {t : String} {A B : Row} (ho : o.is σ v) (hd : tyS (o.get env) = some t) : (some v, o.get env) ∈ zE σ env ++ (A ++ ((some v, o.slot) :: B)) :=
  Opd.mem ho (fun e => by rw [e] at hd; cases hd) fun s e => by subst e; exact List.mem_append_right _ List.mem_cons_self
section
variable {ki : Ki} {W : WX} {te : TE} {me : ExM}
theorem rd_isi {n : String} (hn : tyOK n = true) (h : Rd ki W te me) : Rd ki W (tCB (rIsi ki.K) (tCons te (tCons (tC (.ty n)) tNil))) (mIsi [n] me) := fun σ H env T r env' hl g e Q post => by
  refine h.use (E := []) hl g e post fun o v H1 env1 n1 g1 i1 e => ?_
  obtain ⟨t, q, e⟩ := lookT_inv e
  cases e
  refine ⟨v, .ty n, .type t, .type n, isSub t n, rfl, .ty n, slotTyX g1 (Opd.memT (A := []) i1 q) q, kit_of_ok hn (tyS_ns q), ?_⟩
  have : ([n].any fun n => isSub t n) = isSub t n := by simp
  rw [this] at post
  exact post _ H1 n1 (toTop ((dropTop g1).push fun F => .bl _)) trivial
def tTys : List String → TA
  | [] => tNil
  | n :: ns => tCons (tC (.ty n)) (tTys ns)
theorem tTys_run {σ : L2.St} {H : Hp} : ∀ (ns : List String) (Q : List V → Hp → Prop), Q (ns.map .ty) H → tTys ns σ H Q
  | [], Q, h => h
  | n :: ns, Q, h => tTys_run ns _ h
theorem kitAny_of {K : PySem.W.Frag} {t : String} (ht : t ∈ tyNs) : ∀ {ns : List String}, (ns.all tyOK) = true → PySem.W.kitAny K (.type t) (ns.map fun n => .type n) = some (ns.any fun n => isSub t n)
  | [], _ => rfl
  | n :: ns, h => by
    rw [List.all_cons, Bool.and_eq_true] at h
    rw [List.map_cons, List.any_cons]
    refine kitAny_cons (kit_of_ok h.1 ht) (fun e => ?_) (fun e => by rw [e]; rfl)
    rw [e, Bool.false_or]
    exact kitAny_of ht h.2
theorem pairs_ty : ∀ ns : List String, Paired ClsV (ns.map .ty) (ns.map fun n => .type n)
  | [] => .nil
  | n :: ns => .cons (.ty n) (pairs_ty ns)
theorem rd_isiT {ns : List String} (hn : (ns.all tyOK && decide (ns.length ≤ 1000)) = true) (h : Rd ki W te me) : Rd ki W (tCB (rIsiT ki.K) (tCons te (tCons (tTupC (tTys ns)) tNil))) (mIsi ns me) := fun σ H env T r env' hl g e Q post => by
  rw [Bool.and_eq_true] at hn
  refine h.use (E := []) hl g e post fun o v H1 env1 n1 g1 i1 e => ?_
  obtain ⟨t, q, e⟩ := lookT_inv e
  cases e
  have hz := of_decide_eq_true hn.2
  refine tTys_run ns (fun xs H1 => xs.length ≤ sizeLine ∧ ∀ p, H1 p = none → ∃ k : Bool, ∀ ob : Obj, ob.dict = none → rIsiT ki.K [v, .ref p] (upd H1 p (hoT k ob xs)) Q) ⟨by rw [List.length_map]; exact big_le (by omega), fun p np => ⟨false, fun ob hob => ?_⟩⟩
  have g2 : G ki (upd H1 p (.tup (ns.map .ty))) (zE σ env' ++ ([] ++ ((some v, o.slot) :: T))) := g1.ext fun b u w => by rw [upd_ne (fun z => by rw [z, np] at w; cases w)]; exact w
  refine ⟨v, p, ns.map .ty, .type t, ns.map fun n => .type n, _, rfl, upd_same, pairs_ty ns, slotTyX g2 (Opd.memT (A := []) i1 q) q, kitAny_of (tyS_ns q) hn.1, ?_⟩
  exact post _ _ n1 (toTop ((dropTop g2).push fun F => .bl _)) trivial
end
end MM
/-! M11: what the printed terms lean on -/
namespace MM
open PySem PySem.Spec L2

/-- a def that stands at the top -/
structure FnH (K : PySem.W.Frag) (mg : Str → Option Value) (x : Str) (st : Stmt) (ps : List Str) where
  f : Addr
  fd : FuncData
  F : Fun K x x st f fd
  b : Binds K fd ps []
  g : mg x = some (.ref f)
def fnH_mk {K : PySem.W.Frag} {h : Heap} {mg : Str → Option Value} {x : Str} {st : Stmt} {ps : List Str} {f : Addr} {oc : Value} {od an : Option Addr} {osl : Array (Option Value)} {kV doc pm cdv ct : Value} (X : K.In h) (G : h.Ns mainGlobals mg)
    (a : PySem.W.nsIn K mainGlobals x = some (some (.ref f))) (l : K.lookup f = some ⟨oc, od, .func (PySem.W.fnOf x x (defArgs st) (defBody st) (defScope st) .none kV doc pm an cdv ct), osl⟩) (c : PySem.W.codeIn K cdv x = true) (k : PySem.W.keepIn K (.ref f) = true)
    (hb : ∀ (kV doc pm : Value) (an : Option Addr) (cdv ct : Value) (us : List Value), us.length = ps.length → bindArgs (PySem.W.fnOf x x (defArgs st) (defBody st) (defScope st) .none kV doc pm an cdv ct) ⟨us, []⟩ = pure (ps.zip us)) : FnH K mg x st ps :=
  ⟨f, PySem.W.fnOf x x (defArgs st) (defBody st) (defScope st) .none kV doc pm an cdv ct, fun_mk l c k, (fun_mk l c k).binds hb, PySem.W.mg_of X G a⟩
/-- classes by name -/
def clOf (mg : Str → Option Value) (x : Str) : Value := (mg x).getD .none
section
variable {ki : Ki} {W : WX} {fx : FxL}
def mYes : Mir Bool := ret true
theorem rdt_yes : RdT ki W tYes mYes := fun σ H env T r env' hl g e Q post => by
  cases e
  exact post H rfl g
theorem fxW {lent ws : List Nat} (h1 : ∀ p ∈ fx, p.1 ∈ lent) (h2 : ∀ i ∈ lent, i ∉ ws) : ∀ p ∈ fx, p.1 ∉ ws := fun p hp => h2 _ (h1 p hp)
theorem rda_eq {ta : TA} {m : Mir (List Opd)} (h : RdA ki W ta m) : RdA ki W ta m := h
end
theorem un1 {k : Nat} {A : Around} (r : Room k A) : A.units + 1 < cLine := by have := r.un; omega
theorem un65 {k : Nat} {A : Around} (r : Room k A) : A.units + 65 < cLine := by have := r.un; omega
theorem law_start {K : PySem.W.Frag} {cl : Str → Value} {fm : FnM} {H : Hp} {a : Addr} {ns : List Int} {ss' : List Slot} (h : SqL K H a (ns.map V.int)) (hm : fm [.p (.list (ns.map .int))] = some (.ok (.p (.bool true)), ss')) :
    spM ⟨K, cl⟩ 1 [] fm [.ref a] H (fun v _ => v = .bl true) (fun _ _ _ => False) := by
  have dqs : ∀ ns : List Int, DqAll K H (ns.map V.int) (ns.map .int) := fun ns => by
    induction ns with
    | nil => exact .nil
    | cons n ns ih => exact .cons (.int n) ih
  refine ⟨[.p (.list (ns.map .int))], [], _, _, rfl, rfl, ?_, hm, fun v H' g => ?_⟩
  · exact ⟨H, [], Ex.refl H, .cons (f := []) (g := []) (.p (.lst h (dqs ns))) .nil, List.nodup_nil, fun _ q => (nomatch q), fun _ q => (nomatch q)⟩
  · obtain ⟨w, e, dq⟩ := Good.dq (o := some v) (d := .bool true) g (List.mem_append_right _ List.mem_cons_self)
    cases e
    cases dq
    rfl
/-- the law's own promise -/
def spLaw (K : PySem.W.Frag) : Sp := fun vs H Q _ => ∃ (a : Addr) (ns : List Int), vs = [.ref a] ∧ SqL K H a (ns.map V.int) ∧ ns.length ≤ 63 ∧ ∀ H', Q (.bl true) H'
theorem law_promise {K : PySem.W.Frag} {cl : Str → Value} {fm : FnM} (h : ∀ ns : List Int, ns.length ≤ 63 → ∃ ss', fm [.p (.list (ns.map .int))] = some (.ok (.p (.bool true)), ss')) (vs : List V) (H : Hp) (Q : VK) (E : XK) (q : spLaw K vs H Q E) : spM ⟨K, cl⟩ 1 [] fm vs H Q E := by
  obtain ⟨a, ns, rfl, hS, hl, q⟩ := q
  obtain ⟨ss', hm⟩ := h ns hl
  obtain ⟨ss, T, r, ss2, h1, h2, h3, h4, h5⟩ := law_start (cl := cl) hS hm
  refine ⟨ss, T, r, ss2, h1, h2, h3, h4, ?_⟩
  cases r with
  | ok s => exact fun v H' g => by rw [h5 v H' g]; exact q H'
  | ex x => exact fun cls d H' g hx => (h5 cls d H' g hx).elim
theorem cx_none {P : Program} {w : World} {outer : List PySem.Env} {H : Hp} {s : Shared} {u : Value} {s' : Shared} (h : L2.CX P w outer H s (fun _ _ _ => False) u s') : False := by
  obtain ⟨_, _, _, _, _, _, _, _, _, _, _, _, z⟩ := h
  exact z
theorem law_end {l : PySem.W.OpenLaw} {w : World} {K : PySem.W.Frag} {h : Heap} {mg : Str → Option Value} {fa : Addr} {st : Stmt} {k : Nat} {f : Addr} {oc : Value} {od an : Option Addr} {osl : Array (Option Value)} {kV doc pm cdv ct : Value} (hfa : mg "law" = some (.ref fa)) (X : K.In h) (G : h.Ns mainGlobals mg)
    (a : PySem.W.nsIn K mainGlobals "law" = some (some (.ref f))) (lk : K.lookup f = some ⟨oc, od, .func (PySem.W.fnOf "law" "law" (defArgs st) (defBody st) (defScope st) .none kV doc pm an cdv ct), osl⟩) (c : PySem.W.codeIn K cdv "law" = true) (kp : PySem.W.keepIn K (.ref f) = true)
    (hb : ∀ (kV doc pm : Value) (an : Option Addr) (cdv ct : Value) (us : List Value), us.length = ["script"].length → bindArgs (PySem.W.fnOf "law" "law" (defArgs st) (defBody st) (defScope st) .none kV doc pm an cdv ct) ⟨us, []⟩ = pure ((["script"] : List Str).zip us))
    (F : ∀ (H : FnH K mg "law" st ["script"]) (base : Heap), FnOk l.prog w K mg base (L2.CX l.prog w) k H.f H.fd ["script"] (spLaw K)) :
    ∃ fd : FuncData, (∀ (s : Shared) (v : Value), BindsTo s fd ⟨[v], []⟩ [("script", v)]) ∧ ∀ base : Heap, K.In base → base.Ns mainGlobals mg → FnOk l.prog w K mg base (L2.CX l.prog w) k fa fd ["script"] (spLaw K) := by
  have e := hfa.symm.trans (PySem.W.mg_of X G a)
  cases e
  exact ⟨_, fun s v => .of_eq (hb kV doc pm an cdv ct [v] rfl), fun base _ _ => F (fnH_mk X G a lk c kp hb) base⟩
theorem bt_sum : bootBuiltins "sum" = some (.builtin "sum") := by decide +kernel
theorem bt_all : bootBuiltins "all" = some (.builtin "all") := by decide +kernel
theorem bt_any : bootBuiltins "any" = some (.builtin "any") := by decide +kernel
theorem bt_abs : bootBuiltins "abs" = some (.builtin "abs") := by decide +kernel
theorem bt_len : bootBuiltins "len" = some (.builtin "len") := by decide +kernel
theorem bt_max : bootBuiltins "max" = some (.builtin "max") := by decide +kernel
theorem bt_min : bootBuiltins "min" = some (.builtin "min") := by decide +kernel
theorem bt_sorted : bootBuiltins "sorted" = some (.builtin "sorted") := by decide +kernel
theorem bt_isinstance : bootBuiltins "isinstance" = some (.builtin "isinstance") := by decide +kernel
theorem bt_int : bootBuiltins "int" = some (.type "int") := by decide +kernel
theorem bt_str : bootBuiltins "str" = some (.type "str") := by decide +kernel
theorem bt_bool : bootBuiltins "bool" = some (.type "bool") := by decide +kernel
theorem bt_list : bootBuiltins "list" = some (.type "list") := by decide +kernel
theorem bt_tuple : bootBuiltins "tuple" = some (.type "tuple") := by decide +kernel
theorem bt_dict : bootBuiltins "dict" = some (.type "dict") := by decide +kernel
end MM
/-! M12: mirrors run -/
namespace MM
open PySem PySem.Spec L2
/-- a comprehension whose parts leave the names as they were -/
theorem compM_run {α : Type} {own : List Nat} {tg : TgM} {mt : Mir Bool} {me : ExM} (D : α → PyData) (p : α → Bool) (g : α → PyData) (E : Env) : ∀ (xs : List α) (acc : List PyData),
    (∀ x ∈ xs, ∃ E1 E2, tg (.p (D x)) E = some E1 ∧ mt E1 = some (.ok (p x), E2) ∧ (p x = false → wipeE E2 own = E) ∧ (p x = true → ∃ o E3, me E2 = some (.ok o, E3) ∧ o.own = some (g x) ∧ wipeE E3 own = E)) →
    compM own tg mt me (xs.map D) acc E = some (acc ++ (xs.filter p).map g, E)
  | [], acc, _ => by simp [compM]
  | x :: xs, acc, h => by
    obtain ⟨E1, E2, h1, h2, h3, h4⟩ := h x List.mem_cons_self
    have ih := fun acc => compM_run (own := own) (tg := tg) (mt := mt) (me := me) D p g E xs acc fun y hy => h y (List.mem_cons_of_mem _ hy)
    rw [List.map_cons]
    unfold compM
    rw [h1, Option.bind_some, h2]
    cases q : p x with
    | false =>
      simp only [h3 q, ih]
      rw [List.filter_cons_of_neg (by rw [q]; exact Bool.false_ne_true)]
    | true =>
      obtain ⟨o, E3, k1, k2, k3⟩ := h4 q
      simp only [k1, k2, Option.bind_some, k3, ih]
      rw [List.filter_cons_of_pos q, List.map_cons, List.append_assoc]; rfl
/-! the same, without a test -/
theorem compM_map {α : Type} {own : List Nat} {tg : TgM} {me : ExM} (D : α → PyData) (g : α → PyData) (E : Env) (xs : List α) (acc : List PyData)
    (h : ∀ x ∈ xs, ∃ E1 o E3, tg (.p (D x)) E = some E1 ∧ me E1 = some (.ok o, E3) ∧ o.own = some (g x) ∧ wipeE E3 own = E) :
    compM own tg mYes me (xs.map D) acc E = some (acc ++ xs.map g, E) := by
  have := compM_run (mt := mYes) D (fun _ => true) g E xs acc fun x hx => by
    obtain ⟨E1, o, E3, h1, h2, h3, h4⟩ := h x hx
    exact ⟨E1, E1, h1, rfl, fun q => (nomatch q), fun _ => ⟨o, E3, h2, h3, h4⟩⟩
  rw [List.filter_eq_self.mpr (fun _ _ => rfl)] at this
  exact this

/-! ### one step at a time -/
section
variable {env : Env} {α β : Type} {s : Slot}
@[simp] theorem bnd_run (m : Mir α) (k : α → Mir β) : bnd m k env = match m env with
  | none => none
  | some (.ok a, e) => k a e
  | some (.ex x, e) => some (.ex x, e) := rfl
@[simp] theorem bndS_run (m : Mir α) (k : α → StM) : bndS m k env = match m env with
  | none => none
  | some (.ok a, e) => k a e
  | some (.ex x, e) => some (.ex x, e) := rfl
@[simp] theorem ret_run (a : α) : MM.ret a env = some (.ok a, env) := rfl
@[simp] theorem mVar_run (i : Nat) : mVar i env = match env[i]? with
  | some (.p d) => some (.ok (.val (.p d)), env)
  | some (.l _) => some (.ok (.ref i), env)
  | some (.m _) => some (.ok (.ref i), env)
  | _ => none := rfl
@[simp] theorem mC_run (d : PyData) : mC d env = some (.ok (.val (.p d)), env) := rfl
@[simp] theorem look_val (d : PyData) : look (.val (.p d)) env = some (.ok d, env) := rfl
@[simp] theorem look_ref (i : Nat) : look (.ref i) env = match ((env[i]?).getD .un).dat with
  | some d => some (.ok d, env)
  | none => none := rfl
theorem look_valL (xs : List PyData) : look (.val (.l (xs.map .p))) env = some (.ok (.list xs), env) := by
  show (match (Slot.l (xs.map .p)).dat with | some d => some (Res.ok d, env) | none => none) = _
  have : (Slot.l (xs.map .p)).dat = some (.list xs) := by show (allP _).map _ = _; rw [allP_map]; rfl
  rw [this]
@[simp] theorem ofO_run (o : Option Slot) : ofO o env = match o with
  | some s => some (.ok (.val s), env)
  | none => none := by cases o <;> rfl
@[simp] theorem ofT_run (o : Option Bool) : ofT o env = match o with
  | some s => some (.ok s, env)
  | none => none := by cases o <;> rfl
@[simp] theorem mOp_run (g : PyData → PyData → Option Slot) (ma mb : ExM) : mOp g ma mb env = bnd ma (fun o1 => bnd mb fun o2 => bnd (look o1) fun d => bnd (look o2) fun e => ofO (g d e)) env := rfl
@[simp] theorem mUn_run (g : PyData → Option Slot) (ma : ExM) : mUn g ma env = bnd ma (fun o1 => bnd (look o1) fun d => ofO (g d)) env := rfl
@[simp] theorem mCons_run (m : ExM) (ms : Mir (List Opd)) : mCons m ms env = bnd m (fun o => bnd ms fun os => MM.ret (o :: os)) env := rfl
@[simp] theorem mNil_run : mNil env = some (.ok [], env) := rfl
@[simp] theorem mCall_run (g : List PyData → Option Slot) (ms : Mir (List Opd)) : mCall g ms env = bnd ms (fun os => bnd (lookAll os) fun ds => ofO (g ds)) env := rfl
@[simp] theorem lookAll_nil : lookAll [] env = some (.ok [], env) := rfl
@[simp] theorem lookAll_cons (o : Opd) (os : List Opd) : lookAll (o :: os) env = bnd (look o) (fun d => bnd (lookAll os) fun ds => MM.ret (d :: ds)) env := rfl
@[simp] theorem mTest_run (ma : ExM) : mTest ma env = bnd ma (fun o => bnd (look o) fun d => ofT (boD d)) env := rfl
@[simp] theorem mTruth_run (ma : ExM) : mTruth ma env = bnd ma (fun o => bnd (look o) fun d => ofT (truD d)) env := rfl
@[simp] theorem mAndT_run (mt mu : Mir Bool) : mAndT mt mu env = match mt env with
  | some (.ok true, e) => mu e
  | some (.ok false, e) => some (.ok false, e)
  | some (.ex x, e) => some (.ex x, e)
  | none => none := by
  unfold mAndT bnd
  cases mt env with
  | none => rfl
  | some p => obtain ⟨r, e⟩ := p; cases r with
    | ex x => rfl
    | ok b => cases b <;> rfl
@[simp] theorem mOrT_run (mt mu : Mir Bool) : mOrT mt mu env = match mt env with
  | some (.ok false, e) => mu e
  | some (.ok true, e) => some (.ok true, e)
  | some (.ex x, e) => some (.ex x, e)
  | none => none := by
  unfold mOrT bnd
  cases mt env with
  | none => rfl
  | some p => obtain ⟨r, e⟩ := p; cases r with
    | ex x => rfl
    | ok b => cases b <;> rfl
@[simp] theorem mNotT_run (mt : Mir Bool) : mNotT mt env = match mt env with
  | some (.ok b, e) => some (.ok (!b), e)
  | some (.ex x, e) => some (.ex x, e)
  | none => none := by
  unfold mNotT bnd
  cases mt env with
  | none => rfl
  | some p => obtain ⟨r, e⟩ := p; cases r <;> rfl
@[simp] theorem mIf_run (mt : Mir Bool) (ma mb : ExM) : mIf mt ma mb env = match mt env with
  | some (.ok true, e) => ma e
  | some (.ok false, e) => mb e
  | some (.ex x, e) => some (.ex x, e)
  | none => none := by
  unfold mIf bnd
  cases mt env with
  | none => rfl
  | some p => obtain ⟨r, e⟩ := p; cases r with
    | ex x => rfl
    | ok b => cases b <;> rfl
@[simp] theorem sIf_run (mt : Mir Bool) (ma mb : StM) : sIf mt ma mb env = match mt env with
  | some (.ok true, e) => ma e
  | some (.ok false, e) => mb e
  | some (.ex x, e) => some (.ex x, e)
  | none => none := by
  unfold sIf bndS
  cases mt env with
  | none => rfl
  | some p => obtain ⟨r, e⟩ := p; cases r with
    | ex x => rfl
    | ok b => cases b <;> rfl
@[simp] theorem mAnd_run (ma mb : ExM) : mAnd ma mb env = bnd ma (fun o => bnd (look o) fun d => bnd (ofT (truD d)) fun b => if b = true then mb else MM.ret o) env := rfl
@[simp] theorem mOr_run (ma mb : ExM) : mOr ma mb env = bnd ma (fun o => bnd (look o) fun d => bnd (ofT (truD d)) fun b => if b = true then MM.ret o else mb) env := rfl
@[simp] theorem mNot_run (ma : ExM) : mNot ma env = bnd ma (fun o => bnd (look o) fun d => bnd (ofT (truD d)) fun b => MM.ret (.val (.p (.bool (!b))))) env := rfl
@[simp] theorem mTup_run (ms : Mir (List Opd)) : mTup ms env = bnd ms (fun os => bnd (ownM os) fun ds => MM.ret (.val (.p (.tuple ds)))) env := rfl
@[simp] theorem mLst_run (ms : Mir (List Opd)) : mLst ms env = bnd ms (fun os => bnd (ownM os) fun ds => MM.ret (.val (.l (ds.map .p)))) env := rfl
@[simp] theorem ownM_run (os : List Opd) : ownM os env = if os.length ≤ 1000 then (ownAll os).map fun ds => (.ok ds, env) else none := rfl
@[simp] theorem own_p (d : PyData) : (Opd.val (.p d)).own = some d := rfl
theorem own_l (xs : List PyData) : (Opd.val (.l (xs.map .p))).own = some (.list xs) := by show (allP _).map _ = _; rw [allP_map]; rfl
@[simp] theorem ownAll_nil : ownAll [] = some [] := rfl
@[simp] theorem ownAll_cons (o : Opd) (os : List Opd) : ownAll (o :: os) = o.own.bind fun d => (ownAll os).map (d :: ·) := rfl
@[simp] theorem mSeq_run (ma : ExM) : mSeq ma env = bnd ma (fun o => bnd (ownD o) fun d => fun env => (itD d).map fun ds => (.ok ds, env)) env := rfl
@[simp] theorem ownD_p (d : PyData) : ownD (.val (.p d)) env = some (.ok d, env) := rfl
theorem ownD_l (xs : List PyData) : ownD (.val (.l (xs.map .p))) env = some (.ok (.list xs), env) := by
  show ((Slot.l (xs.map .p)).dat).map _ = _
  have : (Slot.l (xs.map .p)).dat = some (.list xs) := by show (allP _).map _ = _; rw [allP_map]; rfl
  rw [this]; rfl
@[simp] theorem ownD_ref (i : Nat) : ownD (.ref i) env = (((env[i]?).getD .un).dat).map fun d => (.ok d, env.set i (.p d)) := rfl
@[simp] theorem dat_p (d : PyData) : (Slot.p d).dat = some d := rfl
theorem dat_l (xs : List PyData) : (Slot.l (xs.map .p)).dat = some (.list xs) := by show (allP _).map _ = _; rw [allP_map]; rfl
@[simp] theorem mRng_run (f : List PyData → Option (List PyData)) (ms : Mir (List Opd)) : mRng f ms env = bnd ms (fun os => bnd (lookAll os) fun ds => fun env => (f ds).map fun es => (.ok es, env)) env := rfl
@[simp] theorem mComp_run (own : List Nat) (mi : Mir (List PyData)) (tg : TgM) (mt : Mir Bool) (me : ExM) : mComp own mi tg mt me env = match mi env with
  | some (.ok ds, e) => if ds.length ≤ 1000000 then (match compM own tg mt me ds [] (wipeE e own) with
    | some (acc, e2) => some (.ok (.val (.l (acc.map .p))), resE e e2 own)
    | none => none) else none
  | some (.ex x, e) => some (.ex x, e)
  | none => none := by
  unfold mComp bnd
  cases mi env with
  | none => rfl
  | some p => obtain ⟨r, e⟩ := p; cases r with
    | ex x => rfl
    | ok ds =>
      simp only
      split
      · cases compM own tg mt me ds [] (wipeE e own) with
        | none => rfl
        | some q => rfl
      · rfl
@[simp] theorem mFn_run (fm : FnM) (ms : Mir (List Opd)) : mFn fm ms env = bnd ms (fun os env => match argS os with
  | some ss => (match fm ss with
    | some (.ok s, _) => some (.ok (.val s), env)
    | some (.ex x, _) => some (.ex x, env)
    | none => none)
  | none => none) env := by
  unfold mFn bnd
  cases ms env with
  | none => rfl
  | some p => obtain ⟨r, e⟩ := p; cases r with
    | ex x => rfl
    | ok os =>
      simp only
      cases argS os with
      | none => rfl
      | some ss => simp only [Option.bind_some]; cases fm ss with
        | none => rfl
        | some q => obtain ⟨r, t⟩ := q; cases r <;> rfl
@[simp] theorem argS_nil : argS [] = some [] := rfl
@[simp] theorem argS_p (d : PyData) (os : List Opd) : argS (.val (.p d) :: os) = (argS os).map (.p d :: ·) := rfl
theorem argS_l (xs : List PyData) (os : List Opd) : argS (.val (.l (xs.map .p)) :: os) = (argS os).map (.p (.list xs) :: ·) := by
  show (argS os).map (fun ss => (match (Slot.l (xs.map .p)).dat with | some d => Slot.p d | none => Slot.l (xs.map .p)) :: ss) = _
  rw [dat_l]
/-- statements -/
@[simp] theorem sSeq_run (m1 m2 : StM) : sSeq m1 m2 env = match m1 env with
  | some (.nx, e) => m2 e
  | r => r := rfl
@[simp] theorem sNx_run : sNx env = some (.nx, env) := rfl
@[simp] theorem sRet_run (me : ExM) : sRet me env = bndS me sRetO env := rfl
@[simp] theorem sRetO_val (s : Slot) : sRetO (.val s) env = some (.rt s, env) := rfl
@[simp] theorem sRetO_ref (i : Nat) : sRetO (.ref i) env = some (.rt ((env[i]?).getD .un), env.set i .un) := rfl
@[simp] theorem sAsg_run (me : ExM) (tg : TgM) : sAsg me tg env = bndS me (fun o => match o with
  | .val s => fun env => (match tg s env with
    | some e => some (.nx, e)
    | none => none)
  | .ref _ => fun _ => none) env := by
  unfold sAsg bndS
  cases me env with
  | none => rfl
  | some p => obtain ⟨r, e⟩ := p; cases r with
    | ex x => rfl
    | ok o => cases o with
      | ref i => rfl
      | val s =>
        simp only
        cases tg s e <;> rfl
@[simp] theorem gN_run (i : Nat) : gN i s env = if i < env.length then some (env.set i s) else none := rfl
@[simp] theorem sPar_run (i j : Nat) (ms : Mir (List Opd)) : sPar i j ms env = bndS ms (fun os env => (parK os).bind fun p => if i < env.length ∧ j < env.length then some (.nx, (env.set i p.1).set j p.2) else none) env := rfl
@[simp] theorem parK_run (a b : Slot) : parK [.val a, .val b] = some (a, b) := rfl
@[simp] theorem sFor_run (mi : Mir (List PyData)) (tg : TgM) (mb : StM) : sFor mi tg mb env = bndS mi (fun ds => forM tg mb ds) env := rfl
@[simp] theorem sDSet_run (i : Nat) (mv mk : ExM) : sDSet i mv mk env = bndS mv (fun ov => match ov.own with
  | some e => isM i (bndS mk fun ok => bndS (look ok) fun d => dpK i e d)
  | none => fun _ => none) env := rfl
@[simp] theorem isM_run {γ : Type} (i : Nat) (k : Env → Option γ) : isM i k env = match env[i]? with
  | some (.m _) => k env
  | _ => none := rfl
@[simp] theorem isL_run (i : Nat) (k : StM) : isL i k env = match env[i]? with
  | some (.l _) => k env
  | _ => none := rfl
@[simp] theorem dpK_run (i : Nat) (e d : PyData) : dpK i e d env = match env[i]?, keyD d with
  | some (.m ks), some k => if smallL ks.length then some (.nx, env.set i (.m (putS ks k (.p e)))) else none
  | _, _ => none := rfl
@[simp] theorem mDGet2_run (i : Nat) (mk md : ExM) : mDGet2 i mk md env = isM i (bnd mk fun ok => bnd md fun od => bnd (look ok) fun d => dgK i d od) env := rfl
@[simp] theorem dgK_run (i : Nat) (d : PyData) (od : Opd) : dgK i d od env = match env[i]?, keyD d with
  | some (.m ks), some k => (match valS ks k with
    | some (.p e) => some (.ok (.val (.p e)), env)
    | none => (match od with
      | .val s => some (.ok (.val s), env)
      | .ref _ => none)
    | _ => none)
  | _, _ => none := rfl
@[simp] theorem mDNew_run : mDNew env = some (.ok (.val (.m [])), env) := rfl
@[simp] theorem sExt_run (i : Nat) (me : ExM) : sExt i me env = isL i (bndS me (exK i)) env := rfl
@[simp] theorem exK_run (i : Nat) (ys : List Slot) : exK i (.val (.l ys)) env = match env[i]? with
  | some (.l xs) => if smallL (xs.length + ys.length) then some (.nx, env.set i (.l (xs ++ ys))) else none
  | _ => none := rfl
@[simp] theorem sApp_run (i : Nat) (me : ExM) : sApp i me env = isL i (bndS me (apK i)) env := rfl
@[simp] theorem apK_p (i : Nat) (d : PyData) : apK i (.val (.p d)) env = match env[i]? with
  | some (.l xs) => if smallL xs.length then some (.nx, env.set i (.l (xs ++ [.p d]))) else none
  | _ => none := rfl
@[simp] theorem sSetL_run (i : Nat) (me mi : ExM) : sSetL i me mi env = bndS me (fun o => match o with
  | .val s => isL i (bndS mi fun oi => bndS (look oi) fun d => stK i s d)
  | .ref _ => fun _ => none) env := rfl
@[simp] theorem stK_p (i : Nat) (e d : PyData) : stK i (.p e) d env = match d with
  | .int k => (match env[i]? with
    | some (.l xs) => (ixN xs.length k).bind fun j => some (.nx, env.set i (.l (xs.set j (.p e))))
    | _ => none)
  | _ => none := rfl
@[simp] theorem mSortIt_run (i : Nat) : mSortIt i env = match env[i]? with
  | some (.m ks) => (kdsS ks).bind fun kds => if sortB (kds.map prD) = true ∧ (kds.all fun z => decide (z.2.depth ≤ 40)) = true then some (.ok (.val (.l ((srt (kds.map prD)).map .p))), env) else none
  | _ => none := rfl
@[simp] theorem mFnL_run (fm : FnM) (ms : Mir (List Opd)) : mFnL fm ms env = bnd ms (fun os env => match os with
  | .ref i :: os' => (match argS os' with
    | some ss => (match fm (((env[i]?).getD .un) :: ss) with
      | some (.ok s, ss') => some (.ok (.val s), env.set i ((ss'[0]?).getD .un))
      | some (.ex x, ss') => some (.ex x, env.set i ((ss'[0]?).getD .un))
      | none => none)
    | none => none)
  | _ => none) env := by
  unfold mFnL bnd
  cases ms env with
  | none => rfl
  | some p => obtain ⟨r, e⟩ := p; cases r with
    | ex x => rfl
    | ok os =>
      cases os with
      | nil => rfl
      | cons o os => cases o with
        | val s => rfl
        | ref i =>
          simp only
          cases argS os with
          | none => rfl
          | some ss =>
            simp only [Option.bind_some]
            cases fm (((e[i]?).getD .un) :: ss) with
            | none => rfl
            | some q => obtain ⟨r, t⟩ := q; cases r <;> rfl
@[simp] theorem mIsi_run (ns : List String) (me : ExM) : mIsi ns me env = bnd me (fun o => bnd (lookT o) fun t => MM.ret (.val (.p (.bool (ns.any fun n => isSub t n))))) env := rfl
@[simp] theorem lookT_p (d : PyData) : lookT (.val (.p d)) env = some (.ok (tyD d), env) := rfl
@[simp] theorem allP_nil : allP [] = some [] := rfl
@[simp] theorem allP_cons (d : PyData) (xs : List Slot) : allP (.p d :: xs) = (allP xs).map (d :: ·) := rfl
@[simp] theorem look_ls (xs : List Slot) : look (.val (.l xs)) env = match allP xs with
  | some ds => some (.ok (.list ds), env)
  | none => none := by
  show (match (Slot.l xs).dat with | some d => some (Res.ok d, env) | none => none) = _
  show (match (allP xs).map PyData.list with | some d => some (Res.ok d, env) | none => none) = _
  cases allP xs <;> rfl
@[simp] theorem own_ls (xs : List Slot) : (Opd.val (.l xs)).own = (allP xs).map .list := rfl
@[simp] theorem dat_ls (xs : List Slot) : (Slot.l xs).dat = (allP xs).map .list := rfl
@[simp] theorem ownD_ls (xs : List Slot) : ownD (.val (.l xs)) env = match allP xs with
  | some ds => some (.ok (.list ds), env)
  | none => none := by
  show ((allP xs).map PyData.list).map (fun d => (Res.ok d, env)) = _
  cases allP xs <;> rfl
@[simp] theorem argS_ls (xs : List Slot) (os : List Opd) : argS (.val (.l xs) :: os) = (argS os).map fun ss => (match allP xs with
  | some ds => .p (.list ds)
  | none => .l xs) :: ss := by
  show (argS os).map (fun ss => (match (allP xs).map PyData.list with | some d => Slot.p d | none => Slot.l xs) :: ss) = _
  cases allP xs <;> rfl
@[simp] theorem wipeE_nil : wipeE env [] = env := rfl
@[simp] theorem wipeE_cons (v : Nat) (vs : List Nat) : wipeE env (v :: vs) = (wipeE env vs).set v .un := rfl
@[simp] theorem resE_nil (e : Env) : resE env e [] = e := rfl
@[simp] theorem resE_cons (e : Env) (v : Nat) (vs : List Nat) : resE env e (v :: vs) = resE env (e.set v (((wipeE env vs)[v]?).getD .un)) vs := rfl
@[simp] theorem get_p (d : PyData) : Opd.get (.val (.p d)) env = .p d := rfl
theorem runB_run (n N : Nat) (mb : StM) (ss : List Slot) (h : ss.length = n) : runB n N mb ss = runE n (mb (ss ++ List.replicate (N - n) .un)) := by unfold runB; rw [if_pos h]
theorem fn_rt {n N : Nat} {mb : StM} {ss : List Slot} {s : Slot} {e : Env} (h : ss.length = n) (hb : mb (ss ++ List.replicate (N - n) .un) = some (.rt s, e)) : runB n N mb ss = some (.ok s, e.take n) := by
  rw [runB_run _ _ _ _ h, hb]; rfl
theorem runE_rt (n : Nat) (s : Slot) (e : Env) : runE n (some (.rt s, e)) = some (.ok s, e.take n) := rfl
theorem runE_nx (n : Nat) (e : Env) : runE n (some (.nx, e)) = some (.ok (.p .none), e.take n) := rfl
end
theorem seq_nx {m1 m2 : StM} {env e : Env} {r : Option (Fl × Env)} (h1 : m1 env = some (.nx, e)) (h2 : m2 e = r) : sSeq m1 m2 env = r := by
  unfold sSeq; rw [h1]; exact h2
theorem if_no {mt : Mir Bool} {m1 : StM} {env e : Env} (h : mt env = some (.ok false, e)) : sIf mt m1 sNx env = some (.nx, e) := by
  rw [sIf_run, h]; rfl
theorem or_no {mt mu : Mir Bool} {env e e2 : Env} (h1 : mt env = some (.ok false, e)) (h2 : mu e = some (.ok false, e2)) : mOrT mt mu env = some (.ok false, e2) := by
  rw [mOrT_run, h1]; exact h2
/-- a loop by an invariant over what was walked -/
theorem forM_go {α : Type} {tg : TgM} {mb : StM} (D : α → PyData) (I : List α → Env → Prop) (all : List α) (k : ∀ done x rest E, all = done ++ x :: rest → I done E → ∃ E1 E2 f, tg (.p (D x)) E = some E1 ∧ mb E1 = some (f, E2) ∧ (f = .nx ∨ f = .ct) ∧ I (done ++ [x]) E2) :
    ∀ (xs done : List α) (E : Env), all = done ++ xs → I done E → ∃ E', forM tg mb (xs.map D) E = some (.nx, E') ∧ I all E'
  | [], done, E, e, h => ⟨E, rfl, by rw [List.append_nil] at e; rw [e]; exact h⟩
  | x :: xs, done, E, e, h => by
    obtain ⟨E1, E2, f, h1, h2, hf, h3⟩ := k done x xs E e h
    obtain ⟨E', h4, h5⟩ := forM_go (tg := tg) (mb := mb) D I all k xs (done ++ [x]) E2 (by rw [List.append_assoc]; exact e) h3
    refine ⟨E', ?_, h5⟩
    rw [List.map_cons]
    unfold forM
    rw [h1, Option.bind_some, h2]
    rcases hf with rfl | rfl <;> exact h4
theorem forM_inv {α : Type} {tg : TgM} {mb : StM} (D : α → PyData) (I : List α → Env → Prop) (xs : List α) (k : ∀ done x rest E, xs = done ++ x :: rest → I done E → ∃ E1 E2 f, tg (.p (D x)) E = some E1 ∧ mb E1 = some (f, E2) ∧ (f = .nx ∨ f = .ct) ∧ I (done ++ [x]) E2)
    (E : Env) (h : I [] E) : ∃ E', forM tg mb (xs.map D) E = some (.nx, E') ∧ I xs E' := forM_go D I xs k xs [] E rfl h
/-- a comprehension by an invariant -/
theorem compM_inv {α : Type} {own : List Nat} {tg : TgM} {mt : Mir Bool} {me : ExM} (D : α → PyData) (I : List α → List PyData → Env → Prop) : ∀ (xs done : List α) (acc : List PyData) (E : Env),
    (∀ done x acc E, I done acc E → ∃ E1, tg (.p (D x)) E = some E1 ∧ ((∃ E2, mt E1 = some (.ok false, E2) ∧ I (done ++ [x]) acc (wipeE E2 own)) ∨ ∃ E2 o E3 d, mt E1 = some (.ok true, E2) ∧ me E2 = some (.ok o, E3) ∧ o.own = some d ∧ I (done ++ [x]) (acc ++ [d]) (wipeE E3 own))) →
    I done acc E → ∃ acc' E', compM own tg mt me (xs.map D) acc E = some (acc', E') ∧ I (done ++ xs) acc' E'
  | [], done, acc, E, _, h => ⟨acc, E, rfl, by rw [List.append_nil]; exact h⟩
  | x :: xs, done, acc, E, k, h => by
    obtain ⟨E1, h1, h2⟩ := k done x acc E h
    rw [List.map_cons]
    unfold compM
    rw [h1, Option.bind_some]
    rcases h2 with ⟨E2, h3, h4⟩ | ⟨E2, o, E3, d, h3, h4, h5, h6⟩
    · obtain ⟨acc', E', e1, e2⟩ := compM_inv (own := own) (tg := tg) (mt := mt) (me := me) D I xs (done ++ [x]) acc (wipeE E2 own) k h4
      rw [h3]
      exact ⟨acc', E', e1, by rw [List.append_assoc] at e2; exact e2⟩
    · obtain ⟨acc', E', e1, e2⟩ := compM_inv (own := own) (tg := tg) (mt := mt) (me := me) D I xs (done ++ [x]) (acc ++ [d]) (wipeE E3 own) k h6
      rw [h3]
      simp only [h4, h5, Option.bind_some]
      exact ⟨acc', E', e1, by rw [List.append_assoc] at e2; exact e2⟩
end MM
/-! M13: data by type: pairs of numbers, lists of them -/
namespace MM
open PySem PySem.Spec L2
def prI (p : Int × Int) : PyData := .tuple [.int p.1, .int p.2]
def vD (v : List (Int × Int)) : PyData := .tuple (v.map prI)
def lD (v : List (Int × Int)) : PyData := .list (v.map prI)
theorem ints_map {α : Type} (f : α → Int) (ns : List α) : ints? (ns.map fun x => .int (f x)) = some (ns.map f) := by
  induction ns with
  | nil => rfl
  | cons n ns ih => rw [List.map_cons]; show (ints? (ns.map _)).map (f n :: ·) = _; rw [ih]; rfl
theorem bools_map {α : Type} (f : α → Bool) (ns : List α) : bools? (ns.map fun x => .bool (f x)) = some (ns.map f) := by
  induction ns with
  | nil => rfl
  | cons n ns ih => rw [List.map_cons]; show (bools? (ns.map _)).map (f n :: ·) = _; rw [ih]; rfl
@[simp] theorem itD_vD (v : List (Int × Int)) : itD (vD v) = some (v.map prI) := rfl
@[simp] theorem itD_lD (v : List (Int × Int)) : itD (lD v) = some (v.map prI) := rfl
@[simp] theorem itD_tup (ds : List PyData) : itD (.tuple ds) = some ds := rfl
@[simp] theorem itD_lst (ds : List PyData) : itD (.list ds) = some ds := rfl
theorem eqv_int (a b : Int) : PyData.eqv (.int a) (.int b) = (a == b) := rfl
theorem eqv_bool (a b : Bool) : PyData.eqv (.bool a) (.bool b) = (a == b) := rfl
theorem eqv_prI (p q : Int × Int) : PyData.eqv (prI p) (prI q) = decide (p = q) := by
  obtain ⟨a, b⟩ := p
  obtain ⟨c, d⟩ := q
  show ((a == c) && ((b == d) && true)) = _
  rw [Bool.and_true, Bool.eq_iff_iff]
  simp [Prod.ext_iff]
theorem eqvAll_prI : ∀ (a b : List (Int × Int)), PyData.eqvAll (a.map prI) (b.map prI) = decide (a = b)
  | [], [] => rfl
  | [], _ :: _ => rfl
  | _ :: _, [] => rfl
  | x :: a, y :: b => by
    rw [List.map_cons, List.map_cons]
    show (PyData.eqv (prI x) (prI y) && PyData.eqvAll (a.map prI) (b.map prI)) = _
    rw [eqv_prI, eqvAll_prI a b, Bool.eq_iff_iff]
    simp
theorem eqv_vD (a b : List (Int × Int)) : PyData.eqv (vD a) (vD b) = decide (a = b) := eqvAll_prI a b
theorem eqv_lD (a b : List (Int × Int)) : PyData.eqv (lD a) (lD b) = decide (a = b) := eqvAll_prI a b
theorem lay_prI : ∀ (a : List (Int × Int)), PyData.canLayAll0 (a.map prI) = true
  | [] => rfl
  | x :: a => by
    rw [List.map_cons]
    show (true && PyData.canLayAll0 (a.map prI)) = true
    rw [lay_prI a]; rfl
theorem depth_prI : ∀ (a : List (Int × Int)), PyData.depthAll (a.map prI) ≤ 1
  | [] => by simp [PyData.depthAll]
  | x :: a => by
    have := depth_prI a
    rw [List.map_cons, PyData.depthAll]
    have e : (prI x).depth = 1 := by simp [prI, PyData.depth, PyData.depthAll]
    rw [e]; omega
theorem shaped_int (a : Int) : SeqAt.shaped (.int a) = true := rfl
theorem shaped_bool (a : Bool) : SeqAt.shaped (.bool a) = true := rfl
theorem shaped_prI (p : Int × Int) : SeqAt.shaped (prI p) = true := by
  obtain ⟨a, b⟩ := p
  simp [SeqAt.shaped, prI, PyData.canLay0, PyData.canLayAll0, PyData.depth, PyData.depthAll]
theorem shaped_tupI (a : List (Int × Int)) : SeqAt.shaped (.tuple (a.map prI)) = true := by
  have := depth_prI a
  unfold SeqAt.shaped
  rw [PyData.canLay0, PyData.depth, lay_prI, Bool.true_and, decide_eq_true_eq]
  omega
theorem shaped_lstI (a : List (Int × Int)) : SeqAt.shaped (.list (a.map prI)) = true := by
  have := depth_prI a
  unfold SeqAt.shaped
  rw [PyData.canLay0, PyData.depth, lay_prI, Bool.true_and, decide_eq_true_eq]
  omega
theorem shaped_vD (a : List (Int × Int)) : SeqAt.shaped (vD a) = true := shaped_tupI a
theorem shaped_lD (a : List (Int × Int)) : SeqAt.shaped (lD a) = true := shaped_lstI a
theorem any_prI (a : List (Int × Int)) (p : Int × Int) : ((a.map prI).any fun z => PyData.eqv z (prI p)) = decide (p ∈ a) := by
  rw [List.any_map, Bool.eq_iff_iff, List.any_eq_true, decide_eq_true_eq]
  refine ⟨fun ⟨q, h1, h2⟩ => ?_, fun h => ⟨p, h, ?_⟩⟩
  · have h2 : PyData.eqv (prI q) (prI p) = true := h2
    rw [eqv_prI] at h2
    exact of_decide_eq_true h2 ▸ h1
  · show PyData.eqv (prI p) (prI p) = true
    rw [eqv_prI]; exact decide_eq_true rfl
@[simp] theorem gIn_prI (a : List (Int × Int)) (p : Int × Int) : gIn false (prI p) (.list (a.map prI)) = some (.p (.bool (decide (p ∈ a)))) := by
  show (if SeqAt.shaped (prI p) && SeqAt.shaped (.list (a.map prI)) then some (Slot.p (.bool ((a.map prI).any fun z => PyData.eqv z (prI p)))) else none) = _
  rw [shaped_prI, shaped_lstI, any_prI]; rfl
@[simp] theorem gNotIn_prI (a : List (Int × Int)) (p : Int × Int) : gIn true (prI p) (.list (a.map prI)) = some (.p (.bool (!decide (p ∈ a)))) := by
  show (if SeqAt.shaped (prI p) && SeqAt.shaped (.list (a.map prI)) then some (Slot.p (.bool (!(a.map prI).any fun z => PyData.eqv z (prI p)))) else none) = _
  rw [shaped_prI, shaped_lstI, any_prI]; rfl
theorem gEq_of {d e : PyData} {b : Bool} (h1 : SeqAt.shaped d = true) (h2 : SeqAt.shaped e = true) (h : PyData.eqv d e = b) : gEq d e = some (.p (.bool b)) := by
  unfold gEq; rw [h1, h2, h]; rfl
theorem gNe_of {d e : PyData} {b : Bool} (h1 : SeqAt.shaped d = true) (h2 : SeqAt.shaped e = true) (h : PyData.eqv d e = b) : gNe d e = some (.p (.bool (!b))) := by
  unfold gNe; rw [h1, h2, h]; rfl
@[simp] theorem gEq_int (a b : Int) : gEq (.int a) (.int b) = some (.p (.bool (a == b))) := rfl
@[simp] theorem gNe_int (a b : Int) : gNe (.int a) (.int b) = some (.p (.bool (!(a == b)))) := rfl
@[simp] theorem gEq_bool (a b : Bool) : gEq (.bool a) (.bool b) = some (.p (.bool (a == b))) := rfl
@[simp] theorem gNe_bool (a b : Bool) : gNe (.bool a) (.bool b) = some (.p (.bool (!(a == b)))) := rfl
@[simp] theorem gEq_vD (a b : List (Int × Int)) : gEq (vD a) (vD b) = some (.p (.bool (decide (a = b)))) := gEq_of (shaped_vD a) (shaped_vD b) (eqv_vD a b)
@[simp] theorem gNe_vD (a b : List (Int × Int)) : gNe (vD a) (vD b) = some (.p (.bool (!decide (a = b)))) := gNe_of (shaped_vD a) (shaped_vD b) (eqv_vD a b)
@[simp] theorem gEq_lD (a b : List (Int × Int)) : gEq (.list (a.map prI)) (.list (b.map prI)) = some (.p (.bool (decide (a = b)))) := gEq_of (shaped_lD a) (shaped_lD b) (eqv_lD a b)
@[simp] theorem gI_sub (a b : Int) : gI (fun i j => some (.int (i - j))) (.int a) (.int b) = some (.p (.int (a - b))) := rfl
@[simp] theorem gAdd_int (a b : Int) : gAdd (.int a) (.int b) = some (.p (.int (a + b))) := rfl
@[simp] theorem gLtI_int (a b : Int) : gLtI (.int a) (.int b) = some (.p (.bool (decide (a < b)))) := rfl
@[simp] theorem gLeI_int (a b : Int) : gLeI (.int a) (.int b) = some (.p (.bool (decide (a ≤ b)))) := rfl
@[simp] theorem gGtI_int (a b : Int) : gGtI (.int a) (.int b) = some (.p (.bool (decide (b < a)))) := rfl
@[simp] theorem gGeI_int (a b : Int) : gGeI (.int a) (.int b) = some (.p (.bool (decide (b ≤ a)))) := rfl
@[simp] theorem gSum_run {α : Type} (f : α → Int) (xs : List α) : gSum [.list (xs.map fun x => .int (f x))] = some (.p (.int (xs.map f).sum)) := by
  show (ints? (xs.map fun x => .int (f x))).map _ = _
  rw [ints_map]; rfl
@[simp] theorem gAll_run {α : Type} (f : α → Bool) (xs : List α) : gAll [.list (xs.map fun x => .bool (f x))] = some (.p (.bool (xs.all f))) := by
  show (bools? (xs.map fun x => .bool (f x))).map _ = _
  rw [bools_map]
  show some (Slot.p (.bool ((xs.map f).all id))) = _
  rw [List.all_map]; rfl
@[simp] theorem gAny_run {α : Type} (f : α → Bool) (xs : List α) : gAny [.list (xs.map fun x => .bool (f x))] = some (.p (.bool (xs.any f))) := by
  show (bools? (xs.map fun x => .bool (f x))).map _ = _
  rw [bools_map]
  show some (Slot.p (.bool ((xs.map f).any id))) = _
  rw [List.any_map]; rfl
@[simp] theorem gLen_list (ds : List PyData) : gLen [.list ds] = some (.p (.int ds.length)) := rfl
@[simp] theorem gLen_tuple (ds : List PyData) : gLen [.tuple ds] = some (.p (.int ds.length)) := rfl
@[simp] theorem gTuple_list (ds : List PyData) : gTuple [.list ds] = some (.p (.tuple ds)) := rfl
@[simp] theorem gIdx_pr0 (p : Int × Int) : gIdx (prI p) (.int 0) = some (.p (.int p.1)) := rfl
@[simp] theorem gIdx_pr1 (p : Int × Int) : gIdx (prI p) (.int 1) = some (.p (.int p.2)) := rfl
@[simp] theorem gMax2_run (i j : Int) : gMax2 [.int i, .int j] = some (.p (.int (max i j))) := by
  show some (Slot.p (.int (if j > i then j else i))) = _
  rw [Int.max_def]
  congr 3
  split <;> split <;> omega
@[simp] theorem gMin2_run (i j : Int) : gMin2 [.int i, .int j] = some (.p (.int (min i j))) := by
  show some (Slot.p (.int (if j < i then j else i))) = _
  rw [Int.min_def]
  congr 3
  split <;> split <;> omega
@[simp] theorem truD_bool (b : Bool) : truD (.bool b) = some b := rfl
@[simp] theorem truD_int (i : Int) : truD (.int i) = some (i != 0) := rfl
@[simp] theorem boD_bool (b : Bool) : boD (.bool b) = some b := rfl
theorem prI_mk (a b : Int) : PyData.tuple [.int a, .int b] = prI (a, b) := rfl
theorem gMul_run {a b : Int} (h : 0 ≤ a) (h2 : a < 2147483648) : gI fMul (.int a) (.int b) = some (.p (.int (a * b))) := by
  show (fMul a b).map Slot.p = _
  unfold fMul
  have e1 : (2 : Int) ^ 64 = 18446744073709551616 := by decide
  have h3 : ((decide (-(2 ^ 64 : Int) < a) && decide (a < (2 : Int) ^ 64)) || (decide (-(2 ^ 64 : Int) < b) && decide (b < (2 : Int) ^ 64))) = true := by
    rw [e1, decide_eq_true (show -18446744073709551616 < a by omega), decide_eq_true (show a < 18446744073709551616 by omega)]; rfl
  rw [if_pos h3]; rfl
theorem gMod_run {a b : Int} (h : 0 < b) : gI fMod (.int a) (.int b) = some (.p (.int (a % b))) := by
  show (fMod a b).map Slot.p = _
  unfold fMod
  rw [if_pos (decide_eq_true h)]; rfl
theorem gDiv_run {a b : Int} (h : 0 < b) (h2 : b < 1073741824) : gI fDiv (.int a) (.int b) = some (.p (.int (a / b))) := by
  show (fDiv a b).map Slot.p = _
  unfold fDiv
  rw [decide_eq_true h, decide_eq_true h2]; rfl
@[simp] theorem gAbs_run (i : Int) : gAbs [.int i] = some (.p (.int (if i < 0 then -i else i))) := rfl
@[simp] theorem gInt_run (i : Int) : gInt [.int i] = some (.p (.int i)) := rfl
@[simp] theorem gNeg_run (i : Int) : gNeg (.int i) = some (.p (.int (-i))) := rfl
@[simp] theorem tyD_vD (v : List (Int × Int)) : tyD (vD v) = "tuple" := rfl
@[simp] theorem tyD_bool (b : Bool) : tyD (.bool b) = "bool" := rfl
@[simp] theorem tyD_int (b : Int) : tyD (.int b) = "int" := rfl
@[simp] theorem sub_tt : isSub "tuple" "tuple" = true := by decide
@[simp] theorem sub_bb : isSub "bool" "bool" = true := by decide
@[simp] theorem sub_ii : isSub "int" "int" = true := by decide
/-! dicts of numbers -/
def mI (l : List (Int × Int)) : List (Key × Slot) := l.map fun p => (.inl p.1, .p (.int p.2))
def getI (l : List (Int × Int)) (c : Int) : Option Int := (l.find? fun p => p.1 == c).map (·.2)
def putI (l : List (Int × Int)) (c n : Int) : List (Int × Int) := if (l.any fun p => p.1 == c) = true then l.map (fun p => if p.1 = c then (p.1, n) else p) else l ++ [(c, n)]
theorem inl_dec (a c : Int) : decide ((Sum.inl a : Key) = Sum.inl c) = (a == c) := by
  rw [Bool.eq_iff_iff]; simp
@[simp] theorem valS_mI (l : List (Int × Int)) (c : Int) : valS (mI l) (.inl c) = (getI l c).map fun n => .p (.int n) := by
  induction l with
  | nil => rfl
  | cons p l ih =>
    unfold valS getI mI at *
    rw [List.map_cons, List.find?_cons, List.find?_cons]
    simp only [inl_dec]
    cases p.1 == c with
    | true => rfl
    | false => exact ih
theorem any_mI (l : List (Int × Int)) (c : Int) : ((mI l).any fun kv => decide (kv.1 = (.inl c : Key))) = l.any fun p => p.1 == c := by
  unfold mI
  rw [List.any_map]
  congr 1
  funext p
  exact inl_dec p.1 c
@[simp] theorem putS_mI (l : List (Int × Int)) (c n : Int) : putS (mI l) (.inl c) (.p (.int n)) = mI (putI l c n) := by
  unfold putS putI
  rw [any_mI]
  split
  · unfold mI
    rw [List.map_map, List.map_map]
    apply List.map_congr_left
    intro p _
    show (if (Sum.inl p.1 : Key) = .inl c then _ else _) = _
    by_cases h : p.1 = c
    · simp [h]
    · simp [h]
  · unfold mI
    rw [List.map_append]; rfl
@[simp] theorem mI_len (l : List (Int × Int)) : (mI l).length = l.length := by unfold mI; rw [List.length_map]
@[simp] theorem keyD_int (c : Int) : keyD (.int c) = some (.inl c) := rfl
def kdI (l : List (Int × Int)) : List (Key × PyData) := l.map fun p => (.inl p.1, .int p.2)
@[simp] theorem kdsS_mI (l : List (Int × Int)) : kdsS (mI l) = some (kdI l) := by
  induction l with
  | nil => rfl
  | cons p l ih => show (kdsS (mI l)).map _ = _; rw [ih]; rfl
@[simp] theorem kdI_prD (l : List (Int × Int)) : (kdI l).map prD = l.map prI := by
  unfold kdI; rw [List.map_map]; rfl
@[simp] theorem sortB_prI (l : List (Int × Int)) : sortB (l.map prI) = true := by
  unfold sortB
  rw [List.all_eq_true]
  intro d hd
  obtain ⟨p, _, rfl⟩ := List.mem_map.mp hd
  rw [List.all_eq_true]
  intro e he
  obtain ⟨q, _, rfl⟩ := List.mem_map.mp he
  simp [prI, PySem.W.alike, PySem.W.alikeAll]
@[simp] theorem kdI_depth (l : List (Int × Int)) : ((kdI l).all fun z => decide (z.2.depth ≤ 40)) = true := by
  unfold kdI
  rw [List.all_map, List.all_eq_true]
  intro p _
  simp [PyData.depth]
def leI (p q : Int × Int) : Bool := decide (p.1 < q.1 ∨ (p.1 = q.1 ∧ p.2 ≤ q.2))
def sortI (l : List (Int × Int)) : List (Int × Int) := l.mergeSort leI
@[simp] theorem srt_prI (l : List (Int × Int)) : srt (l.map prI) = (sortI l).map prI := by
  unfold srt sortI
  symm
  apply List.map_mergeSort
  intro p _ q _
  have h := congrFun (congrFun (PySem.W.dataLe_ii (fun z : Int × Int => z.1) (fun z => z.2)) p) q
  exact h.symm
theorem pairsD_prI (l : List (Int × Int)) : pairsD (l.map prI) = some (kdI l) := by
  induction l with
  | nil => rfl
  | cons p l ih => rw [List.map_cons]; show (pairD (prI p)).bind _ = _; show (pairsD (l.map prI)).map _ = _; rw [ih]; rfl
def mergeI (acc more : List (Int × Int)) : List (Int × Int) := more.foldl (fun acc p => putI acc p.1 p.2) acc
theorem mergeS_mI : ∀ (l acc : List (Int × Int)), mergeS (mI acc) (kdI l) = mI (mergeI acc l)
  | [], acc => rfl
  | p :: l, acc => by
    show mergeS (putS (mI acc) (.inl p.1) (.p (.int p.2))) (kdI l) = _
    rw [putS_mI, mergeS_mI l]; rfl
@[simp] theorem gDict_vD (l : List (Int × Int)) : gDict [vD l] = some (.m (mI (mergeI [] l))) := by
  show (pairsD (l.map prI)).map _ = _
  rw [pairsD_prI, ← mergeS_mI]; rfl
/-- whole numbers in a row -/
def rgI (lo hi : Int) : List Int := (List.range (hi - lo).toNat).map fun i => lo + (i : Nat)
theorem rgD_eq (lo hi : Int) : rgD lo hi = (rgI lo hi).map .int := by
  unfold rgD rgI; rw [List.map_map]; rfl
theorem rgI_mem {lo hi x : Int} : x ∈ rgI lo hi ↔ lo ≤ x ∧ x < hi := by
  unfold rgI
  rw [List.mem_map]
  constructor
  · rintro ⟨i, h, rfl⟩
    rw [List.mem_range] at h
    omega
  · intro h
    exact ⟨(x - lo).toNat, by rw [List.mem_range]; omega, by omega⟩
theorem rgI_len (lo hi : Int) : (rgI lo hi).length = (hi - lo).toNat := by unfold rgI; rw [List.length_map, List.length_range]
theorem rng1_run {j : Int} (h : -1000000 ≤ j) (h2 : j ≤ 1000000) : rng1 [.int j] = some ((rgI 0 j).map .int) := by
  show (if smallI j then some (rgD 0 j) else none) = _
  rw [show smallI j = true by unfold smallI; simp only [Bool.and_eq_true, decide_eq_true_eq]; exact ⟨h, h2⟩, if_pos rfl, rgD_eq]
theorem rng2_run {i j : Int} (h0 : -1000000 ≤ i) (h1 : i ≤ 1000000) (h : -1000000 ≤ j) (h2 : j ≤ 1000000) : rng2 [.int i, .int j] = some ((rgI i j).map .int) := by
  show (if smallI i && smallI j then some (rgD i j) else none) = _
  rw [show smallI i = true by unfold smallI; simp only [Bool.and_eq_true, decide_eq_true_eq]; exact ⟨h0, h1⟩, show smallI j = true by unfold smallI; simp only [Bool.and_eq_true, decide_eq_true_eq]; exact ⟨h, h2⟩, rgD_eq]
  rfl
end MM
/-! ### printed by gen.py -/
namespace K00
open PySem PySem.Spec L2 MM
def topS (i : Nat) : Stmt := PySem.Challenge.pw_meetsagain_k00_vectors_of_dots.main.body.getD i (.Pass ⟨0, 0, 0, 0⟩)
def mb__law_draw : StM := (sSeq (sAsg (mC (.int 7)) (gN 1))
 (sSeq (sFor (mSeq (mVar 0)) (gN 2)
 (sAsg (mOp (gI fMod) (mCall gInt (mCons (mOp gAdd (mOp gAdd (mOp (gI fMul) (mVar 1) (mC (.int 48271))) (mOp (gI fMod) (mCall gAbs (mCons (mCall gInt (mCons (mVar 2) mNil)) mNil)) (mC (.int 65521)))) (mC (.int 1))) mNil)) (mC (.int 2147483647))) (gN 1)))
 (sRet (mLst (mCons (mComp [2] (mSeq (mVar 0)) (gN 2) mYes (mCall gAbs (mCons (mCall gInt (mCons (mVar 2) mNil)) mNil))) (mCons (mUn gNeg (mC (.int 1))) (mCons (mC (.int 0)) (mCons (mVar 1) mNil))))))))
abbrev N__law_draw : List Str := ["script", "seed", "cell"]
def m__law_draw : FnM := runB 1 N__law_draw.length mb__law_draw
theorem sc__law_draw : FnScope N__law_draw ["script"] (defScope (topS 11)) := ⟨rfl, rfl, rfl, by decide +kernel, rfl, by decide +kernel, by decide +kernel⟩
def mb_count_of : StM := (sRet (mCall gSum (mCons (mComp [2, 3] (mSeq (mVar 0)) (gT 2 (gsCons (gN 2) (gsCons (gN 3) gsNil))) (mTest (mOp gEq (mVar 2) (mVar 1))) (mVar 3)) mNil)))
abbrev N_count_of : List Str := ["vector", "copy", "one", "n"]
def m_count_of : FnM := runB 2 N_count_of.length mb_count_of
theorem sc_count_of : FnScope N_count_of ["vector", "copy"] (defScope (topS 1)) := ⟨rfl, rfl, rfl, by decide +kernel, rfl, by decide +kernel, by decide +kernel⟩
def mb_covers : StM := (sRet (mCall gAll (mCons (mComp [2, 3] (mSeq (mVar 1)) (gT 2 (gsCons (gN 2) (gsCons (gN 3) gsNil))) mYes (mOp gGeI (mFn m_count_of (mCons (mVar 0) (mCons (mVar 2) mNil))) (mVar 3))) mNil)))
abbrev N_covers : List Str := ["one", "other", "copy", "n"]
def m_covers : FnM := runB 2 N_covers.length mb_covers
theorem sc_covers : FnScope N_covers ["one", "other"] (defScope (topS 5)) := ⟨rfl, rfl, rfl, by decide +kernel, rfl, by decide +kernel, by decide +kernel⟩
def mb__law_take : StM := (sSeq (sIf (mTest (mOp gEq (mOp gIdx (mVar 0) (mC (.int 2))) (mC (.int 0))))
 (sSeq (sSetL 0 (mOp gAdd (mOp gIdx (mVar 0) (mC (.int 1))) (mC (.int 1))) (mC (.int 1)))
 (sSeq (sIf (mTest (mOp gLtI (mOp gIdx (mVar 0) (mC (.int 1))) (mCall gLen (mCons (mOp gIdx (mVar 0) (mC (.int 0))) mNil))))
 (sSetL 0 (mOp gIdx (mOp gIdx (mVar 0) (mC (.int 0))) (mOp gIdx (mVar 0) (mC (.int 1)))) (mC (.int 2)))
 sNx)
 (sIf (mTest (mOp gEq (mOp gIdx (mVar 0) (mC (.int 2))) (mC (.int 0))))
 (sSeq (sSetL 0 (mOp (gI fMod) (mCall gInt (mCons (mOp gAdd (mOp (gI fMul) (mOp gIdx (mVar 0) (mC (.int 3))) (mC (.int 48271))) (mC (.int 11))) mNil)) (mC (.int 2147483647))) (mC (.int 3)))
 (sSetL 0 (mOp gIdx (mVar 0) (mC (.int 3))) (mC (.int 2))))
 sNx)))
 sNx)
 (sSeq (sAsg (mOp (gI fMod) (mCall gInt (mCons (mOp gIdx (mVar 0) (mC (.int 2))) mNil)) (mVar 1)) (gN 2))
 (sSeq (sSetL 0 (mOp (gI fDiv) (mOp gIdx (mVar 0) (mC (.int 2))) (mVar 1)) (mC (.int 2)))
 (sRet (mVar 2)))))
abbrev N__law_take : List Str := ["draw", "many", "found"]
def m__law_take : FnM := runB 2 N__law_take.length mb__law_take
theorem sc__law_take : FnScope N__law_take ["draw", "many"] (defScope (topS 12)) := ⟨rfl, rfl, rfl, by decide +kernel, rfl, by decide +kernel, by decide +kernel⟩
def mb__law_drawn : StM := (sRet (mCall gTuple (mCons (mComp [1] (mRng rng1 (mCons (mC (.int 5)) mNil)) (gN 1) (mTest (mOp gEq (mFnL m__law_take (mCons (mVar 0) (mCons (mC (.int 2)) mNil))) (mC (.int 0)))) (mTup (mCons (mVar 1) (mCons (mOp gAdd (mC (.int 1)) (mFnL m__law_take (mCons (mVar 0) (mCons (mC (.int 4)) mNil)))) mNil)))) mNil)))
abbrev N__law_drawn : List Str := ["draw", "copy"]
def m__law_drawn : FnM := runB 1 N__law_drawn.length mb__law_drawn
theorem sc__law_drawn : FnScope N__law_drawn ["draw"] (defScope (topS 13)) := ⟨rfl, rfl, rfl, by decide +kernel, rfl, by decide +kernel, by decide +kernel⟩
def mb__law_dots : StM := (sSeq (sAsg (mLst mNil) (gN 1))
 (sSeq (sFor (mSeq (mVar 0)) (gT 2 (gsCons (gN 2) (gsCons (gN 3) gsNil)))
 (sAsg (mOp gAdd (mVar 1) (mComp [4] (mRng rng2 (mCons (mC (.int 1)) (mCons (mOp gAdd (mVar 3) (mC (.int 1))) mNil))) (gN 4) mYes (mTup (mCons (mVar 2) (mCons (mVar 4) mNil))))) (gN 1)))
 (sRet (mVar 1))))
abbrev N__law_dots : List Str := ["vector", "found", "copy", "n", "k"]
def m__law_dots : FnM := runB 1 N__law_dots.length mb__law_dots
theorem sc__law_dots : FnScope N__law_dots ["vector"] (defScope (topS 14)) := ⟨rfl, rfl, rfl, by decide +kernel, rfl, by decide +kernel, by decide +kernel⟩
def mb_joined : StM := (sSeq (sAsg (mCall gDict (mCons (mVar 0) mNil)) (gN 2))
 (sSeq (sFor (mSeq (mVar 1)) (gT 2 (gsCons (gN 3) (gsCons (gN 4) gsNil)))
 (sDSet 2 (mCall gMax2 (mCons (mVar 4) (mCons (mDGet2 2 (mVar 3) (mC (.int 0))) mNil))) (mVar 3)))
 (sRet (mCall gTuple (mCons (mSortIt 2) mNil)))))
abbrev N_joined : List Str := ["one", "other", "found", "copy", "n"]
def m_joined : FnM := runB 2 N_joined.length mb_joined
theorem sc_joined : FnScope N_joined ["one", "other"] (defScope (topS 3)) := ⟨rfl, rfl, rfl, by decide +kernel, rfl, by decide +kernel, by decide +kernel⟩
def mb_beside : StM := (sRet (mAnd (mNot (mFn m_covers (mCons (mVar 0) (mCons (mVar 1) mNil)))) (mNot (mFn m_covers (mCons (mVar 1) (mCons (mVar 0) mNil))))))
abbrev N_beside : List Str := ["one", "other"]
def m_beside : FnM := runB 2 N_beside.length mb_beside
theorem sc_beside : FnScope N_beside ["one", "other"] (defScope (topS 6)) := ⟨rfl, rfl, rfl, by decide +kernel, rfl, by decide +kernel, by decide +kernel⟩
def mb__law_vector : StM := (sSeq (sAsg mDNew (gN 1))
 (sSeq (sFor (mSeq (mVar 0)) (gT 2 (gsCons (gN 2) (gsCons (gN 3) gsNil)))
 (sDSet 1 (mCall gMax2 (mCons (mVar 3) (mCons (mDGet2 1 (mVar 2) (mC (.int 0))) mNil))) (mVar 2)))
 (sRet (mCall gTuple (mCons (mSortIt 1) mNil)))))
abbrev N__law_vector : List Str := ["dots", "counts", "copy", "k"]
def m__law_vector : FnM := runB 1 N__law_vector.length mb__law_vector
theorem sc__law_vector : FnScope N__law_vector ["dots"] (defScope (topS 15)) := ⟨rfl, rfl, rfl, by decide +kernel, rfl, by decide +kernel, by decide +kernel⟩
def mb_met : StM := (sSeq (sAsg (mComp [3, 4] (mSeq (mVar 0)) (gT 2 (gsCons (gN 3) (gsCons (gN 4) gsNil))) mYes (mTup (mCons (mVar 3) (mCons (mCall gMin2 (mCons (mVar 4) (mCons (mFn m_count_of (mCons (mVar 1) (mCons (mVar 3) mNil))) mNil))) mNil)))) (gN 2))
 (sRet (mCall gTuple (mCons (mComp [3, 4] (mSeq (mVar 2)) (gT 2 (gsCons (gN 3) (gsCons (gN 4) gsNil))) (mTest (mOp gGtI (mVar 4) (mC (.int 0)))) (mTup (mCons (mVar 3) (mCons (mVar 4) mNil)))) mNil))))
abbrev N_met : List Str := ["one", "other", "found", "copy", "n"]
def m_met : FnM := runB 2 N_met.length mb_met
theorem sc_met : FnScope N_met ["one", "other"] (defScope (topS 4)) := ⟨rfl, rfl, rfl, by decide +kernel, rfl, by decide +kernel, by decide +kernel⟩
def mb_has : StM := (sRet (mOp gGeI (mFn m_count_of (mCons (mVar 0) (mCons (mOp gIdx (mVar 1) (mC (.int 0))) mNil))) (mOp gIdx (mVar 1) (mC (.int 1)))))
abbrev N_has : List Str := ["vector", "dot"]
def m_has : FnM := runB 2 N_has.length mb_has
theorem sc_has : FnScope N_has ["vector", "dot"] (defScope (topS 2)) := ⟨rfl, rfl, rfl, by decide +kernel, rfl, by decide +kernel, by decide +kernel⟩
def mb_with_dot : StM := (sRet (mFn m_joined (mCons (mVar 0) (mCons (mTup (mCons (mVar 1) mNil)) mNil))))
abbrev N_with_dot : List Str := ["vector", "dot"]
def m_with_dot : FnM := runB 2 N_with_dot.length mb_with_dot
theorem sc_with_dot : FnScope N_with_dot ["vector", "dot"] (defScope (topS 7)) := ⟨rfl, rfl, rfl, by decide +kernel, rfl, by decide +kernel, by decide +kernel⟩
def mb_size_of : StM := (sRet (mCall gSum (mCons (mComp [1, 2] (mSeq (mVar 0)) (gT 2 (gsCons (gN 1) (gsCons (gN 2) gsNil))) mYes (mVar 2)) mNil)))
abbrev N_size_of : List Str := ["vector", "_", "n"]
def m_size_of : FnM := runB 1 N_size_of.length mb_size_of
theorem sc_size_of : FnScope N_size_of ["vector"] (defScope (topS 8)) := ⟨rfl, rfl, rfl, by decide +kernel, rfl, by decide +kernel, by decide +kernel⟩
def mb_dots_between : StM := (sSeq (sAsg (mLst mNil) (gN 2))
 (sSeq (sFor (mSeq (mVar 1)) (gT 2 (gsCons (gN 3) (gsCons (gN 4) gsNil)))
 (sExt 2 (mComp [5] (mRng rng2 (mCons (mOp gAdd (mFn m_count_of (mCons (mVar 0) (mCons (mVar 3) mNil))) (mC (.int 1))) (mCons (mOp gAdd (mVar 4) (mC (.int 1))) mNil))) (gN 5) mYes (mTup (mCons (mVar 3) (mCons (mVar 5) mNil))))))
 (sRet (mCall gTuple (mCons (mVar 2) mNil)))))
abbrev N_dots_between : List Str := ["one", "other", "found", "copy", "n", "k"]
def m_dots_between : FnM := runB 2 N_dots_between.length mb_dots_between
theorem sc_dots_between : FnScope N_dots_between ["one", "other"] (defScope (topS 9)) := ⟨rfl, rfl, rfl, by decide +kernel, rfl, by decide +kernel, by decide +kernel⟩
def mb_law : StM := (sSeq (sAsg (mFn m__law_draw (mCons (mVar 0) mNil)) (gN 1))
 (sSeq (sFor (mRng rng1 (mCons (mC (.int 4)) mNil)) (gN 2)
 (sSeq (sPar 3 4 (mCons (mFnL m__law_drawn (mCons (mVar 1) mNil)) (mCons (mFnL m__law_drawn (mCons (mVar 1) mNil)) mNil)))
 (sSeq (sAsg (mTup (mCons (mFn m__law_dots (mCons (mVar 3) mNil)) (mCons (mFn m__law_dots (mCons (mVar 4) mNil)) mNil))) (gT 2 (gsCons (gN 5) (gsCons (gN 6) gsNil))))
 (sSeq (sIf (mOrT (mTest (mOp gNe (mFn m_joined (mCons (mVar 3) (mCons (mVar 4) mNil))) (mFn m__law_vector (mCons (mOp gAdd (mVar 5) (mVar 6)) mNil)))) (mOrT (mTest (mOp gNe (mFn m_met (mCons (mVar 3) (mCons (mVar 4) mNil))) (mFn m__law_vector (mCons (mComp [9] (mSeq (mVar 5)) (gN 9) (mTest (mOp (gIn false) (mVar 9) (mVar 6))) (mVar 9)) mNil)))) (mNotT (mTruth (mIsi ["tuple"] (mFn m_met (mCons (mVar 3) (mCons (mVar 4) mNil))))))))
 (sRet (mC (.bool false)))
 sNx)
 (sSeq (sAsg (mOp gEq (mComp [9] (mSeq (mVar 6)) (gN 9) (mTest (mOp (gIn true) (mVar 9) (mVar 5))) (mVar 9)) (mLst mNil)) (gN 7))
 (sSeq (sAsg (mOp gEq (mComp [9] (mSeq (mVar 5)) (gN 9) (mTest (mOp (gIn true) (mVar 9) (mVar 6))) (mVar 9)) (mLst mNil)) (gN 8))
 (sSeq (sIf (mOrT (mTest (mOp gNe (mFn m_covers (mCons (mVar 3) (mCons (mVar 4) mNil))) (mVar 7))) (mOrT (mTest (mOp gNe (mFn m_beside (mCons (mVar 3) (mCons (mVar 4) mNil))) (mAnd (mNot (mVar 7)) (mNot (mVar 8))))) (mNotT (mTruth (mIsi ["bool"] (mFn m_covers (mCons (mVar 3) (mCons (mVar 4) mNil))))))))
 (sRet (mC (.bool false)))
 sNx)
 (sSeq (sAsg (mTup (mCons (mFnL m__law_take (mCons (mVar 1) (mCons (mC (.int 6)) mNil))) (mCons (mOp gAdd (mC (.int 1)) (mFnL m__law_take (mCons (mVar 1) (mCons (mC (.int 6)) mNil)))) mNil))) (gN 9))
 (sSeq (sIf (mOrT (mTest (mOp gNe (mFn m_has (mCons (mVar 3) (mCons (mVar 9) mNil))) (mOp (gIn false) (mVar 9) (mVar 5)))) (mOrT (mTest (mOp gNe (mFn m_with_dot (mCons (mVar 3) (mCons (mVar 9) mNil))) (mFn m__law_vector (mCons (mOp gAdd (mVar 5) (mLst (mCons (mVar 9) mNil))) mNil)))) (mTest (mOp gNe (mFn m_count_of (mCons (mVar 3) (mCons (mOp gIdx (mVar 9) (mC (.int 0))) mNil))) (mCall gLen (mCons (mComp [10] (mSeq (mVar 5)) (gN 10) (mTest (mOp gEq (mOp gIdx (mVar 10) (mC (.int 0))) (mOp gIdx (mVar 9) (mC (.int 0))))) (mVar 10)) mNil))))))
 (sRet (mC (.bool false)))
 sNx)
 (sIf (mOrT (mTest (mOp gNe (mFn m_size_of (mCons (mVar 3) mNil)) (mCall gLen (mCons (mVar 5) mNil)))) (mOrT (mTest (mOp gNe (mFn m_dots_between (mCons (mVar 3) (mCons (mVar 4) mNil))) (mCall gTuple (mCons (mComp [10] (mSeq (mVar 6)) (gN 10) (mTest (mOp (gIn true) (mVar 10) (mVar 5))) (mVar 10)) mNil)))) (mNotT (mTruth (mIsi ["int"] (mFn m_size_of (mCons (mVar 3) mNil)))))))
 (sRet (mC (.bool false)))
 sNx))))))))))
 (sRet (mAnd (mOp gEq (mFn m_joined (mCons (mTup mNil) (mCons (mTup mNil) mNil))) (mTup mNil)) (mAnd (mFn m_covers (mCons (mTup mNil) (mCons (mTup mNil) mNil))) (mNot (mFn m_beside (mCons (mTup mNil) (mCons (mTup mNil) mNil)))))))))
abbrev N_law : List Str := ["script", "draw", "turn", "one", "other", "first", "second", "covered", "covering", "dot", "pair"]
def m_law : FnM := runB 1 N_law.length mb_law
theorem sc_law : FnScope N_law ["script"] (defScope (topS 16)) := ⟨rfl, rfl, rfl, by decide +kernel, rfl, by decide +kernel, by decide +kernel⟩
structure Tp (K : PySem.W.Frag) (mg : Str → Option Value) where
  _law_draw : FnH K mg "_law_draw" (topS 11) ["script"]
  count_of : FnH K mg "count_of" (topS 1) ["vector", "copy"]
  covers : FnH K mg "covers" (topS 5) ["one", "other"]
  _law_take : FnH K mg "_law_take" (topS 12) ["draw", "many"]
  _law_drawn : FnH K mg "_law_drawn" (topS 13) ["draw"]
  _law_dots : FnH K mg "_law_dots" (topS 14) ["vector"]
  joined : FnH K mg "joined" (topS 3) ["one", "other"]
  beside : FnH K mg "beside" (topS 6) ["one", "other"]
  _law_vector : FnH K mg "_law_vector" (topS 15) ["dots"]
  met : FnH K mg "met" (topS 4) ["one", "other"]
  has : FnH K mg "has" (topS 2) ["vector", "dot"]
  with_dot : FnH K mg "with_dot" (topS 7) ["vector", "dot"]
  size_of : FnH K mg "size_of" (topS 8) ["vector"]
  dots_between : FnH K mg "dots_between" (topS 9) ["one", "other"]
  law : FnH K mg "law" (topS 16) ["script"]
  z_abs : mg "abs" = none
  z_all : mg "all" = none
  z_bool : mg "bool" = none
  z_dict : mg "dict" = none
  z_int : mg "int" = none
  z_isinstance : mg "isinstance" = none
  z_len : mg "len" = none
  z_max : mg "max" = none
  z_min : mg "min" = none
  z_range : mg "range" = none
  z_sorted : mg "sorted" = none
  z_sum : mg "sum" = none
  z_tuple : mg "tuple" = none
section
variable {P : Program} {w : World} {K : PySem.W.Frag} {mg : Str → Option Value} {base : Heap}
theorem ok__law_draw (T : Tp K mg) (k : Nat) : FnOk P w K mg base (L2.CX P w) (k + 1) T._law_draw.f T._law_draw.fd ["script"] (spM ⟨K, clOf mg⟩ 1 [] m__law_draw) := by
  have S := sc__law_draw
  refine fn_mir (n := 1) (N := N__law_draw) (lent := []) (mb := mb__law_draw) T._law_draw.F S rfl (by decide) (by decide) (by decide) ?_
  intro cdv A outer s H E W fx hr tk hp hfx
  exact ⟨_, (pss_cons (ps_set (i := 1) S.nd rfl (by first | exact Or.inl rfl | exact Or.inr rfl) pe_int)
 (pss_cons (ps_for hp rfl (pi_seq (pv 0)) (pg_name (i := 2) S.nd rfl (by first | exact Or.inl rfl | exact Or.inr rfl))
 (pss_one (ps_set (i := 1) S.nd rfl (by first | exact Or.inl rfl | exact Or.inr rfl) (pe_op op_mod (pe_callTy call_int1 (by rfl) T.z_int bt_int (pa_cons (pe_op op_addG (pe_op op_addG (pe_op op_mul (pv 1) pe_int) (pe_op op_mod (pe_callB call_abs (by rfl) T.z_abs bt_abs (pa_cons (pe_callTy call_int1 (by rfl) T.z_int bt_int (pa_cons (pv 2) pa_nil)) pa_nil)) pe_int)) pe_int) pa_nil)) pe_int))))
 (pss_one (ps_ret (pe_lst (pa_cons (by exact pe_lc rfl S.nd (pi_seq (pv 0)) (own := [("cell", 2)]) (blkOk_by (by rfl)) (fun _ _ _ _ _ => (pg_name (i := 2) S.nd rfl (by first | exact Or.inl rfl | exact Or.inr rfl))) (fun _ _ _ _ _ => pts_nil) (fun _ _ _ _ _ => (pe_callB call_abs (by rfl) T.z_abs bt_abs (pa_cons (pe_callTy call_int1 (by rfl) T.z_int bt_int (pa_cons (pv 2) pa_nil)) pa_nil)))) (pa_cons (pe_un un_neg pe_int) (pa_cons pe_int (pa_cons (pv 1) pa_nil))))))))),
    (rds_seq (rds_asg (rd_c fun F => .int _) rdg_name (fun p hp => absurd (hfx p hp) (by simp)))
 (rds_seq (rds_for (rdi_seq rd_var) rdg_name (fun p hp => absurd (hfx p hp) (by simp))
 (rds_asg (rd_op opg_mod (rd_call cg_int (rda_cons (rd_op opg_add (rd_op opg_add (rd_op opg_mul rd_var (rd_c fun F => .int _)) (rd_op opg_mod (rd_call cg_abs (rda_cons (rd_call cg_int (rda_cons rd_var rda_nil)) rda_nil)) (rd_c fun F => .int _))) (rd_c fun F => .int _)) rda_nil)) (rd_c fun F => .int _)) rdg_name (fun p hp => absurd (hfx p hp) (by simp))))
 (rds_ret (rd_lst (rda_cons (rd_comp (rdi_seq rd_var) rdg_name (by decide) rdt_yes (rd_call cg_abs (rda_cons (rd_call cg_int (rda_cons rd_var rda_nil)) rda_nil))) (rda_cons (rd_un ung_neg (rd_c fun F => .int _)) (rda_cons (rd_c fun F => .int _) (rda_cons rd_var rda_nil))))))))⟩
theorem ok_count_of (T : Tp K mg) (k : Nat) : FnOk P w K mg base (L2.CX P w) (k + 1) T.count_of.f T.count_of.fd ["vector", "copy"] (spM ⟨K, clOf mg⟩ 2 [] m_count_of) := by
  have S := sc_count_of
  refine fn_mir (n := 2) (N := N_count_of) (lent := []) (mb := mb_count_of) T.count_of.F S rfl (by decide) (by decide) (by decide) ?_
  intro cdv A outer s H E W fx hr tk hp hfx
  exact ⟨_, (pss_one (ps_ret (pe_callB (cr_sum rfl) (by rfl) T.z_sum bt_sum (pa_cons (by exact pe_lc rfl S.nd (pi_seq (pv 0)) (own := [("one", 2), ("n", 3)]) (blkOk_by (by rfl)) (fun _ _ _ _ _ => (pg_tup rfl (pgs_cons (pg_name (i := 2) S.nd rfl (by first | exact Or.inl rfl | exact Or.inr rfl)) (pgs_cons (pg_name (i := 3) S.nd rfl (by first | exact Or.inl rfl | exact Or.inr rfl)) pgs_nil)))) (fun _ _ _ _ _ => (pts_one (pt_cmpR (op_eqD hr.units) (pv 2) (pv 1) (nomark _)))) (fun _ _ _ _ _ => (pv 3))) pa_nil)))),
    (rds_ret (rd_call cg_sum (rda_cons (rd_comp (rdi_seq rd_var) (rdg_tup (rdgs_cons rdg_name (rdgs_cons rdg_name rdgs_nil))) (by decide) (rdt_test (rd_op opg_eq rd_var rd_var)) rd_var) rda_nil)))⟩
theorem ok_covers (T : Tp K mg) (k : Nat) : FnOk P w K mg base (L2.CX P w) (k + 2) T.covers.f T.covers.fd ["one", "other"] (spM ⟨K, clOf mg⟩ 2 [] m_covers) := by
  have S := sc_covers
  refine fn_mir (n := 2) (N := N_covers) (lent := []) (mb := mb_covers) T.covers.F S rfl (by decide) (by decide) (by decide) ?_
  intro cdv A outer s H E W fx hr tk hp hfx
  exact ⟨_, (pss_one (ps_ret (pe_callB (cr_all rfl) (by rfl) T.z_all bt_all (pa_cons (by exact pe_lc rfl S.nd (pi_seq (pv 1)) (own := [("copy", 2), ("n", 3)]) (blkOk_by (by rfl)) (fun _ _ _ _ _ => (pg_tup rfl (pgs_cons (pg_name (i := 2) S.nd rfl (by first | exact Or.inl rfl | exact Or.inr rfl)) (pgs_cons (pg_name (i := 3) S.nd rfl (by first | exact Or.inl rfl | exact Or.inr rfl)) pgs_nil)))) (fun _ _ _ _ _ => pts_nil) (fun _ _ _ _ _ => (pe_cmpR op_ge (pe_callS (ok_count_of T (k + 0)) hr (by rfl) T.count_of.g T.count_of.F.kp T.count_of.b (passAt takes0) (pa_cons (pv 0) (pa_cons (pv 2) pa_nil))) (pv 3) (nomark _)))) pa_nil)))),
    (rds_ret (rd_call cg_all (rda_cons (rd_comp (rdi_seq rd_var) (rdg_tup (rdgs_cons rdg_name (rdgs_cons rdg_name rdgs_nil))) (by decide) rdt_yes (rd_op opg_ge (rd_fn (fun _ _ _ h => runB_n h) (rda_cons rd_var (rda_cons rd_var rda_nil))) rd_var)) rda_nil)))⟩
theorem ok__law_take (T : Tp K mg) (k : Nat) : FnOk P w K mg base (L2.CX P w) (k + 1) T._law_take.f T._law_take.fd ["draw", "many"] (spM ⟨K, clOf mg⟩ 2 [0] m__law_take) := by
  have S := sc__law_take
  refine fn_mir (n := 2) (N := N__law_take) (lent := [0]) (mb := mb__law_take) T._law_take.F S rfl (by decide) (by decide) (by decide) ?_
  intro cdv A outer s H E W fx hr tk hp hfx
  exact ⟨_, (pss_cons (ps_if (pt_cmpR (op_eqD hr.units) (pe_ix ix_seq (pv 0) pe_int (fun _ _ => rfl)) pe_int (nomark _))
 (pss_cons (ps_asg (pe_op op_addG (pe_ix ix_seq (pv 0) pe_int (fun _ _ => rfl)) pe_int) (pg_sub (pv 0) pe_int set_list (fun _ => rfl)))
 (pss_cons (ps_if (pt_cmpR op_lt (pe_ix ix_seq (pv 0) pe_int (fun _ _ => rfl)) (pe_callB (call_len_seq.or call_len_str) (by rfl) T.z_len bt_len (pa_cons (pe_ix ix_seq (pv 0) pe_int (fun _ _ => rfl)) pa_nil)) (nomark _))
 (pss_one (ps_asg (pe_ix ix_seq (pe_ix ix_seq (pv 0) pe_int (fun _ _ => rfl)) (pe_ix ix_seq (pv 0) pe_int (fun _ _ => rfl)) (fun _ _ => rfl)) (pg_sub (pv 0) pe_int set_list (fun _ => rfl))))
 pss_nil)
 (pss_one (ps_if (pt_cmpR (op_eqD hr.units) (pe_ix ix_seq (pv 0) pe_int (fun _ _ => rfl)) pe_int (nomark _))
 (pss_cons (ps_asg (pe_op op_mod (pe_callTy call_int1 (by rfl) T.z_int bt_int (pa_cons (pe_op op_addG (pe_op op_mul (pe_ix ix_seq (pv 0) pe_int (fun _ _ => rfl)) pe_int) pe_int) pa_nil)) pe_int) (pg_sub (pv 0) pe_int set_list (fun _ => rfl)))
 (pss_one (ps_asg (pe_ix ix_seq (pv 0) pe_int (fun _ _ => rfl)) (pg_sub (pv 0) pe_int set_list (fun _ => rfl)))))
 pss_nil))))
 pss_nil)
 (pss_cons (ps_set (i := 2) S.nd rfl (by first | exact Or.inl rfl | exact Or.inr rfl) (pe_op op_mod (pe_callTy call_int1 (by rfl) T.z_int bt_int (pa_cons (pe_ix ix_seq (pv 0) pe_int (fun _ _ => rfl)) pa_nil)) (pv 1)))
 (pss_cons (ps_asg (pe_op op_fdiv (pe_ix ix_seq (pv 0) pe_int (fun _ _ => rfl)) (pv 1)) (pg_sub (pv 0) pe_int set_list (fun _ => rfl)))
 (pss_one (ps_ret (pv 2)))))),
    (rds_seq (rds_if (rdt_test (rd_op opg_eq (rd_op opg_idx rd_var (rd_c fun F => .int _)) (rd_c fun F => .int _)))
 (rds_seq (rds_setL (rd_op opg_add (rd_op opg_idx rd_var (rd_c fun F => .int _)) (rd_c fun F => .int _)) (rd_c fun F => .int _))
 (rds_seq (rds_if (rdt_test (rd_op opg_lt (rd_op opg_idx rd_var (rd_c fun F => .int _)) (rd_call cg_len (rda_cons (rd_op opg_idx rd_var (rd_c fun F => .int _)) rda_nil))))
 (rds_setL (rd_op opg_idx (rd_op opg_idx rd_var (rd_c fun F => .int _)) (rd_op opg_idx rd_var (rd_c fun F => .int _))) (rd_c fun F => .int _))
 rds_pass)
 (rds_if (rdt_test (rd_op opg_eq (rd_op opg_idx rd_var (rd_c fun F => .int _)) (rd_c fun F => .int _)))
 (rds_seq (rds_setL (rd_op opg_mod (rd_call cg_int (rda_cons (rd_op opg_add (rd_op opg_mul (rd_op opg_idx rd_var (rd_c fun F => .int _)) (rd_c fun F => .int _)) (rd_c fun F => .int _)) rda_nil)) (rd_c fun F => .int _)) (rd_c fun F => .int _))
 (rds_setL (rd_op opg_idx rd_var (rd_c fun F => .int _)) (rd_c fun F => .int _)))
 rds_pass)))
 rds_pass)
 (rds_seq (rds_asg (rd_op opg_mod (rd_call cg_int (rda_cons (rd_op opg_idx rd_var (rd_c fun F => .int _)) rda_nil)) rd_var) rdg_name (fxW hfx (by decide)))
 (rds_seq (rds_setL (rd_op opg_fdiv (rd_op opg_idx rd_var (rd_c fun F => .int _)) rd_var) (rd_c fun F => .int _))
 (rds_ret rd_var))))⟩
theorem ok__law_drawn (T : Tp K mg) (k : Nat) : FnOk P w K mg base (L2.CX P w) (k + 2) T._law_drawn.f T._law_drawn.fd ["draw"] (spM ⟨K, clOf mg⟩ 1 [0] m__law_drawn) := by
  have S := sc__law_drawn
  refine fn_mir (n := 1) (N := N__law_drawn) (lent := [0]) (mb := mb__law_drawn) T._law_drawn.F S rfl (by decide) (by decide) (by decide) ?_
  intro cdv A outer s H E W fx hr tk hp hfx
  exact ⟨_, (pss_one (ps_ret (pe_callTy call_tuple_ofC (by rfl) T.z_tuple bt_tuple (pa_cons (by exact pe_lc rfl S.nd (pi_range1 (by rfl) T.z_range (pa_cons pe_int pa_nil)) (own := [("copy", 1)]) (blkOk_by (by rfl)) (fun _ _ _ _ _ => (pg_name (i := 1) S.nd rfl (by first | exact Or.inl rfl | exact Or.inr rfl))) (fun _ _ _ _ _ => (pts_one (pt_cmpR (op_eqD hr.units) (pe_callS (ok__law_take T (k + 0)) hr (by rfl) T._law_take.g T._law_take.F.kp T._law_take.b (passAt takes0) (pa_cons (pv 0) (pa_cons pe_int pa_nil))) pe_int (nomark _)))) (fun _ _ _ _ _ => (pe_tupC (pa_cons (pv 1) (pa_cons (pe_op op_addG pe_int (pe_callS (ok__law_take T (k + 0)) hr (by rfl) T._law_take.g T._law_take.F.kp T._law_take.b (passAt takes0) (pa_cons (pv 0) (pa_cons pe_int pa_nil)))) pa_nil))))) pa_nil)))),
    (rds_ret (rd_call cg_tuple (rda_cons (rd_comp (rdi_rng1 (rda_cons (rd_c fun F => .int _) rda_nil)) rdg_name (by decide) (rdt_test (rd_op opg_eq (rd_fnL (fun _ _ h => runB_n h) (rda_cons rd_var (rda_cons (rd_c fun F => .int _) rda_nil))) (rd_c fun F => .int _))) (rd_tup (rda_cons rd_var (rda_cons (rd_op opg_add (rd_c fun F => .int _) (rd_fnL (fun _ _ h => runB_n h) (rda_cons rd_var (rda_cons (rd_c fun F => .int _) rda_nil)))) rda_nil)))) rda_nil)))⟩
theorem ok__law_dots (T : Tp K mg) (k : Nat) : FnOk P w K mg base (L2.CX P w) (k + 1) T._law_dots.f T._law_dots.fd ["vector"] (spM ⟨K, clOf mg⟩ 1 [] m__law_dots) := by
  have S := sc__law_dots
  refine fn_mir (n := 1) (N := N__law_dots) (lent := []) (mb := mb__law_dots) T._law_dots.F S rfl (by decide) (by decide) (by decide) ?_
  intro cdv A outer s H E W fx hr tk hp hfx
  exact ⟨_, (pss_cons (ps_set (i := 1) S.nd rfl (by first | exact Or.inl rfl | exact Or.inr rfl) (pe_lst pa_nil))
 (pss_cons (ps_for hp rfl (pi_seq (pv 0)) (pg_tup rfl (pgs_cons (pg_name (i := 2) S.nd rfl (by first | exact Or.inl rfl | exact Or.inr rfl)) (pgs_cons (pg_name (i := 3) S.nd rfl (by first | exact Or.inl rfl | exact Or.inr rfl)) pgs_nil)))
 (pss_one (ps_set (i := 1) S.nd rfl (by first | exact Or.inl rfl | exact Or.inr rfl) (pe_op op_addG (pv 1) (by exact pe_lc rfl S.nd (pi_range2 (by rfl) T.z_range (pa_cons pe_int (pa_cons (pe_op op_addG (pv 3) pe_int) pa_nil))) (own := [("k", 4)]) (blkOk_by (by rfl)) (fun _ _ _ _ _ => (pg_name (i := 4) S.nd rfl (by first | exact Or.inl rfl | exact Or.inr rfl))) (fun _ _ _ _ _ => pts_nil) (fun _ _ _ _ _ => (pe_tupC (pa_cons (pv 2) (pa_cons (pv 4) pa_nil)))))))))
 (pss_one (ps_ret (pv 1))))),
    (rds_seq (rds_asg (rd_lst rda_nil) rdg_name (fun p hp => absurd (hfx p hp) (by simp)))
 (rds_seq (rds_for (rdi_seq rd_var) (rdg_tup (rdgs_cons rdg_name (rdgs_cons rdg_name rdgs_nil))) (fun p hp => absurd (hfx p hp) (by simp))
 (rds_asg (rd_op opg_add rd_var (rd_comp (rdi_rng2 (rda_cons (rd_c fun F => .int _) (rda_cons (rd_op opg_add rd_var (rd_c fun F => .int _)) rda_nil))) rdg_name (by decide) rdt_yes (rd_tup (rda_cons rd_var (rda_cons rd_var rda_nil))))) rdg_name (fun p hp => absurd (hfx p hp) (by simp))))
 (rds_ret rd_var)))⟩
theorem ok_joined (T : Tp K mg) (k : Nat) : FnOk P w K mg base (L2.CX P w) (k + 1) T.joined.f T.joined.fd ["one", "other"] (spM ⟨K, clOf mg⟩ 2 [] m_joined) := by
  have S := sc_joined
  refine fn_mir (n := 2) (N := N_joined) (lent := []) (mb := mb_joined) T.joined.F S rfl (by decide) (by decide) (by decide) ?_
  intro cdv A outer s H E W fx hr tk hp hfx
  exact ⟨_, (pss_cons (ps_set (i := 2) S.nd rfl (by first | exact Or.inl rfl | exact Or.inr rfl) (pe_callTy (call_dictG rfl) (by rfl) T.z_dict bt_dict (pa_cons (pv 0) pa_nil)))
 (pss_cons (ps_for hp rfl (pi_seq (pv 1)) (pg_tup rfl (pgs_cons (pg_name (i := 3) S.nd rfl (by first | exact Or.inl rfl | exact Or.inr rfl)) (pgs_cons (pg_name (i := 4) S.nd rfl (by first | exact Or.inl rfl | exact Or.inr rfl)) pgs_nil)))
 (pss_one (ps_dput (un1 hr) (pv 2) (pv 3) (pe_callB (call_max2 rfl) (by rfl) T.z_max bt_max (pa_cons (pv 4) (pa_cons (pe_dget2 (un1 hr) (pv 2) (pv 3) pe_int ⟨rfl, rfl, rfl, rfl⟩) pa_nil))) (by rfl))))
 (pss_one (ps_ret (pe_callTy call_tuple_ofC (by rfl) T.z_tuple bt_tuple (pa_cons (pe_callB (cr_sortIt rfl hr.units) (by rfl) T.z_sorted bt_sorted (pa_cons (pe_bm0 PySem.F.plainAttrs_dict PySem.F.slot_dict_items PySem.F.type_dict_items mt_itemsV (pv 2)) pa_nil)) pa_nil)))))),
    (rds_seq (rds_asg (rd_call cg_dict (rda_cons rd_var rda_nil)) rdg_name (fun p hp => absurd (hfx p hp) (by simp)))
 (rds_seq (rds_for (rdi_seq rd_var) (rdg_tup (rdgs_cons rdg_name (rdgs_cons rdg_name rdgs_nil))) (fun p hp => absurd (hfx p hp) (by simp))
 (rds_dput (rd_call cg_max2 (rda_cons rd_var (rda_cons (rd_dget2 rd_var (rd_c fun F => .int _)) rda_nil))) rd_var))
 (rds_ret (rd_call cg_tuple (rda_cons rd_sortIt rda_nil)))))⟩
theorem ok_beside (T : Tp K mg) (k : Nat) : FnOk P w K mg base (L2.CX P w) (k + 3) T.beside.f T.beside.fd ["one", "other"] (spM ⟨K, clOf mg⟩ 2 [] m_beside) := by
  have S := sc_beside
  refine fn_mir (n := 2) (N := N_beside) (lent := []) (mb := mb_beside) T.beside.F S rfl (by decide) (by decide) (by decide) ?_
  intro cdv A outer s H E W fx hr tk hp hfx
  exact ⟨_, (pss_one (ps_ret (pe_andT (pe_notT (pe_callS (ok_covers T (k + 0)) hr (by rfl) T.covers.g T.covers.F.kp T.covers.b (passAt tk) (pa_cons (pv 0) (pa_cons (pv 1) pa_nil)))) (pe_one (pe_notT (pe_callS (ok_covers T (k + 0)) hr (by rfl) T.covers.g T.covers.F.kp T.covers.b (passAt tk) (pa_cons (pv 1) (pa_cons (pv 0) pa_nil)))))))),
    (rds_ret (rd_and (rd_not (rd_fn (fun _ _ _ h => runB_n h) (rda_cons rd_var (rda_cons rd_var rda_nil)))) (rd_not (rd_fn (fun _ _ _ h => runB_n h) (rda_cons rd_var (rda_cons rd_var rda_nil))))))⟩
theorem ok__law_vector (T : Tp K mg) (k : Nat) : FnOk P w K mg base (L2.CX P w) (k + 1) T._law_vector.f T._law_vector.fd ["dots"] (spM ⟨K, clOf mg⟩ 1 [] m__law_vector) := by
  have S := sc__law_vector
  refine fn_mir (n := 1) (N := N__law_vector) (lent := []) (mb := mb__law_vector) T._law_vector.F S rfl (by decide) (by decide) (by decide) ?_
  intro cdv A outer s H E W fx hr tk hp hfx
  exact ⟨_, (pss_cons (ps_set (i := 1) S.nd rfl (by first | exact Or.inl rfl | exact Or.inr rfl) pe_dnewK)
 (pss_cons (ps_for hp rfl (pi_seq (pv 0)) (pg_tup rfl (pgs_cons (pg_name (i := 2) S.nd rfl (by first | exact Or.inl rfl | exact Or.inr rfl)) (pgs_cons (pg_name (i := 3) S.nd rfl (by first | exact Or.inl rfl | exact Or.inr rfl)) pgs_nil)))
 (pss_one (ps_dput (un1 hr) (pv 1) (pv 2) (pe_callB (call_max2 rfl) (by rfl) T.z_max bt_max (pa_cons (pv 3) (pa_cons (pe_dget2 (un1 hr) (pv 1) (pv 2) pe_int ⟨rfl, rfl, rfl, rfl⟩) pa_nil))) (by rfl))))
 (pss_one (ps_ret (pe_callTy call_tuple_ofC (by rfl) T.z_tuple bt_tuple (pa_cons (pe_callB (cr_sortIt rfl hr.units) (by rfl) T.z_sorted bt_sorted (pa_cons (pe_bm0 PySem.F.plainAttrs_dict PySem.F.slot_dict_items PySem.F.type_dict_items mt_itemsV (pv 1)) pa_nil)) pa_nil)))))),
    (rds_seq (rds_asg rd_dnew rdg_name (fun p hp => absurd (hfx p hp) (by simp)))
 (rds_seq (rds_for (rdi_seq rd_var) (rdg_tup (rdgs_cons rdg_name (rdgs_cons rdg_name rdgs_nil))) (fun p hp => absurd (hfx p hp) (by simp))
 (rds_dput (rd_call cg_max2 (rda_cons rd_var (rda_cons (rd_dget2 rd_var (rd_c fun F => .int _)) rda_nil))) rd_var))
 (rds_ret (rd_call cg_tuple (rda_cons rd_sortIt rda_nil)))))⟩
theorem ok_met (T : Tp K mg) (k : Nat) : FnOk P w K mg base (L2.CX P w) (k + 2) T.met.f T.met.fd ["one", "other"] (spM ⟨K, clOf mg⟩ 2 [] m_met) := by
  have S := sc_met
  refine fn_mir (n := 2) (N := N_met) (lent := []) (mb := mb_met) T.met.F S rfl (by decide) (by decide) (by decide) ?_
  intro cdv A outer s H E W fx hr tk hp hfx
  exact ⟨_, (pss_cons (by exact ps_setLc rfl S.nd (i := 2) rfl rfl (sw_true rfl rfl rfl rfl) (pi_seq (pv 0)) (own := [("copy", 3), ("n", 4)]) (blkOk_by (by rfl)) (fun _ _ _ _ _ => (pg_tup rfl (pgs_cons (pg_name (i := 3) S.nd rfl (by first | exact Or.inl rfl | exact Or.inr rfl)) (pgs_cons (pg_name (i := 4) S.nd rfl (by first | exact Or.inl rfl | exact Or.inr rfl)) pgs_nil)))) (fun _ _ _ _ _ => pts_nil) (fun _ _ _ _ _ => (pe_tupC (pa_cons (pv 3) (pa_cons (pe_callB (call_min2 rfl) (by rfl) T.z_min bt_min (pa_cons (pv 4) (pa_cons (pe_callS (ok_count_of T (k + 0)) hr (by rfl) T.count_of.g T.count_of.F.kp T.count_of.b (passAt takes0) (pa_cons (pv 1) (pa_cons (pv 3) pa_nil))) pa_nil))) pa_nil)))))
 (pss_one (ps_ret (pe_callTy call_tuple_ofC (by rfl) T.z_tuple bt_tuple (pa_cons (by exact pe_lc rfl S.nd (pi_seq (pv 2)) (own := [("copy", 3), ("n", 4)]) (blkOk_by (by rfl)) (fun _ _ _ _ _ => (pg_tup rfl (pgs_cons (pg_name (i := 3) S.nd rfl (by first | exact Or.inl rfl | exact Or.inr rfl)) (pgs_cons (pg_name (i := 4) S.nd rfl (by first | exact Or.inl rfl | exact Or.inr rfl)) pgs_nil)))) (fun _ _ _ _ _ => (pts_one (pt_cmpR op_gt (pv 4) pe_int (nomark _)))) (fun _ _ _ _ _ => (pe_tupC (pa_cons (pv 3) (pa_cons (pv 4) pa_nil))))) pa_nil))))),
    (rds_seq (rds_asg (rd_comp (rdi_seq rd_var) (rdg_tup (rdgs_cons rdg_name (rdgs_cons rdg_name rdgs_nil))) (by decide) rdt_yes (rd_tup (rda_cons rd_var (rda_cons (rd_call cg_min2 (rda_cons rd_var (rda_cons (rd_fn (fun _ _ _ h => runB_n h) (rda_cons rd_var (rda_cons rd_var rda_nil))) rda_nil))) rda_nil)))) rdg_name (fun p hp => absurd (hfx p hp) (by simp)))
 (rds_ret (rd_call cg_tuple (rda_cons (rd_comp (rdi_seq rd_var) (rdg_tup (rdgs_cons rdg_name (rdgs_cons rdg_name rdgs_nil))) (by decide) (rdt_test (rd_op opg_gt rd_var (rd_c fun F => .int _))) (rd_tup (rda_cons rd_var (rda_cons rd_var rda_nil)))) rda_nil))))⟩
theorem ok_has (T : Tp K mg) (k : Nat) : FnOk P w K mg base (L2.CX P w) (k + 2) T.has.f T.has.fd ["vector", "dot"] (spM ⟨K, clOf mg⟩ 2 [] m_has) := by
  have S := sc_has
  refine fn_mir (n := 2) (N := N_has) (lent := []) (mb := mb_has) T.has.F S rfl (by decide) (by decide) (by decide) ?_
  intro cdv A outer s H E W fx hr tk hp hfx
  exact ⟨_, (pss_one (ps_ret (pe_cmpR op_ge (pe_callS (ok_count_of T (k + 0)) hr (by rfl) T.count_of.g T.count_of.F.kp T.count_of.b (passAt tk) (pa_cons (pv 0) (pa_cons (pe_ix ix_seq (pv 1) pe_int (fun _ _ => rfl)) pa_nil))) (pe_ix ix_seq (pv 1) pe_int (fun _ _ => rfl)) (nomark _)))),
    (rds_ret (rd_op opg_ge (rd_fn (fun _ _ _ h => runB_n h) (rda_cons rd_var (rda_cons (rd_op opg_idx rd_var (rd_c fun F => .int _)) rda_nil))) (rd_op opg_idx rd_var (rd_c fun F => .int _))))⟩
theorem ok_with_dot (T : Tp K mg) (k : Nat) : FnOk P w K mg base (L2.CX P w) (k + 2) T.with_dot.f T.with_dot.fd ["vector", "dot"] (spM ⟨K, clOf mg⟩ 2 [] m_with_dot) := by
  have S := sc_with_dot
  refine fn_mir (n := 2) (N := N_with_dot) (lent := []) (mb := mb_with_dot) T.with_dot.F S rfl (by decide) (by decide) (by decide) ?_
  intro cdv A outer s H E W fx hr tk hp hfx
  exact ⟨_, (pss_one (ps_ret (pe_callS (ok_joined T (k + 0)) hr (by rfl) T.joined.g T.joined.F.kp T.joined.b (passAt tk) (pa_cons (pv 0) (pa_cons (pe_tupC (pa_cons (pv 1) pa_nil)) pa_nil))))),
    (rds_ret (rd_fn (fun _ _ _ h => runB_n h) (rda_cons rd_var (rda_cons (rd_tup (rda_cons rd_var rda_nil)) rda_nil))))⟩
theorem ok_size_of (T : Tp K mg) (k : Nat) : FnOk P w K mg base (L2.CX P w) (k + 1) T.size_of.f T.size_of.fd ["vector"] (spM ⟨K, clOf mg⟩ 1 [] m_size_of) := by
  have S := sc_size_of
  refine fn_mir (n := 1) (N := N_size_of) (lent := []) (mb := mb_size_of) T.size_of.F S rfl (by decide) (by decide) (by decide) ?_
  intro cdv A outer s H E W fx hr tk hp hfx
  exact ⟨_, (pss_one (ps_ret (pe_callB (cr_sum rfl) (by rfl) T.z_sum bt_sum (pa_cons (by exact pe_lc rfl S.nd (pi_seq (pv 0)) (own := [("_", 1), ("n", 2)]) (blkOk_by (by rfl)) (fun _ _ _ _ _ => (pg_tup rfl (pgs_cons (pg_name (i := 1) S.nd rfl (by first | exact Or.inl rfl | exact Or.inr rfl)) (pgs_cons (pg_name (i := 2) S.nd rfl (by first | exact Or.inl rfl | exact Or.inr rfl)) pgs_nil)))) (fun _ _ _ _ _ => pts_nil) (fun _ _ _ _ _ => (pv 2))) pa_nil)))),
    (rds_ret (rd_call cg_sum (rda_cons (rd_comp (rdi_seq rd_var) (rdg_tup (rdgs_cons rdg_name (rdgs_cons rdg_name rdgs_nil))) (by decide) rdt_yes rd_var) rda_nil)))⟩
theorem ok_dots_between (T : Tp K mg) (k : Nat) : FnOk P w K mg base (L2.CX P w) (k + 2) T.dots_between.f T.dots_between.fd ["one", "other"] (spM ⟨K, clOf mg⟩ 2 [] m_dots_between) := by
  have S := sc_dots_between
  refine fn_mir (n := 2) (N := N_dots_between) (lent := []) (mb := mb_dots_between) T.dots_between.F S rfl (by decide) (by decide) (by decide) ?_
  intro cdv A outer s H E W fx hr tk hp hfx
  exact ⟨_, (pss_cons (ps_set (i := 2) S.nd rfl (by first | exact Or.inl rfl | exact Or.inr rfl) (pe_lst pa_nil))
 (pss_cons (ps_for hp rfl (pi_seq (pv 1)) (pg_tup rfl (pgs_cons (pg_name (i := 3) S.nd rfl (by first | exact Or.inl rfl | exact Or.inr rfl)) (pgs_cons (pg_name (i := 4) S.nd rfl (by first | exact Or.inl rfl | exact Or.inr rfl)) pgs_nil)))
 (pss_one (ps_expr (pe_bm PySem.F.plainAttrs_list PySem.F.slot_list_extend PySem.F.type_list_extend mt_extend (pv 2) (pa_cons (by exact pe_lc rfl S.nd (pi_range2 (by rfl) T.z_range (pa_cons (pe_op op_addG (pe_callS (ok_count_of T (k + 0)) hr (by rfl) T.count_of.g T.count_of.F.kp T.count_of.b (passAt tk) (pa_cons (pv 0) (pa_cons (pv 3) pa_nil))) pe_int) (pa_cons (pe_op op_addG (pv 4) pe_int) pa_nil))) (own := [("k", 5)]) (blkOk_by (by rfl)) (fun _ _ _ _ _ => (pg_name (i := 5) S.nd rfl (by first | exact Or.inl rfl | exact Or.inr rfl))) (fun _ _ _ _ _ => pts_nil) (fun _ _ _ _ _ => (pe_tupC (pa_cons (pv 3) (pa_cons (pv 5) pa_nil))))) pa_nil)))))
 (pss_one (ps_ret (pe_callTy call_tuple_ofC (by rfl) T.z_tuple bt_tuple (pa_cons (pv 2) pa_nil)))))),
    (rds_seq (rds_asg (rd_lst rda_nil) rdg_name (fun p hp => absurd (hfx p hp) (by simp)))
 (rds_seq (rds_for (rdi_seq rd_var) (rdg_tup (rdgs_cons rdg_name (rdgs_cons rdg_name rdgs_nil))) (fun p hp => absurd (hfx p hp) (by simp))
 (rds_ext (rd_comp (rdi_rng2 (rda_cons (rd_op opg_add (rd_fn (fun _ _ _ h => runB_n h) (rda_cons rd_var (rda_cons rd_var rda_nil))) (rd_c fun F => .int _)) (rda_cons (rd_op opg_add rd_var (rd_c fun F => .int _)) rda_nil))) rdg_name (by decide) rdt_yes (rd_tup (rda_cons rd_var (rda_cons rd_var rda_nil))))))
 (rds_ret (rd_call cg_tuple (rda_cons rd_var rda_nil)))))⟩
theorem ok_law (T : Tp K mg) (k : Nat) : FnOk P w K mg base (L2.CX P w) (k + 4) T.law.f T.law.fd ["script"] (spM ⟨K, clOf mg⟩ 1 [] m_law) := by
  have S := sc_law
  refine fn_mir (n := 1) (N := N_law) (lent := []) (mb := mb_law) T.law.F S rfl (by decide) (by decide) (by decide) ?_
  intro cdv A outer s H E W fx hr tk hp hfx
  exact ⟨_, (pss_cons (ps_set (i := 1) S.nd rfl (by first | exact Or.inl rfl | exact Or.inr rfl) (pe_callS (ok__law_draw T (k + 2)) hr (by rfl) T._law_draw.g T._law_draw.F.kp T._law_draw.b (passAt tk) (pa_cons (pv 0) pa_nil)))
 (pss_cons (ps_for hp rfl (pi_range1 (by rfl) T.z_range (pa_cons pe_int pa_nil)) (pg_name (i := 2) S.nd rfl (by first | exact Or.inl rfl | exact Or.inr rfl))
 (pss_cons (ps_par (i := 3) (j := 4) rfl S.nd rfl rfl (by decide) rfl rfl (pa_cons (pe_callS (ok__law_drawn T (k + 1)) hr (by rfl) T._law_drawn.g T._law_drawn.F.kp T._law_drawn.b (passAt tk) (pa_cons (pv 1) pa_nil)) (pa_cons (pe_callS (ok__law_drawn T (k + 1)) hr (by rfl) T._law_drawn.g T._law_drawn.F.kp T._law_drawn.b (passAt tk) (pa_cons (pv 1) pa_nil)) pa_nil)) (by rfl))
 (pss_cons (ps_asg (pe_tupC (pa_cons (pe_callS (ok__law_dots T (k + 2)) hr (by rfl) T._law_dots.g T._law_dots.F.kp T._law_dots.b (passAt tk) (pa_cons (pv 3) pa_nil)) (pa_cons (pe_callS (ok__law_dots T (k + 2)) hr (by rfl) T._law_dots.g T._law_dots.F.kp T._law_dots.b (passAt tk) (pa_cons (pv 4) pa_nil)) pa_nil))) (pg_tup rfl (pgs_cons (pg_name (i := 5) S.nd rfl (by first | exact Or.inl rfl | exact Or.inr rfl)) (pgs_cons (pg_name (i := 6) S.nd rfl (by first | exact Or.inl rfl | exact Or.inr rfl)) pgs_nil))))
 (pss_cons (ps_if (pw_or (pt_cmpR (op_neD hr.units) (pe_callS (ok_joined T (k + 2)) hr (by rfl) T.joined.g T.joined.F.kp T.joined.b (passAt tk) (pa_cons (pv 3) (pa_cons (pv 4) pa_nil))) (pe_callS (ok__law_vector T (k + 2)) hr (by rfl) T._law_vector.g T._law_vector.F.kp T._law_vector.b (passAt tk) (pa_cons (pe_op op_addG (pv 5) (pv 6)) pa_nil)) (nomark _)) (pw_or (pt_cmpR (op_neD hr.units) (pe_callS (ok_met T (k + 1)) hr (by rfl) T.met.g T.met.F.kp T.met.b (passAt tk) (pa_cons (pv 3) (pa_cons (pv 4) pa_nil))) (pe_callS (ok__law_vector T (k + 2)) hr (by rfl) T._law_vector.g T._law_vector.F.kp T._law_vector.b (passAt tk) (pa_cons (by exact pe_lc rfl S.nd (pi_seq (pv 5)) (own := [("dot", 9)]) (blkOk_by (by rfl)) (fun _ _ _ _ _ => (pg_name (i := 9) S.nd rfl (by first | exact Or.inl rfl | exact Or.inr rfl))) (fun _ _ _ _ _ => (pts_one (pt_cmpR (op_inG (un65 hr)) (pv 9) (pv 6) (by with_unfolding_all rfl)))) (fun _ _ _ _ _ => (pv 9))) pa_nil)) (nomark _)) (pw_or1 (pt_not (pt_truth (pe_callB call_isi (by rfl) T.z_isinstance bt_isinstance (pa_cons (pe_callS (ok_met T (k + 1)) hr (by rfl) T.met.g T.met.F.kp T.met.b (passAt tk) (pa_cons (pv 3) (pa_cons (pv 4) pa_nil))) (pa_cons (pe_bltn (v := .ty "tuple") (by rfl) T.z_tuple bt_tuple rfl) pa_nil))) (fun _ => rfl)))))).pt
 (pss_one (ps_ret pe_bl))
 pss_nil)
 (pss_cons (ps_set (i := 7) S.nd rfl (by first | exact Or.inl rfl | exact Or.inr rfl) (pe_cmpR (op_eqD hr.units) (by exact pe_lc rfl S.nd (pi_seq (pv 6)) (own := [("dot", 9)]) (blkOk_by (by rfl)) (fun _ _ _ _ _ => (pg_name (i := 9) S.nd rfl (by first | exact Or.inl rfl | exact Or.inr rfl))) (fun _ _ _ _ _ => (pts_one (pt_cmpR (op_notInG (un65 hr)) (pv 9) (pv 5) (by with_unfolding_all rfl)))) (fun _ _ _ _ _ => (pv 9))) (pe_lst pa_nil) (nomark _)))
 (pss_cons (ps_set (i := 8) S.nd rfl (by first | exact Or.inl rfl | exact Or.inr rfl) (pe_cmpR (op_eqD hr.units) (by exact pe_lc rfl S.nd (pi_seq (pv 5)) (own := [("dot", 9)]) (blkOk_by (by rfl)) (fun _ _ _ _ _ => (pg_name (i := 9) S.nd rfl (by first | exact Or.inl rfl | exact Or.inr rfl))) (fun _ _ _ _ _ => (pts_one (pt_cmpR (op_notInG (un65 hr)) (pv 9) (pv 6) (by with_unfolding_all rfl)))) (fun _ _ _ _ _ => (pv 9))) (pe_lst pa_nil) (nomark _)))
 (pss_cons (ps_if (pw_or (pt_cmpR (op_neD hr.units) (pe_callS (ok_covers T (k + 1)) hr (by rfl) T.covers.g T.covers.F.kp T.covers.b (passAt tk) (pa_cons (pv 3) (pa_cons (pv 4) pa_nil))) (pv 7) (nomark _)) (pw_or (pt_cmpR (op_neD hr.units) (pe_callS (ok_beside T (k + 0)) hr (by rfl) T.beside.g T.beside.F.kp T.beside.b (passAt tk) (pa_cons (pv 3) (pa_cons (pv 4) pa_nil))) (pe_andT (pe_notT (pv 7)) (pe_one (pe_notT (pv 8)))) (nomark _)) (pw_or1 (pt_not (pt_truth (pe_callB call_isi (by rfl) T.z_isinstance bt_isinstance (pa_cons (pe_callS (ok_covers T (k + 1)) hr (by rfl) T.covers.g T.covers.F.kp T.covers.b (passAt tk) (pa_cons (pv 3) (pa_cons (pv 4) pa_nil))) (pa_cons (pe_bltn (v := .ty "bool") (by rfl) T.z_bool bt_bool rfl) pa_nil))) (fun _ => rfl)))))).pt
 (pss_one (ps_ret pe_bl))
 pss_nil)
 (pss_cons (ps_set (i := 9) S.nd rfl (by first | exact Or.inl rfl | exact Or.inr rfl) (pe_tupC (pa_cons (pe_callS (ok__law_take T (k + 2)) hr (by rfl) T._law_take.g T._law_take.F.kp T._law_take.b (passAt tk) (pa_cons (pv 1) (pa_cons pe_int pa_nil))) (pa_cons (pe_op op_addG pe_int (pe_callS (ok__law_take T (k + 2)) hr (by rfl) T._law_take.g T._law_take.F.kp T._law_take.b (passAt tk) (pa_cons (pv 1) (pa_cons pe_int pa_nil)))) pa_nil))))
 (pss_cons (ps_if (pw_or (pt_cmpR (op_neD hr.units) (pe_callS (ok_has T (k + 1)) hr (by rfl) T.has.g T.has.F.kp T.has.b (passAt tk) (pa_cons (pv 3) (pa_cons (pv 9) pa_nil))) (pe_cmpR (op_inG (un65 hr)) (pv 9) (pv 5) (by with_unfolding_all rfl)) (nomark _)) (pw_or (pt_cmpR (op_neD hr.units) (pe_callS (ok_with_dot T (k + 1)) hr (by rfl) T.with_dot.g T.with_dot.F.kp T.with_dot.b (passAt tk) (pa_cons (pv 3) (pa_cons (pv 9) pa_nil))) (pe_callS (ok__law_vector T (k + 2)) hr (by rfl) T._law_vector.g T._law_vector.F.kp T._law_vector.b (passAt tk) (pa_cons (pe_op op_addG (pv 5) (pe_lst (pa_cons (pv 9) pa_nil))) pa_nil)) (nomark _)) (pw_or1 (pt_cmpR (op_neD hr.units) (pe_callS (ok_count_of T (k + 2)) hr (by rfl) T.count_of.g T.count_of.F.kp T.count_of.b (passAt tk) (pa_cons (pv 3) (pa_cons (pe_ix ix_seq (pv 9) pe_int (fun _ _ => rfl)) pa_nil))) (pe_callB (call_len_seq.or call_len_str) (by rfl) T.z_len bt_len (pa_cons (by exact pe_lc rfl S.nd (pi_seq (pv 5)) (own := [("pair", 10)]) (blkOk_by (by rfl)) (fun _ _ _ _ _ => (pg_name (i := 10) S.nd rfl (by first | exact Or.inl rfl | exact Or.inr rfl))) (fun _ _ _ _ _ => (pts_one (pt_cmpR (op_eqD hr.units) (pe_ix ix_seq (pv 10) pe_int (fun _ _ => rfl)) (pe_ix ix_seq (pv 9) pe_int (fun _ _ => rfl)) (nomark _)))) (fun _ _ _ _ _ => (pv 10))) pa_nil)) (nomark _))))).pt
 (pss_one (ps_ret pe_bl))
 pss_nil)
 (pss_one (ps_if (pw_or (pt_cmpR (op_neD hr.units) (pe_callS (ok_size_of T (k + 2)) hr (by rfl) T.size_of.g T.size_of.F.kp T.size_of.b (passAt tk) (pa_cons (pv 3) pa_nil)) (pe_callB (call_len_seq.or call_len_str) (by rfl) T.z_len bt_len (pa_cons (pv 5) pa_nil)) (nomark _)) (pw_or (pt_cmpR (op_neD hr.units) (pe_callS (ok_dots_between T (k + 1)) hr (by rfl) T.dots_between.g T.dots_between.F.kp T.dots_between.b (passAt tk) (pa_cons (pv 3) (pa_cons (pv 4) pa_nil))) (pe_callTy call_tuple_ofC (by rfl) T.z_tuple bt_tuple (pa_cons (by exact pe_lc rfl S.nd (pi_seq (pv 6)) (own := [("pair", 10)]) (blkOk_by (by rfl)) (fun _ _ _ _ _ => (pg_name (i := 10) S.nd rfl (by first | exact Or.inl rfl | exact Or.inr rfl))) (fun _ _ _ _ _ => (pts_one (pt_cmpR (op_notInG (un65 hr)) (pv 10) (pv 5) (by with_unfolding_all rfl)))) (fun _ _ _ _ _ => (pv 10))) pa_nil)) (nomark _)) (pw_or1 (pt_not (pt_truth (pe_callB call_isi (by rfl) T.z_isinstance bt_isinstance (pa_cons (pe_callS (ok_size_of T (k + 2)) hr (by rfl) T.size_of.g T.size_of.F.kp T.size_of.b (passAt tk) (pa_cons (pv 3) pa_nil)) (pa_cons (pe_bltn (v := .ty "int") (by rfl) T.z_int bt_int rfl) pa_nil))) (fun _ => rfl)))))).pt
 (pss_one (ps_ret pe_bl))
 pss_nil)))))))))))
 (pss_one (ps_ret (pe_andT (pe_cmpR (op_eqD hr.units) (pe_callS (ok_joined T (k + 2)) hr (by rfl) T.joined.g T.joined.F.kp T.joined.b (passAt tk) (pa_cons (pe_tupC pa_nil) (pa_cons (pe_tupC pa_nil) pa_nil))) (pe_tupC pa_nil) (nomark _)) (pe_andT (pe_callS (ok_covers T (k + 1)) hr (by rfl) T.covers.g T.covers.F.kp T.covers.b (passAt tk) (pa_cons (pe_tupC pa_nil) (pa_cons (pe_tupC pa_nil) pa_nil))) (pe_one (pe_notT (pe_callS (ok_beside T (k + 0)) hr (by rfl) T.beside.g T.beside.F.kp T.beside.b (passAt tk) (pa_cons (pe_tupC pa_nil) (pa_cons (pe_tupC pa_nil) pa_nil))))))))))),
    (rds_seq (rds_asg (rd_fn (fun _ _ _ h => runB_n h) (rda_cons rd_var rda_nil)) rdg_name (fun p hp => absurd (hfx p hp) (by simp)))
 (rds_seq (rds_for (rdi_rng1 (rda_cons (rd_c fun F => .int _) rda_nil)) rdg_name (fun p hp => absurd (hfx p hp) (by simp))
 (rds_seq (rds_par (rda_cons (rd_fnL (fun _ _ h => runB_n h) (rda_cons rd_var rda_nil)) (rda_cons (rd_fnL (fun _ _ h => runB_n h) (rda_cons rd_var rda_nil)) rda_nil)) (fun p hp => absurd (hfx p hp) (by simp)))
 (rds_seq (rds_asg (rd_tup (rda_cons (rd_fn (fun _ _ _ h => runB_n h) (rda_cons rd_var rda_nil)) (rda_cons (rd_fn (fun _ _ _ h => runB_n h) (rda_cons rd_var rda_nil)) rda_nil))) (rdg_tup (rdgs_cons rdg_name (rdgs_cons rdg_name rdgs_nil))) (fun p hp => absurd (hfx p hp) (by simp)))
 (rds_seq (rds_if (rdt_or (rdt_test (rd_op opg_ne (rd_fn (fun _ _ _ h => runB_n h) (rda_cons rd_var (rda_cons rd_var rda_nil))) (rd_fn (fun _ _ _ h => runB_n h) (rda_cons (rd_op opg_add rd_var rd_var) rda_nil)))) (rdt_or (rdt_test (rd_op opg_ne (rd_fn (fun _ _ _ h => runB_n h) (rda_cons rd_var (rda_cons rd_var rda_nil))) (rd_fn (fun _ _ _ h => runB_n h) (rda_cons (rd_comp (rdi_seq rd_var) rdg_name (by decide) (rdt_test (rd_op opg_in rd_var rd_var)) rd_var) rda_nil)))) (rdt_not (rdt_truth (rd_isi (by decide +kernel) (rd_fn (fun _ _ _ h => runB_n h) (rda_cons rd_var (rda_cons rd_var rda_nil))))))))
 (rds_ret (rd_c fun F => .bl _))
 rds_pass)
 (rds_seq (rds_asg (rd_op opg_eq (rd_comp (rdi_seq rd_var) rdg_name (by decide) (rdt_test (rd_op opg_notIn rd_var rd_var)) rd_var) (rd_lst rda_nil)) rdg_name (fun p hp => absurd (hfx p hp) (by simp)))
 (rds_seq (rds_asg (rd_op opg_eq (rd_comp (rdi_seq rd_var) rdg_name (by decide) (rdt_test (rd_op opg_notIn rd_var rd_var)) rd_var) (rd_lst rda_nil)) rdg_name (fun p hp => absurd (hfx p hp) (by simp)))
 (rds_seq (rds_if (rdt_or (rdt_test (rd_op opg_ne (rd_fn (fun _ _ _ h => runB_n h) (rda_cons rd_var (rda_cons rd_var rda_nil))) rd_var)) (rdt_or (rdt_test (rd_op opg_ne (rd_fn (fun _ _ _ h => runB_n h) (rda_cons rd_var (rda_cons rd_var rda_nil))) (rd_and (rd_not rd_var) (rd_not rd_var)))) (rdt_not (rdt_truth (rd_isi (by decide +kernel) (rd_fn (fun _ _ _ h => runB_n h) (rda_cons rd_var (rda_cons rd_var rda_nil))))))))
 (rds_ret (rd_c fun F => .bl _))
 rds_pass)
 (rds_seq (rds_asg (rd_tup (rda_cons (rd_fnL (fun _ _ h => runB_n h) (rda_cons rd_var (rda_cons (rd_c fun F => .int _) rda_nil))) (rda_cons (rd_op opg_add (rd_c fun F => .int _) (rd_fnL (fun _ _ h => runB_n h) (rda_cons rd_var (rda_cons (rd_c fun F => .int _) rda_nil)))) rda_nil))) rdg_name (fun p hp => absurd (hfx p hp) (by simp)))
 (rds_seq (rds_if (rdt_or (rdt_test (rd_op opg_ne (rd_fn (fun _ _ _ h => runB_n h) (rda_cons rd_var (rda_cons rd_var rda_nil))) (rd_op opg_in rd_var rd_var))) (rdt_or (rdt_test (rd_op opg_ne (rd_fn (fun _ _ _ h => runB_n h) (rda_cons rd_var (rda_cons rd_var rda_nil))) (rd_fn (fun _ _ _ h => runB_n h) (rda_cons (rd_op opg_add rd_var (rd_lst (rda_cons rd_var rda_nil))) rda_nil)))) (rdt_test (rd_op opg_ne (rd_fn (fun _ _ _ h => runB_n h) (rda_cons rd_var (rda_cons (rd_op opg_idx rd_var (rd_c fun F => .int _)) rda_nil))) (rd_call cg_len (rda_cons (rd_comp (rdi_seq rd_var) rdg_name (by decide) (rdt_test (rd_op opg_eq (rd_op opg_idx rd_var (rd_c fun F => .int _)) (rd_op opg_idx rd_var (rd_c fun F => .int _)))) rd_var) rda_nil))))))
 (rds_ret (rd_c fun F => .bl _))
 rds_pass)
 (rds_if (rdt_or (rdt_test (rd_op opg_ne (rd_fn (fun _ _ _ h => runB_n h) (rda_cons rd_var rda_nil)) (rd_call cg_len (rda_cons rd_var rda_nil)))) (rdt_or (rdt_test (rd_op opg_ne (rd_fn (fun _ _ _ h => runB_n h) (rda_cons rd_var (rda_cons rd_var rda_nil))) (rd_call cg_tuple (rda_cons (rd_comp (rdi_seq rd_var) rdg_name (by decide) (rdt_test (rd_op opg_notIn rd_var rd_var)) rd_var) rda_nil)))) (rdt_not (rdt_truth (rd_isi (by decide +kernel) (rd_fn (fun _ _ _ h => runB_n h) (rda_cons rd_var rda_nil)))))))
 (rds_ret (rd_c fun F => .bl _))
 rds_pass))))))))))
 (rds_ret (rd_and (rd_op opg_eq (rd_fn (fun _ _ _ h => runB_n h) (rda_cons (rd_tup rda_nil) (rda_cons (rd_tup rda_nil) rda_nil))) (rd_tup rda_nil)) (rd_and (rd_fn (fun _ _ _ h => runB_n h) (rda_cons (rd_tup rda_nil) (rda_cons (rd_tup rda_nil) rda_nil))) (rd_not (rd_fn (fun _ _ _ h => runB_n h) (rda_cons (rd_tup rda_nil) (rda_cons (rd_tup rda_nil) rda_nil)))))))))⟩
end
end K00
namespace K00
open PySem PySem.Spec L2 MM
abbrev Pr := Int × Int
def cnt (v : List Pr) (c : Int) : Int := ((v.filter fun p => p.1 == c).map (·.2)).sum
theorem count_of_eq (v : List Pr) (c : Int) (hv : v.length ≤ 1000000) : m_count_of [.p (vD v), .p (.int c)] = some (.ok (.p (.int (cnt v c))), [.p (vD v), .p (.int c)]) := by
  have hc := compM_run (own := [2, 3]) (tg := (gT 2 (gsCons (gN 2) (gsCons (gN 3) gsNil)))) (mt := (mTest (mOp gEq (mVar 2) (mVar 1)))) (me := (mVar 3)) prI (fun p => p.1 == c) (fun p => .int p.2) [.p (vD v), .p (.int c), .un, .un] v [] (fun x hx =>
    ⟨_, _, rfl, rfl, fun _ => rfl, fun _ => ⟨_, _, rfl, rfl, rfl⟩⟩)
  refine fn_rt (e := [.p (vD v), .p (.int c), .un, .un]) rfl ?_
  show mb_count_of [.p (vD v), .p (.int c), .un, .un] = _
  unfold mb_count_of
  simp [-List.map_map, hc, hv, cnt]
theorem has_eq (v : List Pr) (d : Pr) (hv : v.length ≤ 1000000) : m_has [.p (vD v), .p (prI d)] = some (.ok (.p (.bool (decide (d.2 ≤ cnt v d.1)))), [.p (vD v), .p (prI d)]) := by
  refine fn_rt (e := [.p (vD v), .p (prI d)]) rfl ?_
  show mb_has [.p (vD v), .p (prI d)] = _
  unfold mb_has
  simp [-List.map_map, count_of_eq _ _ hv]
def cov (a b : List Pr) : Bool := b.all fun p => decide (p.2 ≤ cnt a p.1)
theorem covers_eq (a b : List Pr) (ha : a.length ≤ 1000000) (hb : b.length ≤ 1000000) : m_covers [.p (vD a), .p (vD b)] = some (.ok (.p (.bool (cov a b))), [.p (vD a), .p (vD b)]) := by
  have hc := compM_map (own := [2, 3]) (tg := (gT 2 (gsCons (gN 2) (gsCons (gN 3) gsNil)))) (me := (mOp gGeI (mFn m_count_of (mCons (mVar 0) (mCons (mVar 2) mNil))) (mVar 3))) prI (fun p => .bool (decide (p.2 ≤ cnt a p.1))) [.p (vD a), .p (vD b), .un, .un] b [] (fun x hx =>
    ⟨[.p (vD a), .p (vD b), .p (.int x.1), .p (.int x.2)], .val (.p (.bool (decide (x.2 ≤ cnt a x.1)))), [.p (vD a), .p (vD b), .p (.int x.1), .p (.int x.2)], rfl, by simp [-List.map_map, count_of_eq _ _ ha], rfl, rfl⟩)
  refine fn_rt (e := [.p (vD a), .p (vD b), .un, .un]) rfl ?_
  show mb_covers [.p (vD a), .p (vD b), .un, .un] = _
  unfold mb_covers
  simp [-List.map_map, hc, hb, cov]
theorem beside_eq (a b : List Pr) (ha : a.length ≤ 1000000) (hb : b.length ≤ 1000000) : m_beside [.p (vD a), .p (vD b)] = some (.ok (.p (.bool (!cov a b && !cov b a))), [.p (vD a), .p (vD b)]) := by
  refine fn_rt (e := [.p (vD a), .p (vD b)]) rfl ?_
  show mb_beside [.p (vD a), .p (vD b)] = _
  unfold mb_beside
  simp [-List.map_map, covers_eq a b ha hb, covers_eq b a hb ha]
  cases cov a b <;> simp [-List.map_map, covers_eq a b ha hb, covers_eq b a hb ha]
theorem size_of_eq (v : List Pr) (hv : v.length ≤ 1000000) : m_size_of [.p (vD v)] = some (.ok (.p (.int (v.map (·.2)).sum)), [.p (vD v)]) := by
  have hc := compM_map (own := [1, 2]) (tg := (gT 2 (gsCons (gN 1) (gsCons (gN 2) gsNil)))) (me := (mVar 2)) prI (fun p => .int p.2) [.p (vD v), .un, .un] v [] (fun x hx => ⟨_, _, _, rfl, rfl, rfl, rfl⟩)
  refine fn_rt (e := [.p (vD v), .un, .un]) rfl ?_
  show mb_size_of [.p (vD v), .un, .un] = _
  unfold mb_size_of
  simp [-List.map_map, hc, hv]
def metOf (a b : List Pr) : List Pr := (a.map fun p => (p.1, min p.2 (cnt b p.1))).filter fun p => decide (0 < p.2)
theorem met_eq (a b : List Pr) (ha : a.length ≤ 1000000) (hb : b.length ≤ 1000000) : m_met [.p (vD a), .p (vD b)] = some (.ok (.p (vD (metOf a b))), [.p (vD a), .p (vD b)]) := by
  have hc := compM_map (own := [3, 4]) (tg := (gT 2 (gsCons (gN 3) (gsCons (gN 4) gsNil)))) (me := (mTup (mCons (mVar 3) (mCons (mCall gMin2 (mCons (mVar 4) (mCons (mFn m_count_of (mCons (mVar 1) (mCons (mVar 3) mNil))) mNil))) mNil)))) prI (fun p => prI (p.1, min p.2 (cnt b p.1))) [.p (vD a), .p (vD b), .un, .un, .un] a [] (fun x hx =>
    ⟨[.p (vD a), .p (vD b), .un, .p (.int x.1), .p (.int x.2)], .val (.p (prI (x.1, min x.2 (cnt b x.1)))), [.p (vD a), .p (vD b), .un, .p (.int x.1), .p (.int x.2)], rfl, by simp [-List.map_map, count_of_eq _ _ hb, prI], rfl, rfl⟩)
  have e : (a.map fun p => prI (p.1, min p.2 (cnt b p.1))) = (a.map fun p => (p.1, min p.2 (cnt b p.1))).map prI := by rw [List.map_map]; rfl
  rw [e] at hc
  generalize hm : (a.map fun p => (p.1, min p.2 (cnt b p.1))) = m at hc
  have hl : m.length ≤ 1000000 := by rw [← hm, List.length_map]; exact ha
  have hc2 := compM_run (own := [3, 4]) (tg := (gT 2 (gsCons (gN 3) (gsCons (gN 4) gsNil)))) (mt := (mTest (mOp gGtI (mVar 4) (mC (.int 0))))) (me := (mTup (mCons (mVar 3) (mCons (mVar 4) mNil)))) prI (fun p => decide (0 < p.2)) prI [.p (vD a), .p (vD b), .p (.list (m.map prI)), .un, .un] m [] (fun x hx =>
    ⟨_, _, rfl, rfl, fun _ => rfl, fun _ => ⟨_, _, rfl, rfl, rfl⟩⟩)
  refine fn_rt (e := [.p (vD a), .p (vD b), .p (.list (m.map prI)), .un, .un]) rfl ?_
  show mb_met [.p (vD a), .p (vD b), .un, .un, .un] = _
  unfold mb_met
  simp [-List.map_map, hc, hc2, ha, hl]
  rw [metOf, hm]; rfl
def stepM (m : List Pr) (p : Pr) : List Pr := putI m p.1 (max p.2 ((getI m p.1).getD 0))
def maxAll (m b : List Pr) : List Pr := b.foldl stepM m
theorem putI_len (l : List Pr) (c n : Int) : (putI l c n).length ≤ l.length + 1 := by
  unfold putI
  split
  · rw [List.length_map]; omega
  · rw [List.length_append]; exact Nat.le_refl _
theorem maxAll_len : ∀ (b m : List Pr), (maxAll m b).length ≤ m.length + b.length
  | [], m => Nat.le_refl _
  | p :: b, m => by
    have h1 := maxAll_len b (stepM m p)
    have h2 := putI_len m p.1 (max p.2 ((getI m p.1).getD 0))
    show (maxAll (stepM m p) b).length ≤ _
    rw [List.length_cons]
    unfold stepM at h1 h2
    unfold stepM
    omega
theorem mergeI_len : ∀ (b m : List Pr), (mergeI m b).length ≤ m.length + b.length
  | [], m => Nat.le_refl _
  | p :: b, m => by
    have h1 := mergeI_len b (putI m p.1 p.2)
    have h2 := putI_len m p.1 p.2
    show (mergeI (putI m p.1 p.2) b).length ≤ _
    rw [List.length_cons]
    omega
theorem joined_eq (a b : List Pr) (ha : a.length ≤ 400000) (hb : b.length ≤ 400000) : m_joined [.p (vD a), .p (vD b)] = some (.ok (.p (vD (sortI (maxAll (mergeI [] a) b)))), [.p (vD a), .p (vD b)]) := by
  obtain ⟨E', h1, s3, s4, h2⟩ := forM_inv (tg := (gT 2 (gsCons (gN 3) (gsCons (gN 4) gsNil)))) (mb := (sDSet 2 (mCall gMax2 (mCons (mVar 4) (mCons (mDGet2 2 (mVar 3) (mC (.int 0))) mNil))) (mVar 3))) prI
    (fun done E => ∃ s3 s4, E = [.p (vD a), .p (vD b), .m (mI (maxAll (mergeI [] a) done)), s3, s4]) b (fun done x rest E e h => by
      obtain ⟨s3, s4, rfl⟩ := h
      have l1 := maxAll_len done (mergeI [] a)
      have l2 := mergeI_len a []
      have l3 := congrArg List.length e
      simp [-List.map_map] at l1 l2 l3
      refine ⟨_, _, .nx, rfl, ?_, .inl rfl, .p (.int x.1), .p (.int x.2), rfl⟩
      have hs : smallL (maxAll (mergeI [] a) done).length = true := decide_eq_true (by omega)
      have e2 : maxAll (mergeI [] a) (done ++ [x]) = stepM (maxAll (mergeI [] a) done) x := by unfold maxAll; rw [List.foldl_append]; rfl
      rw [e2]
      unfold stepM
      cases q : getI (maxAll (mergeI [] a) done) x.1 <;> simp [-List.map_map, q, hs])
    [.p (vD a), .p (vD b), .m (mI (mergeI [] a)), .un, .un] ⟨_, _, rfl⟩
  subst h2
  refine fn_rt (e := [.p (vD a), .p (vD b), .m (mI (maxAll (mergeI [] a) b)), s3, s4]) rfl ?_
  show mb_joined [.p (vD a), .p (vD b), .un, .un, .un] = _
  unfold mb_joined
  simp [-List.map_map, h1]
  rfl
theorem law_vector_eq (a : List Pr) (ha : a.length ≤ 400000) : m__law_vector [.p (.list (a.map prI))] = some (.ok (.p (vD (sortI (maxAll [] a)))), [.p (.list (a.map prI))]) := by
  obtain ⟨E', h1, s3, s4, h2⟩ := forM_inv (tg := (gT 2 (gsCons (gN 2) (gsCons (gN 3) gsNil)))) (mb := (sDSet 1 (mCall gMax2 (mCons (mVar 3) (mCons (mDGet2 1 (mVar 2) (mC (.int 0))) mNil))) (mVar 2))) prI
    (fun done E => ∃ s3 s4, E = [.p (.list (a.map prI)), .m (mI (maxAll [] done)), s3, s4]) a (fun done x rest E e h => by
      obtain ⟨s3, s4, rfl⟩ := h
      have l1 := maxAll_len done []
      have l3 := congrArg List.length e
      simp [-List.map_map] at l1 l3
      refine ⟨_, _, .nx, rfl, ?_, .inl rfl, .p (.int x.1), .p (.int x.2), rfl⟩
      have hs : smallL (maxAll [] done).length = true := decide_eq_true (by omega)
      have e2 : maxAll [] (done ++ [x]) = stepM (maxAll [] done) x := by unfold maxAll; rw [List.foldl_append]; rfl
      rw [e2]
      unfold stepM
      cases q : getI (maxAll [] done) x.1 <;> simp [-List.map_map, q, hs])
    [.p (.list (a.map prI)), .m (mI []), .un, .un] ⟨_, _, rfl⟩
  subst h2
  refine fn_rt (e := [.p (.list (a.map prI)), .m (mI (maxAll [] a)), s3, s4]) rfl ?_
  show mb__law_vector [.p (.list (a.map prI)), .un, .un, .un] = _
  unfold mb__law_vector
  have h1 : forM (gT 2 (gsCons (gN 2) (gsCons (gN 3) gsNil))) (sDSet 1 (mCall gMax2 (mCons (mVar 3) (mCons (mDGet2 1 (mVar 2) (mC (.int 0))) mNil))) (mVar 2)) (a.map prI) [.p (.list (a.map prI)), .m [], .un, .un] = _ := h1
  simp [-List.map_map, h1]
  rfl
def pairsOf (c : Int) (ks : List Int) : List Pr := ks.map fun k => (c, k)
def dotsOf (v : List Pr) : List Pr := v.flatMap fun p => pairsOf p.1 (rgI 1 (p.2 + 1))
def VecB (v : List Pr) : Prop := v.length ≤ 100 ∧ ∀ p ∈ v, -1000 ≤ p.2 ∧ p.2 ≤ 1000
theorem flat_len {f : Pr → List Pr} : ∀ (v : List Pr), (∀ p ∈ v, (f p).length ≤ 2000) → (v.flatMap f).length ≤ 2000 * v.length
  | [], _ => Nat.zero_le _
  | p :: v, h => by
    have h1 := flat_len (f := f) v fun q hq => h q (List.mem_cons_of_mem _ hq)
    have h2 := h p List.mem_cons_self
    rw [List.flatMap_cons, List.length_append, List.length_cons]
    omega
theorem dots_len {v : List Pr} (h : VecB v) : (dotsOf v).length ≤ 200000 := by
  have := flat_len (f := fun p => pairsOf p.1 (rgI 1 (p.2 + 1))) v fun p hp => by
    obtain ⟨h1, h2⟩ := h.2 p hp
    unfold pairsOf
    rw [List.length_map, rgI_len]
    omega
  have := h.1
  unfold dotsOf
  omega
theorem VecB.pre {v done : List Pr} {x : Pr} {rest : List Pr} (h : VecB v) (e : v = done ++ x :: rest) : VecB done ∧ -1000 ≤ x.2 ∧ x.2 ≤ 1000 := by
  subst e
  have h1 := h.1
  rw [List.length_append, List.length_cons] at h1
  exact ⟨⟨by omega, fun p hp => h.2 p (List.mem_append_left _ hp)⟩, h.2 x (List.mem_append_right _ List.mem_cons_self)⟩
theorem gAdd_lst (a b : List Pr) (h : a.length + b.length ≤ 1000000) : gAdd (.list (a.map prI)) (.list (b.map prI)) = some (.l (((a ++ b).map prI).map .p)) := by
  show (if smallL ((a.map prI).length + (b.map prI).length) then some (Slot.l ((a.map prI ++ b.map prI).map .p)) else none) = _
  rw [List.length_map, List.length_map, show smallL (a.length + b.length) = true from decide_eq_true h, if_pos rfl, ← List.map_append]
theorem pairs_prI (c : Int) (ks : List Int) : (ks.map fun k => PyData.tuple [.int c, .int k]) = (pairsOf c ks).map prI := by
  unfold pairsOf; rw [List.map_map]; rfl
theorem law_dots_eq (v : List Pr) (hv : VecB v) : m__law_dots [.p (vD v)] = some (.ok (.l (((dotsOf v).map prI).map .p)), [.p (vD v)]) := by
  obtain ⟨E', h1, s2, s3, s4, h2⟩ := forM_inv (tg := (gT 2 (gsCons (gN 2) (gsCons (gN 3) gsNil)))) (mb := (sAsg (mOp gAdd (mVar 1) (mComp [4] (mRng rng2 (mCons (mC (.int 1)) (mCons (mOp gAdd (mVar 3) (mC (.int 1))) mNil))) (gN 4) mYes (mTup (mCons (mVar 2) (mCons (mVar 4) mNil))))) (gN 1))) prI
    (fun done E => ∃ s2 s3 s4, E = [.p (vD v), .l (((dotsOf done).map prI).map .p), s2, s3, s4]) v (fun done x rest E e h => by
      obtain ⟨s2, s3, s4, rfl⟩ := h
      obtain ⟨hd, x1, x2⟩ := hv.pre e
      have hl := dots_len hd
      have hc := compM_map (own := [4]) (tg := (gN 4)) (me := (mTup (mCons (mVar 2) (mCons (mVar 4) mNil)))) PyData.int (fun k => .tuple [.int x.1, .int k]) [.p (vD v), .l (((dotsOf done).map prI).map .p), .p (.int x.1), .p (.int x.2), .un] (rgI 1 (x.2 + 1)) [] (fun k hk => ⟨_, _, _, rfl, rfl, rfl, rfl⟩)
      rw [pairs_prI] at hc
      refine ⟨_, _, .nx, rfl, ?_, .inl rfl, .p (.int x.1), .p (.int x.2), s4, rfl⟩
      have hr := rgI_len 1 (x.2 + 1)
      have hr2 : (rgI 1 (x.2 + 1)).length ≤ 1000000 := by omega
      have e2 : dotsOf (done ++ [x]) = dotsOf done ++ pairsOf x.1 (rgI 1 (x.2 + 1)) := by unfold dotsOf; rw [List.flatMap_append]; simp [-List.map_map]
      rw [e2]
      simp [-List.map_map, rng2_run (i := 1) (j := x.2 + 1) (by omega) (by omega) (by omega) (by omega), hr2, hc, gAdd_lst (dotsOf done) (pairsOf x.1 (rgI 1 (x.2 + 1))) (by unfold pairsOf; rw [List.length_map]; omega)])
    [.p (vD v), .l [], .un, .un, .un] ⟨_, _, _, rfl⟩
  subst h2
  refine fn_rt (e := [.p (vD v), .un, s2, s3, s4]) rfl ?_
  show mb__law_dots [.p (vD v), .un, .un, .un, .un] = _
  unfold mb__law_dots
  simp [-List.map_map, h1]
def betOf (a b : List Pr) : List Pr := b.flatMap fun p => pairsOf p.1 (rgI (cnt a p.1 + 1) (p.2 + 1))
/-- counts stay small -/
def CntB (a : List Pr) : Prop := ∀ c, 0 ≤ cnt a c ∧ cnt a c ≤ 1000
theorem bet_len {a v : List Pr} (ha : CntB a) (h : VecB v) : (betOf a v).length ≤ 200000 := by
  have := flat_len (f := fun p => pairsOf p.1 (rgI (cnt a p.1 + 1) (p.2 + 1))) v fun p hp => by
    obtain ⟨h1, h2⟩ := h.2 p hp
    have := ha p.1
    unfold pairsOf
    rw [List.length_map, rgI_len]
    omega
  have := h.1
  unfold betOf
  omega
theorem dots_between_eq (a b : List Pr) (ha : VecB a) (hca : CntB a) (hb : VecB b) : m_dots_between [.p (vD a), .p (vD b)] = some (.ok (.p (vD (betOf a b))), [.p (vD a), .p (vD b)]) := by
  have hla : a.length ≤ 1000000 := by have := ha.1; omega
  obtain ⟨E', h1, s2, s3, s4, h2⟩ := forM_inv (tg := (gT 2 (gsCons (gN 3) (gsCons (gN 4) gsNil)))) (mb := (sExt 2 (mComp [5] (mRng rng2 (mCons (mOp gAdd (mFn m_count_of (mCons (mVar 0) (mCons (mVar 3) mNil))) (mC (.int 1))) (mCons (mOp gAdd (mVar 4) (mC (.int 1))) mNil))) (gN 5) mYes (mTup (mCons (mVar 3) (mCons (mVar 5) mNil)))))) prI
    (fun done E => ∃ s2 s3 s4, E = [.p (vD a), .p (vD b), .l (((betOf a done).map prI).map .p), s2, s3, s4]) b (fun done x rest E e h => by
      obtain ⟨s2, s3, s4, rfl⟩ := h
      obtain ⟨hd, x1, x2⟩ := hb.pre e
      have hl := bet_len hca hd
      have hcx := hca x.1
      have hc := compM_map (own := [5]) (tg := (gN 5)) (me := (mTup (mCons (mVar 3) (mCons (mVar 5) mNil)))) PyData.int (fun k => .tuple [.int x.1, .int k]) [.p (vD a), .p (vD b), .l (((betOf a done).map prI).map .p), .p (.int x.1), .p (.int x.2), .un] (rgI (cnt a x.1 + 1) (x.2 + 1)) [] (fun k hk => ⟨_, _, _, rfl, rfl, rfl, rfl⟩)
      rw [pairs_prI] at hc
      refine ⟨_, _, .nx, rfl, ?_, .inl rfl, .p (.int x.1), .p (.int x.2), s4, rfl⟩
      have hr := rgI_len (cnt a x.1 + 1) (x.2 + 1)
      have hr2 : (rgI (cnt a x.1 + 1) (x.2 + 1)).length ≤ 1000000 := by omega
      have e2 : betOf a (done ++ [x]) = betOf a done ++ pairsOf x.1 (rgI (cnt a x.1 + 1) (x.2 + 1)) := by unfold betOf; rw [List.flatMap_append]; simp [-List.map_map]
      have hs : smallL ((betOf a done).length + (pairsOf x.1 (rgI (cnt a x.1 + 1) (x.2 + 1))).length) = true := decide_eq_true (by unfold pairsOf; rw [List.length_map]; omega)
      rw [e2]
      simp [-List.map_map, count_of_eq _ _ hla, rng2_run (i := cnt a x.1 + 1) (j := x.2 + 1) (by omega) (by omega) (by omega) (by omega), hr2, hc, hs])
    [.p (vD a), .p (vD b), .l [], .un, .un, .un] ⟨_, _, _, rfl⟩
  subst h2
  refine fn_rt (e := [.p (vD a), .p (vD b), .l (((betOf a b).map prI).map .p), s2, s3, s4]) rfl ?_
  show mb_dots_between [.p (vD a), .p (vD b), .un, .un, .un, .un] = _
  have hlb : b.length ≤ 1000000 := by have := hb.1; omega
  unfold mb_dots_between
  simp [-List.map_map, h1]
  rfl
theorem with_dot_eq (a : List Pr) (d : Pr) (ha : a.length ≤ 400000) : m_with_dot [.p (vD a), .p (prI d)] = some (.ok (.p (vD (sortI (maxAll (mergeI [] a) [d])))), [.p (vD a), .p (prI d)]) := by
  have h := joined_eq a [d] ha (by simp [-List.map_map])
  have h : m_joined [.p (vD a), .p (.tuple [prI d])] = _ := h
  refine fn_rt (e := [.p (vD a), .p (prI d)]) rfl ?_
  show mb_with_dot [.p (vD a), .p (prI d)] = _
  unfold mb_with_dot
  simp [-List.map_map, h]
/-! the drawing -/
structure DrawB (cells : List Int) (i cur seed : Int) : Prop where
  pos : ∀ c ∈ cells, 0 ≤ c
  i0 : -1 ≤ i
  c0 : 0 ≤ cur
  s0 : 0 ≤ seed
  s1 : seed < 2147483647
def drD (cells : List Int) (i cur seed : Int) : List PyData := [.list (cells.map .int), .int i, .int cur, .int seed]
def drS (cells : List Int) (i cur seed : Int) : Slot := .l ((drD cells i cur seed).map .p)
def DrawOK (s : Slot) : Prop := ∃ cells i cur seed, DrawB cells i cur seed ∧ s = drS cells i cur seed
def absI (i : Int) : Int := if i < 0 then -i else i
theorem absI_pos (i : Int) : 0 ≤ absI i := by unfold absI; split <;> omega
theorem law_draw_eq (ns : List Int) (hn : ns.length ≤ 1000000) : ∃ s, DrawOK s ∧ m__law_draw [.p (.list (ns.map .int))] = some (.ok s, [.p (.list (ns.map .int))]) := by
  obtain ⟨E', h1, seed, s2, b1, b2, h2⟩ := forM_inv (tg := (gN 2)) (mb := (sAsg (mOp (gI fMod) (mCall gInt (mCons (mOp gAdd (mOp gAdd (mOp (gI fMul) (mVar 1) (mC (.int 48271))) (mOp (gI fMod) (mCall gAbs (mCons (mCall gInt (mCons (mVar 2) mNil)) mNil)) (mC (.int 65521)))) (mC (.int 1))) mNil)) (mC (.int 2147483647))) (gN 1))) PyData.int
    (fun done E => ∃ seed s2, 0 ≤ seed ∧ seed < 2147483647 ∧ E = [.p (.list (ns.map .int)), .p (.int seed), s2]) ns (fun done x rest E e h => by
      obtain ⟨seed, s2, b1, b2, rfl⟩ := h
      have hm := Int.emod_nonneg (seed * 48271 + absI x % 65521 + 1) (show (2147483647 : Int) ≠ 0 by decide)
      have hl := Int.emod_lt_of_pos (seed * 48271 + absI x % 65521 + 1) (show (0 : Int) < 2147483647 by decide)
      refine ⟨_, _, .nx, rfl, ?_, .inl rfl, (seed * 48271 + absI x % 65521 + 1) % 2147483647, .p (.int x), hm, hl, rfl⟩
      simp [-List.map_map, gMul_run b1 (show seed < 2147483648 by omega), gMod_run (show (0 : Int) < 65521 by decide), gMod_run (show (0 : Int) < 2147483647 by decide), absI])
    [.p (.list (ns.map .int)), .p (.int 7), .un] ⟨7, .un, by decide, by decide, rfl⟩
  subst h2
  have hc := compM_map (own := [2]) (tg := (gN 2)) (me := (mCall gAbs (mCons (mCall gInt (mCons (mVar 2) mNil)) mNil))) PyData.int (fun n => .int (absI n)) [.p (.list (ns.map .int)), .p (.int seed), .un] ns [] (fun k hk => ⟨_, _, _, rfl, rfl, rfl, rfl⟩)
  have e : (ns.map fun n => PyData.int (absI n)) = (ns.map absI).map .int := by rw [List.map_map]; rfl
  rw [e] at hc
  refine ⟨drS (ns.map absI) (-1) 0 seed, ⟨_, _, _, _, ⟨fun c hc => ?_, by decide, by decide, b1, b2⟩, rfl⟩, ?_⟩
  · obtain ⟨n, _, rfl⟩ := List.mem_map.mp hc
    exact absI_pos n
  · refine fn_rt (e := [.p (.list (ns.map .int)), .p (.int seed), s2]) rfl ?_
    show mb__law_draw [.p (.list (ns.map .int)), .un, .un] = _
    unfold mb__law_draw
    simp [-List.map_map, h1, hc, hn]
    rfl
@[simp] theorem gIdx_dr0 (c : List Int) (i r s : Int) : gIdx (.list (drD c i r s)) (.int 0) = some (.p (.list (c.map .int))) := rfl
@[simp] theorem gIdx_dr1 (c : List Int) (i r s : Int) : gIdx (.list (drD c i r s)) (.int 1) = some (.p (.int i)) := rfl
@[simp] theorem gIdx_dr2 (c : List Int) (i r s : Int) : gIdx (.list (drD c i r s)) (.int 2) = some (.p (.int r)) := rfl
@[simp] theorem gIdx_dr3 (c : List Int) (i r s : Int) : gIdx (.list (drD c i r s)) (.int 3) = some (.p (.int s)) := rfl
@[simp] theorem dr_set1 (c : List Int) (i r s x : Int) : ((drD c i r s).map Slot.p).set 1 (.p (.int x)) = (drD c x r s).map .p := rfl
@[simp] theorem dr_set2 (c : List Int) (i r s x : Int) : ((drD c i r s).map Slot.p).set 2 (.p (.int x)) = (drD c i x s).map .p := rfl
@[simp] theorem dr_set3 (c : List Int) (i r s x : Int) : ((drD c i r s).map Slot.p).set 3 (.p (.int x)) = (drD c i r x).map .p := rfl
@[simp] theorem dr_len (c : List Int) (i r s : Int) : (drD c i r s).length = 4 := rfl
@[simp] theorem ix41 : ixN 4 1 = some 1 := by decide
@[simp] theorem ix42 : ixN 4 2 = some 2 := by decide
@[simp] theorem ix43 : ixN 4 3 = some 3 := by decide
theorem gIdx_cells {cells : List Int} {j : Int} (h0 : 0 ≤ j) (h1 : j < cells.length) : ∃ c ∈ cells, gIdx (.list (cells.map .int)) (.int j) = some (.p (.int c)) := by
  obtain ⟨n, rfl⟩ := Int.eq_ofNat_of_zero_le h0
  have hn : n < cells.length := by omega
  refine ⟨cells[n], List.getElem_mem hn, ?_⟩
  show (atI (cells.map PyData.int) (n : Int)).map Slot.p = _
  rw [atI_nat (j := n) (v := PyData.int cells[n]) (by rw [List.getElem?_map, List.getElem?_eq_getElem hn]; rfl)]
  rfl
def fetch : StM := (sIf (mTest (mOp gEq (mOp gIdx (mVar 0) (mC (.int 2))) (mC (.int 0))))
 (sSeq (sSetL 0 (mOp gAdd (mOp gIdx (mVar 0) (mC (.int 1))) (mC (.int 1))) (mC (.int 1)))
 (sSeq (sIf (mTest (mOp gLtI (mOp gIdx (mVar 0) (mC (.int 1))) (mCall gLen (mCons (mOp gIdx (mVar 0) (mC (.int 0))) mNil))))
 (sSetL 0 (mOp gIdx (mOp gIdx (mVar 0) (mC (.int 0))) (mOp gIdx (mVar 0) (mC (.int 1)))) (mC (.int 2)))
 sNx)
 (sIf (mTest (mOp gEq (mOp gIdx (mVar 0) (mC (.int 2))) (mC (.int 0))))
 (sSeq (sSetL 0 (mOp (gI fMod) (mCall gInt (mCons (mOp gAdd (mOp (gI fMul) (mOp gIdx (mVar 0) (mC (.int 3))) (mC (.int 48271))) (mC (.int 11))) mNil)) (mC (.int 2147483647))) (mC (.int 3)))
 (sSetL 0 (mOp gIdx (mVar 0) (mC (.int 3))) (mC (.int 2))))
 sNx)))
 sNx)
theorem refill {cells : List Int} {i cur seed : Int} (b : DrawB cells i cur seed) (t : List Slot) : ∃ cur' seed', DrawB cells i cur' seed' ∧ (sIf (mTest (mOp gEq (mOp gIdx (mVar 0) (mC (.int 2))) (mC (.int 0))))
 (sSeq (sSetL 0 (mOp (gI fMod) (mCall gInt (mCons (mOp gAdd (mOp (gI fMul) (mOp gIdx (mVar 0) (mC (.int 3))) (mC (.int 48271))) (mC (.int 11))) mNil)) (mC (.int 2147483647))) (mC (.int 3)))
 (sSetL 0 (mOp gIdx (mVar 0) (mC (.int 3))) (mC (.int 2))))
 sNx) (.l ((drD cells i cur seed).map .p) :: t) = some (.nx, .l ((drD cells i cur' seed').map .p) :: t) := by
  by_cases h : cur = 0
  · have hm := Int.emod_nonneg (seed * 48271 + 11) (show (2147483647 : Int) ≠ 0 by decide)
    have hl := Int.emod_lt_of_pos (seed * 48271 + 11) (show (0 : Int) < 2147483647 by decide)
    refine ⟨(seed * 48271 + 11) % 2147483647, (seed * 48271 + 11) % 2147483647, ⟨b.pos, b.i0, hm, hm, hl⟩, ?_⟩
    have b1 := b.s0
    have b2 := b.s1
    simp [-List.map_map, h, gMul_run b1 (show seed < 2147483648 by omega), gMod_run (show (0 : Int) < 2147483647 by decide)]
  · have hb : (cur == 0) = false := beq_eq_false_iff_ne.mpr h
    exact ⟨cur, seed, b, by simp [-List.map_map, hb]⟩
theorem fetch_eq {cells : List Int} {i cur seed : Int} (b : DrawB cells i cur seed) (t : List Slot) : ∃ i' cur' seed', DrawB cells i' cur' seed' ∧ fetch (.l ((drD cells i cur seed).map .p) :: t) = some (.nx, .l ((drD cells i' cur' seed').map .p) :: t) := by
  by_cases h : cur = 0
  · subst h
    have b3 := b.i0
    by_cases h2 : i + 1 < cells.length
    · obtain ⟨c, hc, e⟩ := gIdx_cells (show 0 ≤ i + 1 by omega) h2
      obtain ⟨cur', seed', b', e'⟩ := refill (cells := cells) (i := i + 1) (cur := c) (seed := seed) ⟨b.pos, by omega, b.pos c hc, b.s0, b.s1⟩ t
      refine ⟨i + 1, cur', seed', b', ?_⟩
      unfold fetch
      rw [sIf_run]
      simp [-List.map_map, -sIf_run, h2, e]
      simp [-List.map_map, -sIf_run, sIf_run _ (sSetL _ _ _), h2, e, e']
    · obtain ⟨cur', seed', b', e'⟩ := refill (cells := cells) (i := i + 1) (cur := 0) (seed := seed) ⟨b.pos, by omega, by decide, b.s0, b.s1⟩ t
      refine ⟨i + 1, cur', seed', b', ?_⟩
      unfold fetch
      rw [sIf_run]
      simp [-List.map_map, -sIf_run, h2]
      simp [-List.map_map, -sIf_run, sIf_run _ (sSetL _ _ _), h2, e']
  · have hb : (cur == 0) = false := beq_eq_false_iff_ne.mpr h
    exact ⟨i, cur, seed, b, by unfold fetch; simp [-List.map_map, hb]⟩
theorem law_take_eq (s : Slot) (many : Int) (h : DrawOK s) (h1 : 0 < many) (h2 : many < 1073741824) : ∃ r s', DrawOK s' ∧ 0 ≤ r ∧ r < many ∧ m__law_take [s, .p (.int many)] = some (.ok (.p (.int r)), [s', .p (.int many)]) := by
  obtain ⟨cells, i, cur, seed, b, rfl⟩ := h
  obtain ⟨i', cur', seed', b', e⟩ := fetch_eq b [.p (.int many), .un]
  have hm := Int.emod_nonneg cur' (show many ≠ 0 by omega)
  have hl := Int.emod_lt_of_pos cur' h1
  refine ⟨cur' % many, drS cells i' (cur' / many) seed', ⟨_, _, _, _, ⟨b'.pos, b'.i0, Int.ediv_nonneg b'.c0 (by omega), b'.s0, b'.s1⟩, rfl⟩, hm, hl, ?_⟩
  refine fn_rt (e := [drS cells i' (cur' / many) seed', .p (.int many), .p (.int (cur' % many))]) rfl ?_
  show mb__law_take [.l ((drD cells i cur seed).map .p), .p (.int many), .un] = _
  show sSeq fetch _ _ = _
  rw [sSeq_run, e]
  simp [-List.map_map, gMod_run h1, gDiv_run h1 h2, drS]
def Vec (v : List Pr) : Prop := List.Sublist (v.map (·.1)) [0, 1, 2, 3, 4] ∧ ∀ p ∈ v, 1 ≤ p.2 ∧ p.2 ≤ 4
theorem law_drawn_eq (s : Slot) (h : DrawOK s) : ∃ v s', DrawOK s' ∧ Vec v ∧ m__law_drawn [s] = some (.ok (.p (vD v)), [s']) := by
  obtain ⟨acc, E', h1, s', v, hs', rfl, rfl, hv1, hv2⟩ := compM_inv (own := [1]) (tg := (gN 1)) (mt := (mTest (mOp gEq (mFnL m__law_take (mCons (mVar 0) (mCons (mC (.int 2)) mNil))) (mC (.int 0))))) (me := (mTup (mCons (mVar 1) (mCons (mOp gAdd (mC (.int 1)) (mFnL m__law_take (mCons (mVar 0) (mCons (mC (.int 4)) mNil)))) mNil)))) PyData.int
    (fun (done : List Int) acc E => ∃ s v, DrawOK s ∧ E = [s, .un] ∧ acc = v.map prI ∧ List.Sublist (v.map (·.1)) done ∧ ∀ p ∈ v, 1 ≤ p.2 ∧ p.2 ≤ (4 : Int)) [0, 1, 2, 3, 4] [] [] [s, .un] (fun done x acc E h => by
      obtain ⟨s, v, hs, rfl, rfl, hv1, hv2⟩ := h
      obtain ⟨r, s1, hs1, r1, r2, e1⟩ := law_take_eq s 2 hs (by decide) (by decide)
      obtain ⟨r', s2, hs2, r3, r4, e2⟩ := law_take_eq s1 4 hs1 (by decide) (by decide)
      obtain ⟨c, i, cu, se, b, rfl⟩ := id hs
      obtain ⟨c1, i1, cu1, se1, b1, rfl⟩ := id hs1
      refine ⟨[drS c i cu se, .p (.int x)], rfl, ?_⟩
      cases q : r == 0 with
      | false =>
        refine .inl ⟨[drS c1 i1 cu1 se1, .p (.int x)], by simp [-List.map_map, drS] at *; simp [-List.map_map, e1, q], _, v, hs1, rfl, rfl, ?_, hv2⟩
        exact hv1.trans (List.sublist_append_left _ _)
      | true =>
        refine .inr ⟨[drS c1 i1 cu1 se1, .p (.int x)], .val (.p (prI (x, 1 + r'))), [s2, .p (.int x)], _, by simp [-List.map_map, drS] at *; simp [-List.map_map, e1, q], by simp [-List.map_map, drS] at *; simp [-List.map_map, e2, prI], rfl, _, v ++ [(x, 1 + r')], hs2, rfl, by rw [List.map_append]; rfl, ?_, fun p hp => ?_⟩
        · rw [List.map_append]
          exact List.Sublist.append hv1 (List.Sublist.refl _)
        · rcases List.mem_append.mp hp with hp | hp
          · exact hv2 p hp
          · cases List.mem_singleton.mp hp
            show 1 ≤ 1 + r' ∧ 1 + r' ≤ 4
            omega) ⟨s, [], h, rfl, rfl, List.Sublist.refl _, fun _ q => nomatch q⟩
  refine ⟨v, s', hs', ⟨hv1, hv2⟩, ?_⟩
  refine fn_rt (e := [s', .un]) rfl ?_
  show mb__law_drawn [s, .un] = _
  unfold mb__law_drawn
  have e5 : (rgI 0 5).map PyData.int = [.int 0, .int 1, .int 2, .int 3, .int 4] := by
    have : rgI 0 5 = [0, 1, 2, 3, 4] := by decide
    rw [this]; rfl
  have h1 : compM [1] (gN 1) (mTest (mOp gEq (mFnL m__law_take (mCons (mVar 0) (mCons (mC (.int 2)) mNil))) (mC (.int 0)))) (mTup (mCons (mVar 1) (mCons (mOp gAdd (mC (.int 1)) (mFnL m__law_take (mCons (mVar 0) (mCons (mC (.int 4)) mNil)))) mNil))) [.int 0, .int 1, .int 2, .int 3, .int 4] [] [s, .un] = some (v.map prI, [s', .un]) := h1
  simp [-List.map_map, rng1_run (j := 5) (by decide) (by decide), e5, h1]
  rfl
end K00
namespace K00
open PySem PySem.Spec L2 MM
/-! rows of numbers -/
theorem rgI_nil {lo hi : Int} (h : hi ≤ lo) : rgI lo hi = [] := by
  unfold rgI
  rw [show (hi - lo).toNat = 0 by omega]; rfl
theorem rgI_cons {lo hi : Int} (h : lo < hi) : rgI lo hi = lo :: rgI (lo + 1) hi := by
  unfold rgI
  rw [show (hi - lo).toNat = (hi - (lo + 1)).toNat + 1 by omega, List.range_succ_eq_map, List.map_cons, List.map_map]
  have e : (lo + ((0 : Nat) : Int)) = lo := by omega
  rw [e]
  congr 1
  apply List.map_congr_left
  intro i _
  show lo + ((i + 1 : Nat) : Int) = lo + 1 + (i : Int)
  omega
theorem rgI_gt (m : Int) : ∀ (n : Nat) (lo hi : Int), (hi - lo).toNat = n → (rgI lo hi).filter (fun k => decide (m < k)) = rgI (max lo (m + 1)) hi
  | 0, lo, hi, h => by rw [rgI_nil (by omega), rgI_nil (by omega)]; rfl
  | n + 1, lo, hi, h => by
    rw [rgI_cons (by omega), List.filter_cons, rgI_gt m n (lo + 1) hi (by omega)]
    by_cases q : m < lo
    · rw [if_pos (decide_eq_true q), show max (lo + 1) (m + 1) = lo + 1 by omega, show max lo (m + 1) = lo by omega, ← rgI_cons (by omega)]
    · rw [if_neg (by simpa using q), show max (lo + 1) (m + 1) = max lo (m + 1) by omega]
theorem rgI_le (m : Int) : ∀ (n : Nat) (lo hi : Int), (hi - lo).toNat = n → (rgI lo hi).filter (fun k => decide (k ≤ m)) = rgI lo (min hi (m + 1))
  | 0, lo, hi, h => by rw [rgI_nil (by omega), rgI_nil (by omega)]; rfl
  | n + 1, lo, hi, h => by
    rw [rgI_cons (by omega), List.filter_cons, rgI_le m n (lo + 1) hi (by omega)]
    by_cases q : lo ≤ m
    · rw [if_pos (decide_eq_true q), ← rgI_cons (by omega)]
    · rw [if_neg (by simpa using q), rgI_nil (by omega), rgI_nil (by omega)]
/-! keys -/
abbrev ks (v : List Pr) : List Int := v.map (·.1)
theorem getI_none {l : List Pr} {c : Int} (h : c ∉ ks l) : getI l c = none := by
  unfold getI
  rw [List.find?_eq_none.mpr fun p hp => ?_]; rfl
  intro e
  exact h (List.mem_map.mpr ⟨p, hp, eq_of_beq e⟩)
theorem putI_new {l : List Pr} {c n : Int} (h : c ∉ ks l) : putI l c n = l ++ [(c, n)] := by
  unfold putI
  rw [if_neg]
  rw [List.any_eq_true]
  rintro ⟨p, hp, e⟩
  exact h (List.mem_map.mpr ⟨p, hp, eq_of_beq e⟩)
theorem getI_put (l : List Pr) (c n : Int) : getI (putI l c n) c = some n := by
  unfold putI
  by_cases h : (l.any fun p => p.1 == c) = true
  · rw [if_pos h]
    unfold getI
    induction l with
    | nil => cases h
    | cons p l ih =>
      rw [List.map_cons, List.find?_cons]
      by_cases q : p.1 = c
      · rw [if_pos q]
        have : ((p.1, n).1 == c) = true := beq_iff_eq.mpr q
        rw [this]; rfl
      · rw [if_neg q]
        have e : (p.1 == c) = false := beq_eq_false_iff_ne.mpr q
        rw [e]
        rw [List.any_cons, e, Bool.false_or] at h
        exact ih h
  · rw [if_neg h]
    unfold getI
    rw [List.find?_append, List.find?_eq_none.mpr fun p hp e => h (List.any_eq_true.mpr ⟨p, hp, e⟩)]
    simp
theorem putI_any (l : List Pr) (c n : Int) : ((putI l c n).any fun p => p.1 == c) = true := by
  unfold putI
  by_cases h : (l.any fun p => p.1 == c) = true
  · rw [if_pos h]
    obtain ⟨p, hp, e⟩ := List.any_eq_true.mp h
    refine List.any_eq_true.mpr ⟨(p.1, n), List.mem_map.mpr ⟨p, hp, by rw [if_pos (eq_of_beq e)]⟩, e⟩
  · rw [if_neg h]
    simp
theorem putI_put (l : List Pr) (c n m : Int) : putI (putI l c n) c m = putI l c m := by
  have h1 := putI_any l c n
  have e0 : putI (putI l c n) c m = (putI l c n).map (fun p => if p.1 = c then (p.1, m) else p) := by
    show (if ((putI l c n).any fun p => p.1 == c) = true then _ else _) = _
    rw [if_pos h1]
  rw [e0]
  unfold putI
  by_cases h : (l.any fun p => p.1 == c) = true
  · rw [if_pos h, if_pos h, List.map_map]
    apply List.map_congr_left
    intro p _
    show (if (if p.1 = c then (p.1, n) else p).1 = c then _ else _) = _
    by_cases q : p.1 = c
    · simp [q]
    · simp [q]
  · rw [if_neg h, if_neg h, List.map_append]
    have e : l.map (fun p => if p.1 = c then (p.1, m) else p) = l := by
      conv => rhs; rw [← List.map_id l]
      apply List.map_congr_left
      intro p hp
      rw [if_neg fun q => h (List.any_eq_true.mpr ⟨p, hp, beq_iff_eq.mpr q⟩)]; rfl
    rw [e]; simp
theorem max_pairs (c : Int) : ∀ (k : Nat) (lo n : Int) (acc : List Pr), (n - lo).toNat = k → lo ≤ n → maxAll acc (pairsOf c (rgI lo (n + 1))) = stepM acc (c, n)
  | 0, lo, n, acc, h, hl => by
    have : lo = n := by omega
    subst this
    rw [rgI_cons (by omega), rgI_nil (by omega)]; rfl
  | k + 1, lo, n, acc, h, hl => by
    rw [rgI_cons (by omega)]
    show maxAll (stepM acc (c, lo)) (pairsOf c (rgI (lo + 1) (n + 1))) = _
    rw [max_pairs c k (lo + 1) n _ (by omega) (by omega)]
    unfold stepM
    simp only
    rw [getI_put, putI_put, Option.getD_some, show max n (max lo ((getI acc c).getD 0)) = max n ((getI acc c).getD 0) by omega]
theorem maxAll_app (acc a b : List Pr) : maxAll acc (a ++ b) = maxAll (maxAll acc a) b := by unfold maxAll; rw [List.foldl_append]
theorem max_dots : ∀ (v acc : List Pr), (∀ p ∈ v, 1 ≤ p.2) → maxAll acc (dotsOf v) = maxAll acc v
  | [], _, _ => rfl
  | p :: v, acc, h => by
    show maxAll acc (pairsOf p.1 (rgI 1 (p.2 + 1)) ++ dotsOf v) = _
    rw [maxAll_app, max_pairs p.1 _ 1 p.2 acc rfl (h p List.mem_cons_self), max_dots v _ fun q hq => h q (List.mem_cons_of_mem _ hq)]
    rfl
theorem max_new : ∀ (v acc : List Pr), (ks v).Nodup → (∀ c ∈ ks v, c ∉ ks acc) → (∀ p ∈ v, 0 ≤ p.2) → maxAll acc v = acc ++ v
  | [], acc, _, _, _ => by rw [List.append_nil]; rfl
  | p :: v, acc, hn, hd, hp => by
    have hn2 := List.nodup_cons.mp hn
    have h1 : p.1 ∉ ks acc := hd p.1 List.mem_cons_self
    show maxAll (stepM acc p) v = _
    have e : stepM acc p = acc ++ [p] := by
      unfold stepM
      rw [getI_none h1, putI_new h1]
      have := hp p List.mem_cons_self
      rw [Option.getD_none, show max p.2 0 = p.2 by omega]
    rw [e, max_new v (acc ++ [p]) hn2.2 (fun c hc hm => ?_) fun q hq => hp q (List.mem_cons_of_mem _ hq)]
    · rw [List.append_assoc]; rfl
    · rw [ks, List.map_append] at hm
      rcases List.mem_append.mp hm with hm | hm
      · exact hd c (List.mem_cons_of_mem _ hc) hm
      · have : c = p.1 := by simpa using hm
        subst this
        exact hn2.1 hc
theorem merge_new : ∀ (v acc : List Pr), (ks v).Nodup → (∀ c ∈ ks v, c ∉ ks acc) → mergeI acc v = acc ++ v
  | [], acc, _, _ => by rw [List.append_nil]; rfl
  | p :: v, acc, hn, hd => by
    have hn2 := List.nodup_cons.mp hn
    have h1 : p.1 ∉ ks acc := hd p.1 List.mem_cons_self
    show mergeI (putI acc p.1 p.2) v = _
    rw [putI_new h1, merge_new v (acc ++ [(p.1, p.2)]) hn2.2 (fun c hc hm => ?_)]
    · rw [List.append_assoc]; rfl
    · rw [ks, List.map_append] at hm
      rcases List.mem_append.mp hm with hm | hm
      · exact hd c (List.mem_cons_of_mem _ hc) hm
      · have : c = p.1 := by simpa using hm
        subst this
        exact hn2.1 hc
theorem Vec.sorted {v : List Pr} (h : Vec v) : (ks v).Pairwise (· < ·) := List.Pairwise.sublist h.1 (by decide)
theorem lt_nodup {l : List Int} (h : l.Pairwise (· < ·)) : l.Nodup := h.imp fun h => Int.ne_of_lt h
theorem Vec.nd {v : List Pr} (h : Vec v) : (ks v).Nodup := lt_nodup h.sorted
theorem Vec.merge {v : List Pr} (h : Vec v) : mergeI [] v = v := merge_new v [] h.nd fun _ _ q => nomatch q
theorem Vec.len {v : List Pr} (h : Vec v) : v.length ≤ 5 := by have := h.1.length_le; simpa using this
theorem Vec.b {v : List Pr} (h : Vec v) : VecB v := ⟨by have := h.len; omega, fun p hp => by have := h.2 p hp; omega⟩
theorem cnt_at : ∀ {v : List Pr} {p : Pr}, (ks v).Nodup → p ∈ v → cnt v p.1 = p.2
  | q :: v, p, hn, hp => by
    have hn2 := List.nodup_cons.mp hn
    unfold cnt
    rw [List.filter_cons]
    rcases List.mem_cons.mp hp with rfl | hp
    · rw [if_pos (beq_self_eq_true _)]
      have : v.filter (fun r => r.1 == p.1) = [] := List.filter_eq_nil_iff.mpr fun r hr e => hn2.1 (List.mem_map.mpr ⟨r, hr, eq_of_beq e⟩)
      rw [this]; simp
    · have : ¬ (q.1 == p.1) = true := fun e => hn2.1 (by show q.1 ∈ _; rw [eq_of_beq e]; exact List.mem_map.mpr ⟨p, hp, rfl⟩)
      rw [if_neg this]
      exact cnt_at hn2.2 hp
theorem cnt_no {v : List Pr} {c : Int} (h : c ∉ ks v) : cnt v c = 0 := by
  unfold cnt
  have : v.filter (fun r => r.1 == c) = [] := List.filter_eq_nil_iff.mpr fun r hr e => h (List.mem_map.mpr ⟨r, hr, eq_of_beq e⟩)
  rw [this]; rfl
theorem cnt_cases {v : List Pr} (h : Vec v) (c : Int) : (∃ p ∈ v, p.1 = c ∧ cnt v c = p.2) ∨ (c ∉ ks v ∧ cnt v c = 0) := by
  by_cases q : c ∈ ks v
  · obtain ⟨p, hp, rfl⟩ := List.mem_map.mp q
    exact .inl ⟨p, hp, rfl, cnt_at h.nd hp⟩
  · exact .inr ⟨q, cnt_no q⟩
theorem Vec.cntB {v : List Pr} (h : Vec v) : CntB v := fun c => by
  rcases cnt_cases h c with ⟨p, hp, _, e⟩ | ⟨_, e⟩
  · have := h.2 p hp; omega
  · omega
theorem mem_dots {v : List Pr} {d : Pr} : d ∈ dotsOf v ↔ ∃ p ∈ v, p.1 = d.1 ∧ 1 ≤ d.2 ∧ d.2 ≤ p.2 := by
  unfold dotsOf pairsOf
  rw [List.mem_flatMap]
  constructor
  · rintro ⟨p, hp, h⟩
    obtain ⟨k, hk, rfl⟩ := List.mem_map.mp h
    have := rgI_mem.mp hk
    exact ⟨p, hp, rfl, this.1, by show k ≤ p.2; omega⟩
  · rintro ⟨p, hp, e, h1, h2⟩
    exact ⟨p, hp, List.mem_map.mpr ⟨d.2, rgI_mem.mpr ⟨h1, by omega⟩, by rw [e]⟩⟩
theorem mem_dots2 {v : List Pr} (h : Vec v) {d : Pr} : d ∈ dotsOf v ↔ 1 ≤ d.2 ∧ d.2 ≤ cnt v d.1 := by
  rw [mem_dots]
  constructor
  · rintro ⟨p, hp, e, h1, h2⟩
    rw [← e, cnt_at h.nd hp]
    exact ⟨h1, h2⟩
  · rintro ⟨h1, h2⟩
    rcases cnt_cases h d.1 with ⟨p, hp, e, e2⟩ | ⟨_, e⟩
    · exact ⟨p, hp, e, h1, by omega⟩
    · omega
/-! the law's sentences -/
theorem s_joined {a b : List Pr} (ha : Vec a) (hb : Vec b) : sortI (maxAll (mergeI [] a) b) = sortI (maxAll [] (dotsOf a ++ dotsOf b)) := by
  rw [maxAll_app, max_dots a [] fun p hp => (ha.2 p hp).1, max_dots b _ fun p hp => (hb.2 p hp).1, ha.merge, max_new a [] ha.nd (fun _ _ q => nomatch q) fun p hp => by have := ha.2 p hp; omega]
  rfl
theorem s_with {a : List Pr} (ha : Vec a) (d : Pr) : sortI (maxAll (mergeI [] a) [d]) = sortI (maxAll [] (dotsOf a ++ [d])) := by
  rw [maxAll_app, max_dots a [] fun p hp => (ha.2 p hp).1, ha.merge, max_new a [] ha.nd (fun _ _ q => nomatch q) fun p hp => by have := ha.2 p hp; omega]
  rfl
theorem filter_pairs (c : Int) (q : Pr → Bool) (l : List Int) : (pairsOf c l).filter q = pairsOf c (l.filter fun k => q (c, k)) := by
  unfold pairsOf; rw [List.filter_map]; rfl
theorem dots_pos : ∀ m : List Pr, dotsOf m = dotsOf (m.filter fun p => decide (0 < p.2))
  | [] => rfl
  | p :: m => by
    show pairsOf p.1 (rgI 1 (p.2 + 1)) ++ dotsOf m = _
    rw [dots_pos m, List.filter_cons]
    by_cases q : 0 < p.2
    · rw [if_pos (decide_eq_true q)]; rfl
    · rw [if_neg (by simpa using q), rgI_nil (by omega)]; rfl
theorem flat_congr {α β : Type} {f g : α → List β} : ∀ {l : List α}, (∀ x ∈ l, f x = g x) → l.flatMap f = l.flatMap g
  | [], _ => rfl
  | x :: l, h => by rw [List.flatMap_cons, List.flatMap_cons, h x List.mem_cons_self, flat_congr fun y hy => h y (List.mem_cons_of_mem _ hy)]
theorem common {a b : List Pr} (ha : Vec a) (hb : Vec b) : (dotsOf a).filter (fun d => decide (d ∈ dotsOf b)) = dotsOf (metOf a b) := by
  unfold metOf
  rw [← dots_pos]
  unfold dotsOf
  rw [List.filter_flatMap, List.flatMap_map]
  refine flat_congr fun p hp => ?_
  rw [filter_pairs]
  have e : (rgI 1 (p.2 + 1)).filter (fun k => decide ((p.1, k) ∈ dotsOf b)) = (rgI 1 (p.2 + 1)).filter (fun k => decide (k ≤ cnt b p.1)) := by
    apply List.filter_congr
    intro k hk
    rw [decide_eq_decide, mem_dots2 hb]
    have := (rgI_mem.mp hk).1
    exact ⟨fun h => h.2, fun h => ⟨this, h⟩⟩
  show pairsOf p.1 ((rgI 1 (p.2 + 1)).filter (fun k => decide ((p.1, k) ∈ dotsOf b))) = _
  rw [e, rgI_le _ _ _ _ rfl, show min (p.2 + 1) (cnt b p.1 + 1) = min p.2 (cnt b p.1) + 1 by omega]
theorem met_keys (a b : List Pr) : List.Sublist (ks (metOf a b)) (ks a) := by
  unfold metOf
  have h : List.Sublist (ks ((a.map fun p => (p.1, min p.2 (cnt b p.1))).filter fun p => decide (0 < p.2))) (ks (a.map fun p => (p.1, min p.2 (cnt b p.1)))) := List.filter_sublist.map _
  have e : ks (a.map fun p => (p.1, min p.2 (cnt b p.1))) = ks a := by unfold ks; rw [List.map_map]; rfl
  rw [e] at h
  exact h
theorem sort_id {v : List Pr} (h : (ks v).Pairwise (· < ·)) : sortI v = v := by
  unfold sortI
  apply List.mergeSort_of_pairwise
  rw [List.pairwise_map] at h
  exact h.imp fun {p q} h => decide_eq_true (.inl h)
theorem s_met {a b : List Pr} (ha : Vec a) (hb : Vec b) : sortI (maxAll [] ((dotsOf a).filter fun d => decide (d ∈ dotsOf b))) = metOf a b := by
  have hs : (ks (metOf a b)).Pairwise (· < ·) := List.Pairwise.sublist (met_keys a b) ha.sorted
  have hp : ∀ p ∈ metOf a b, 1 ≤ p.2 := fun p hp => by
    unfold metOf at hp
    have := of_decide_eq_true (List.mem_filter.mp hp).2
    omega
  rw [common ha hb, max_dots _ _ hp, max_new _ [] (lt_nodup hs) (fun _ _ q => nomatch q) fun p h => by have := hp p h; omega]
  exact sort_id hs
theorem s_cov {a b : List Pr} (ha : Vec a) (hb : Vec b) : decide ((dotsOf b).filter (fun d => !decide (d ∈ dotsOf a)) = []) = cov a b := by
  rw [Bool.eq_iff_iff, decide_eq_true_eq, List.filter_eq_nil_iff]
  unfold cov
  rw [List.all_eq_true]
  constructor
  · intro h p hp
    have := h p (mem_dots.mpr ⟨p, hp, rfl, (hb.2 p hp).1, Int.le_refl _⟩)
    have := (mem_dots2 ha).mp (by simpa using this)
    exact decide_eq_true this.2
  · intro h d hd
    obtain ⟨p, hp, e, h1, h2⟩ := mem_dots.mp hd
    have := of_decide_eq_true (h p hp)
    rw [e] at this
    simpa using (mem_dots2 ha).mpr ⟨h1, by omega⟩
theorem s_has {a : List Pr} (ha : Vec a) {d : Pr} (hd : 1 ≤ d.2) : decide (d.2 ≤ cnt a d.1) = decide (d ∈ dotsOf a) := by
  rw [decide_eq_decide, mem_dots2 ha]
  exact ⟨fun h => ⟨hd, h⟩, fun h => h.2⟩
theorem s_between {a b : List Pr} (ha : Vec a) (hb : Vec b) : betOf a b = (dotsOf b).filter fun d => !decide (d ∈ dotsOf a) := by
  unfold betOf
  conv => rhs; unfold dotsOf
  rw [List.filter_flatMap]
  refine flat_congr fun p hp => ?_
  rw [filter_pairs]
  have e : (rgI 1 (p.2 + 1)).filter (fun k => !decide ((p.1, k) ∈ dotsOf a)) = (rgI 1 (p.2 + 1)).filter (fun k => decide (cnt a p.1 < k)) := by
    apply List.filter_congr
    intro k hk
    have := (rgI_mem.mp hk).1
    rw [Bool.eq_iff_iff, Bool.not_eq_true', decide_eq_false_iff_not, decide_eq_true_eq, mem_dots2 ha]
    simp only
    omega
  show _ = pairsOf p.1 ((rgI 1 (p.2 + 1)).filter (fun k => !decide ((p.1, k) ∈ dotsOf a)))
  have := (ha.cntB p.1).1
  rw [e, rgI_gt _ _ _ _ rfl, show max 1 (cnt a p.1 + 1) = cnt a p.1 + 1 by omega]
theorem s_count {a : List Pr} (ha : Vec a) (c : Int) : cnt a c = (((dotsOf a).filter fun d => d.1 == c).length : Int) := by
  have main : ∀ v : List Pr, (∀ p ∈ v, 1 ≤ p.2) → cnt v c = (((dotsOf v).filter fun d => d.1 == c).length : Int) := by
    intro v
    induction v with
    | nil => intro _; rfl
    | cons p v ih =>
      intro h
      have ih := ih fun q hq => h q (List.mem_cons_of_mem _ hq)
      show cnt (p :: v) c = (((pairsOf p.1 (rgI 1 (p.2 + 1)) ++ dotsOf v).filter fun d => d.1 == c).length : Int)
      rw [List.filter_append, List.length_append, filter_pairs]
      have h1 := h p List.mem_cons_self
      unfold cnt at ih ⊢
      rw [List.filter_cons]
      by_cases q : (p.1 == c) = true
      · rw [if_pos q, List.map_cons, List.sum_cons, ih]
        have : (rgI 1 (p.2 + 1)).filter (fun k => (p.1, k).1 == c) = rgI 1 (p.2 + 1) := List.filter_eq_self.mpr fun _ _ => q
        rw [this]
        unfold pairsOf
        rw [List.length_map, rgI_len]
        omega
      · rw [if_neg q, ih]
        have : (rgI 1 (p.2 + 1)).filter (fun k => (p.1, k).1 == c) = [] := List.filter_eq_nil_iff.mpr fun _ _ => q
        rw [this]
        simp [pairsOf]
  exact main a fun p hp => (ha.2 p hp).1
theorem s_size {a : List Pr} (ha : Vec a) : (a.map (·.2)).sum = ((dotsOf a).length : Int) := by
  have main : ∀ v : List Pr, (∀ p ∈ v, 1 ≤ p.2) → (v.map (·.2)).sum = ((dotsOf v).length : Int) := by
    intro v
    induction v with
    | nil => intro _; rfl
    | cons p v ih =>
      intro h
      have ih := ih fun q hq => h q (List.mem_cons_of_mem _ hq)
      have h1 := h p List.mem_cons_self
      show ((p :: v).map (·.2)).sum = ((pairsOf p.1 (rgI 1 (p.2 + 1)) ++ dotsOf v).length : Int)
      rw [List.map_cons, List.sum_cons, List.length_append, ih]
      unfold pairsOf
      rw [List.length_map, rgI_len]
      omega
  exact main a fun p hp => (ha.2 p hp).1
end K00
namespace K00
open PySem PySem.Spec L2 MM

def turnB : StM := (sSeq (sPar 3 4 (mCons (mFnL m__law_drawn (mCons (mVar 1) mNil)) (mCons (mFnL m__law_drawn (mCons (mVar 1) mNil)) mNil)))
 (sSeq (sAsg (mTup (mCons (mFn m__law_dots (mCons (mVar 3) mNil)) (mCons (mFn m__law_dots (mCons (mVar 4) mNil)) mNil))) (gT 2 (gsCons (gN 5) (gsCons (gN 6) gsNil))))
 (sSeq (sIf (mOrT (mTest (mOp gNe (mFn m_joined (mCons (mVar 3) (mCons (mVar 4) mNil))) (mFn m__law_vector (mCons (mOp gAdd (mVar 5) (mVar 6)) mNil)))) (mOrT (mTest (mOp gNe (mFn m_met (mCons (mVar 3) (mCons (mVar 4) mNil))) (mFn m__law_vector (mCons (mComp [9] (mSeq (mVar 5)) (gN 9) (mTest (mOp (gIn false) (mVar 9) (mVar 6))) (mVar 9)) mNil)))) (mNotT (mTruth (mIsi ["tuple"] (mFn m_met (mCons (mVar 3) (mCons (mVar 4) mNil))))))))
 (sRet (mC (.bool false)))
 sNx)
 (sSeq (sAsg (mOp gEq (mComp [9] (mSeq (mVar 6)) (gN 9) (mTest (mOp (gIn true) (mVar 9) (mVar 5))) (mVar 9)) (mLst mNil)) (gN 7))
 (sSeq (sAsg (mOp gEq (mComp [9] (mSeq (mVar 5)) (gN 9) (mTest (mOp (gIn true) (mVar 9) (mVar 6))) (mVar 9)) (mLst mNil)) (gN 8))
 (sSeq (sIf (mOrT (mTest (mOp gNe (mFn m_covers (mCons (mVar 3) (mCons (mVar 4) mNil))) (mVar 7))) (mOrT (mTest (mOp gNe (mFn m_beside (mCons (mVar 3) (mCons (mVar 4) mNil))) (mAnd (mNot (mVar 7)) (mNot (mVar 8))))) (mNotT (mTruth (mIsi ["bool"] (mFn m_covers (mCons (mVar 3) (mCons (mVar 4) mNil))))))))
 (sRet (mC (.bool false)))
 sNx)
 (sSeq (sAsg (mTup (mCons (mFnL m__law_take (mCons (mVar 1) (mCons (mC (.int 6)) mNil))) (mCons (mOp gAdd (mC (.int 1)) (mFnL m__law_take (mCons (mVar 1) (mCons (mC (.int 6)) mNil)))) mNil))) (gN 9))
 (sSeq (sIf (mOrT (mTest (mOp gNe (mFn m_has (mCons (mVar 3) (mCons (mVar 9) mNil))) (mOp (gIn false) (mVar 9) (mVar 5)))) (mOrT (mTest (mOp gNe (mFn m_with_dot (mCons (mVar 3) (mCons (mVar 9) mNil))) (mFn m__law_vector (mCons (mOp gAdd (mVar 5) (mLst (mCons (mVar 9) mNil))) mNil)))) (mTest (mOp gNe (mFn m_count_of (mCons (mVar 3) (mCons (mOp gIdx (mVar 9) (mC (.int 0))) mNil))) (mCall gLen (mCons (mComp [10] (mSeq (mVar 5)) (gN 10) (mTest (mOp gEq (mOp gIdx (mVar 10) (mC (.int 0))) (mOp gIdx (mVar 9) (mC (.int 0))))) (mVar 10)) mNil))))))
 (sRet (mC (.bool false)))
 sNx)
 (sIf (mOrT (mTest (mOp gNe (mFn m_size_of (mCons (mVar 3) mNil)) (mCall gLen (mCons (mVar 5) mNil)))) (mOrT (mTest (mOp gNe (mFn m_dots_between (mCons (mVar 3) (mCons (mVar 4) mNil))) (mCall gTuple (mCons (mComp [10] (mSeq (mVar 6)) (gN 10) (mTest (mOp (gIn true) (mVar 10) (mVar 5))) (mVar 10)) mNil)))) (mNotT (mTruth (mIsi ["int"] (mFn m_size_of (mCons (mVar 3) mNil)))))))
 (sRet (mC (.bool false)))
 sNx)))))))))
theorem turn_eq (sc d tn s3 s4 s5 s6 s7 s8 s9 s10 : Slot) (h : DrawOK d) : ∃ d' s3' s4' s5' s6' s7' s8' s9', DrawOK d' ∧ turnB [sc, d, tn, s3, s4, s5, s6, s7, s8, s9, s10] = some (.nx, [sc, d', tn, s3', s4', s5', s6', s7', s8', s9', s10]) := by
  obtain ⟨a, d1, h1, va, e1⟩ := law_drawn_eq d h
  obtain ⟨b, d2, h2, vb, e2⟩ := law_drawn_eq d1 h1
  obtain ⟨x, d3, h3, x1, x2, e3⟩ := law_take_eq d2 6 h2 (by decide) (by decide)
  obtain ⟨y, d4, h4, y1, y2, e4⟩ := law_take_eq d3 6 h3 (by decide) (by decide)
  have la := va.len
  have lb := vb.len
  have da := dots_len va.b
  have db := dots_len vb.b
  obtain ⟨c0, i0, r0, w0, b0, rfl⟩ := id h
  obtain ⟨c1, i1, r1, w1, b1, rfl⟩ := id h1
  obtain ⟨c2, i2, r2, w2, b2, rfl⟩ := id h2
  obtain ⟨c3, i3, r3, w3, b3, rfl⟩ := id h3
  refine ⟨d4, .p (vD a), .p (vD b), .p (.list ((dotsOf a).map prI)), .p (.list ((dotsOf b).map prI)), .p (.bool (cov a b)), .p (.bool (cov b a)), .p (prI (x, 1 + y)), h4, ?_⟩
  unfold turnB
  unfold drS at *
  refine seq_nx (e := [sc, .l ((drD c2 i2 r2 w2).map .p), tn, .p (vD a), .p (vD b), s5, s6, s7, s8, s9, s10]) (by simp [-List.map_map, -List.map_append, -List.filter_eq_nil_iff, e1, e2]) ?_
  refine seq_nx (e := [sc, .l ((drD c2 i2 r2 w2).map .p), tn, .p (vD a), .p (vD b), .p (.list ((dotsOf a).map prI)), .p (.list ((dotsOf b).map prI)), s7, s8, s9, s10]) (by simp [-List.map_map, -List.map_append, -List.filter_eq_nil_iff, law_dots_eq a va.b, law_dots_eq b vb.b, gT, gsCons, gsNil]) ?_
  generalize hda : dotsOf a = A at *
  generalize hdb : dotsOf b = B at *
  have hc1 := compM_run (own := [9]) (tg := (gN 9)) (mt := (mTest (mOp (gIn false) (mVar 9) (mVar 6)))) (me := (mVar 9)) prI (fun z => decide (z ∈ B)) prI [sc, .l ((drD c2 i2 r2 w2).map .p), tn, .p (vD a), .p (vD b), .p (.list (A.map prI)), .p (.list (B.map prI)), s7, s8, .un, s10] A [] (fun z hz =>
    ⟨[sc, .l ((drD c2 i2 r2 w2).map .p), tn, .p (vD a), .p (vD b), .p (.list (A.map prI)), .p (.list (B.map prI)), s7, s8, .p (prI z), s10], [sc, .l ((drD c2 i2 r2 w2).map .p), tn, .p (vD a), .p (vD b), .p (.list (A.map prI)), .p (.list (B.map prI)), s7, s8, .p (prI z), s10], rfl, by simp [-List.map_map, -List.map_append, -List.filter_eq_nil_iff], fun _ => rfl, fun _ => ⟨_, _, rfl, rfl, rfl⟩⟩)
  have lA : A.length ≤ 1000000 := by omega
  have lB : B.length ≤ 1000000 := by omega
  have lf1 : (A.filter fun z => decide (z ∈ B)).length ≤ 400000 := Nat.le_trans (List.length_filter_le _ _) (by omega)
  have hj := s_joined va vb
  have hm := s_met va vb
  rw [hda, hdb] at hj hm
  refine seq_nx (if_no (or_no (e := [sc, .l ((drD c2 i2 r2 w2).map .p), tn, .p (vD a), .p (vD b), .p (.list (A.map prI)), .p (.list (B.map prI)), s7, s8, s9, s10]) ?_ (or_no (e := [sc, .l ((drD c2 i2 r2 w2).map .p), tn, .p (vD a), .p (vD b), .p (.list (A.map prI)), .p (.list (B.map prI)), s7, s8, s9, s10]) ?_ (e2 := [sc, .l ((drD c2 i2 r2 w2).map .p), tn, .p (vD a), .p (vD b), .p (.list (A.map prI)), .p (.list (B.map prI)), s7, s8, s9, s10]) ?_))) ?_
  · simp [-List.map_map, -List.map_append, -List.filter_eq_nil_iff, joined_eq a b (by omega) (by omega), gAdd_lst A B (by omega), law_vector_eq (A ++ B) (by rw [List.length_append]; omega), hj]
  · simp [-List.map_map, -List.map_append, -List.filter_eq_nil_iff, met_eq a b (by omega) (by omega), lA, hc1, law_vector_eq _ lf1, hm]
  · simp [-List.map_map, -List.map_append, -List.filter_eq_nil_iff, met_eq a b (by omega) (by omega)]
  have hc2 := compM_run (own := [9]) (tg := (gN 9)) (mt := (mTest (mOp (gIn true) (mVar 9) (mVar 5)))) (me := (mVar 9)) prI (fun z => !decide (z ∈ A)) prI [sc, .l ((drD c2 i2 r2 w2).map .p), tn, .p (vD a), .p (vD b), .p (.list (A.map prI)), .p (.list (B.map prI)), s7, s8, .un, s10] B [] (fun z hz =>
    ⟨[sc, .l ((drD c2 i2 r2 w2).map .p), tn, .p (vD a), .p (vD b), .p (.list (A.map prI)), .p (.list (B.map prI)), s7, s8, .p (prI z), s10], [sc, .l ((drD c2 i2 r2 w2).map .p), tn, .p (vD a), .p (vD b), .p (.list (A.map prI)), .p (.list (B.map prI)), s7, s8, .p (prI z), s10], rfl, by simp [-List.map_map, -List.map_append, -List.filter_eq_nil_iff], fun _ => rfl, fun _ => ⟨_, _, rfl, rfl, rfl⟩⟩)
  have hcov1 := s_cov va vb
  have hcov2 := s_cov vb va
  rw [hda, hdb] at hcov1 hcov2
  have gE : ∀ X : List Pr, gEq (.list (X.map prI)) (.list []) = some (.p (.bool (decide (X = [])))) := fun X => gEq_lD X []
  refine seq_nx (e := [sc, .l ((drD c2 i2 r2 w2).map .p), tn, .p (vD a), .p (vD b), .p (.list (A.map prI)), .p (.list (B.map prI)), .p (.bool (cov a b)), s8, s9, s10]) ?_ ?_
  · rw [← hcov1]
    simp [-List.map_map, -List.map_append, -List.filter_eq_nil_iff, lB, hc2, gE]
  refine seq_nx (e := [sc, .l ((drD c2 i2 r2 w2).map .p), tn, .p (vD a), .p (vD b), .p (.list (A.map prI)), .p (.list (B.map prI)), .p (.bool (cov a b)), .p (.bool (cov b a)), s9, s10]) ?_ ?_
  · have hc3 := compM_run (own := [9]) (tg := (gN 9)) (mt := (mTest (mOp (gIn true) (mVar 9) (mVar 6)))) (me := (mVar 9)) prI (fun z => !decide (z ∈ B)) prI [sc, .l ((drD c2 i2 r2 w2).map .p), tn, .p (vD a), .p (vD b), .p (.list (A.map prI)), .p (.list (B.map prI)), .p (.bool (cov a b)), s8, .un, s10] A [] (fun z hz =>
      ⟨[sc, .l ((drD c2 i2 r2 w2).map .p), tn, .p (vD a), .p (vD b), .p (.list (A.map prI)), .p (.list (B.map prI)), .p (.bool (cov a b)), s8, .p (prI z), s10], [sc, .l ((drD c2 i2 r2 w2).map .p), tn, .p (vD a), .p (vD b), .p (.list (A.map prI)), .p (.list (B.map prI)), .p (.bool (cov a b)), s8, .p (prI z), s10], rfl, by simp [-List.map_map, -List.map_append, -List.filter_eq_nil_iff], fun _ => rfl, fun _ => ⟨_, _, rfl, rfl, rfl⟩⟩)
    rw [← hcov2]
    simp [-List.map_map, -List.map_append, -List.filter_eq_nil_iff, lA, hc3, gE]
  generalize hE : [sc, Slot.l ((drD c2 i2 r2 w2).map .p), tn, .p (vD a), .p (vD b), .p (.list (A.map prI)), .p (.list (B.map prI)), .p (.bool (cov a b)), .p (.bool (cov b a)), s9, s10] = E
  refine seq_nx (if_no (or_no (e := E) ?_ (or_no (e := E) ?_ (e2 := E) ?_))) ?_
  · subst hE; simp [-List.map_map, -List.map_append, -List.filter_eq_nil_iff, covers_eq a b (by omega) (by omega)]
  · subst hE; cases hx : cov a b <;> simp [-List.map_map, -List.map_append, -List.filter_eq_nil_iff, beside_eq a b (by omega) (by omega), hx]
  · subst hE; simp [-List.map_map, -List.map_append, -List.filter_eq_nil_iff, covers_eq a b (by omega) (by omega)]
  subst hE
  refine seq_nx (e := [sc, d4, tn, .p (vD a), .p (vD b), .p (.list (A.map prI)), .p (.list (B.map prI)), .p (.bool (cov a b)), .p (.bool (cov b a)), .p (prI (x, 1 + y)), s10]) ?_ ?_
  · simp [-List.map_map, -List.map_append, -List.filter_eq_nil_iff, e3, e4, prI]
  have hw := s_with va (x, 1 + y)
  have hh := s_has va (d := (x, 1 + y)) (by show 1 ≤ 1 + y; omega)
  have hct := s_count va x
  have hsz := s_size va
  have hbt := s_between va vb
  rw [hda] at hw hh hct hsz
  rw [hda, hdb] at hbt
  generalize hE : [sc, d4, tn, Slot.p (vD a), .p (vD b), .p (.list (A.map prI)), .p (.list (B.map prI)), .p (.bool (cov a b)), .p (.bool (cov b a)), .p (prI (x, 1 + y)), s10] = E
  refine seq_nx (if_no (or_no (e := E) ?_ (or_no (e := E) ?_ (e2 := E) ?_))) ?_
  · subst hE
    have hh : decide (1 + y ≤ cnt a x) = decide ((x, 1 + y) ∈ A) := hh
    have e := has_eq a (x, 1 + y) (show a.length ≤ 1000000 by omega)
    have e : m_has [.p (vD a), .p (prI (x, 1 + y))] = some (.ok (.p (.bool (decide (1 + y ≤ cnt a x)))), [.p (vD a), .p (prI (x, 1 + y))]) := e
    rw [hh] at e
    simp [-List.map_map, -List.map_append, -List.filter_eq_nil_iff, e]
  · subst hE
    have e := with_dot_eq a (x, 1 + y) (show a.length ≤ 400000 by omega)
    rw [hw] at e
    have e2 := law_vector_eq (A ++ [(x, 1 + y)]) (by rw [List.length_append]; show A.length + 1 ≤ 400000; omega)
    have e3 : gAdd (.list (A.map prI)) (.list [prI (x, 1 + y)]) = some (.l (((A ++ [(x, 1 + y)]).map prI).map .p)) := gAdd_lst A [(x, 1 + y)] (by show A.length + 1 ≤ 1000000; omega)
    simp [-List.map_map, -List.map_append, -List.filter_eq_nil_iff, e, e2, e3]
  · subst hE
    have hc4 := compM_run (own := [10]) (tg := (gN 10)) (mt := (mTest (mOp gEq (mOp gIdx (mVar 10) (mC (.int 0))) (mOp gIdx (mVar 9) (mC (.int 0)))))) (me := (mVar 10)) prI (fun z => z.1 == x) prI [sc, d4, tn, .p (vD a), .p (vD b), .p (.list (A.map prI)), .p (.list (B.map prI)), .p (.bool (cov a b)), .p (.bool (cov b a)), .p (prI (x, 1 + y)), .un] A [] (fun z hz =>
      ⟨[sc, d4, tn, .p (vD a), .p (vD b), .p (.list (A.map prI)), .p (.list (B.map prI)), .p (.bool (cov a b)), .p (.bool (cov b a)), .p (prI (x, 1 + y)), .p (prI z)], [sc, d4, tn, .p (vD a), .p (vD b), .p (.list (A.map prI)), .p (.list (B.map prI)), .p (.bool (cov a b)), .p (.bool (cov b a)), .p (prI (x, 1 + y)), .p (prI z)], rfl, by simp [-List.map_map, -List.map_append, -List.filter_eq_nil_iff], fun _ => rfl, fun _ => ⟨_, _, rfl, rfl, rfl⟩⟩)
    simp [-List.map_map, -List.map_append, -List.filter_eq_nil_iff, count_of_eq a x (show a.length ≤ 1000000 by omega), lA, hc4, hct]
  refine if_no (or_no (e := E) ?_ (or_no (e := E) ?_ (e2 := E) ?_))
  · subst hE; simp [-List.map_map, -List.map_append, -List.filter_eq_nil_iff, size_of_eq a (show a.length ≤ 1000000 by omega), hsz]
  · subst hE
    have hc4 := compM_run (own := [10]) (tg := (gN 10)) (mt := (mTest (mOp (gIn true) (mVar 10) (mVar 5)))) (me := (mVar 10)) prI (fun z => !decide (z ∈ A)) prI [sc, d4, tn, .p (vD a), .p (vD b), .p (.list (A.map prI)), .p (.list (B.map prI)), .p (.bool (cov a b)), .p (.bool (cov b a)), .p (prI (x, 1 + y)), .un] B [] (fun z hz =>
      ⟨[sc, d4, tn, .p (vD a), .p (vD b), .p (.list (A.map prI)), .p (.list (B.map prI)), .p (.bool (cov a b)), .p (.bool (cov b a)), .p (prI (x, 1 + y)), .p (prI z)], [sc, d4, tn, .p (vD a), .p (vD b), .p (.list (A.map prI)), .p (.list (B.map prI)), .p (.bool (cov a b)), .p (.bool (cov b a)), .p (prI (x, 1 + y)), .p (prI z)], rfl, by simp [-List.map_map, -List.map_append, -List.filter_eq_nil_iff], fun _ => rfl, fun _ => ⟨_, _, rfl, rfl, rfl⟩⟩)
    have eT : ∀ X : List Pr, gNe (vD X) (.tuple (X.map prI)) = some (.p (.bool false)) := fun X => by
      have := gNe_vD X X
      rw [decide_eq_true rfl] at this
      exact this
    simp [-List.map_map, -List.map_append, -List.filter_eq_nil_iff, dots_between_eq a b va.b va.cntB vb.b, lB, hc4, hbt, eT]
  · subst hE; simp [-List.map_map, -List.map_append, -List.filter_eq_nil_iff, size_of_eq a (show a.length ≤ 1000000 by omega)]
theorem law_eq (ns : List Int) (hn : ns.length ≤ 63) : ∃ ss', m_law [.p (.list (ns.map .int))] = some (.ok (.p (.bool true)), ss') := by
  obtain ⟨d, hd, e0⟩ := law_draw_eq ns (by omega)
  obtain ⟨E', h1, h2⟩ := forM_inv (tg := (gN 2)) (mb := turnB) PyData.int
    (fun done E => ∃ d tn s3 s4 s5 s6 s7 s8 s9 s10, DrawOK d ∧ E = [.p (.list (ns.map .int)), d, tn, s3, s4, s5, s6, s7, s8, s9, s10]) [0, 1, 2, 3] (fun done x rest E e h => by
      obtain ⟨d, tn, s3, s4, s5, s6, s7, s8, s9, s10, hd, rfl⟩ := h
      obtain ⟨d', s3', s4', s5', s6', s7', s8', s9', hd', e'⟩ := turn_eq (.p (.list (ns.map .int))) d (.p (.int x)) s3 s4 s5 s6 s7 s8 s9 s10 hd
      exact ⟨_, _, .nx, rfl, e', .inl rfl, d', .p (.int x), s3', s4', s5', s6', s7', s8', s9', s10, hd', rfl⟩)
    [.p (.list (ns.map .int)), d, .un, .un, .un, .un, .un, .un, .un, .un, .un] ⟨_, _, _, _, _, _, _, _, _, _, hd, rfl⟩
  obtain ⟨d', tn, s3, s4, s5, s6, s7, s8, s9, s10, hd', rfl⟩ := h2
  obtain ⟨c0, i0, r0, w0, b0, rfl⟩ := id hd
  refine ⟨_, fn_rt (e := [.p (.list (ns.map .int)), d', tn, s3, s4, s5, s6, s7, s8, s9, s10]) rfl ?_⟩
  show mb_law [.p (.list (ns.map .int)), .un, .un, .un, .un, .un, .un, .un, .un, .un, .un] = _
  show sSeq (sAsg (mFn m__law_draw (mCons (mVar 0) mNil)) (gN 1)) (sSeq (sFor (mRng rng1 (mCons (mC (.int 4)) mNil)) (gN 2) turnB) _) _ = _
  refine seq_nx (e := [.p (.list (ns.map .int)), drS c0 i0 r0 w0, .un, .un, .un, .un, .un, .un, .un, .un, .un]) (by simp [-List.map_map, -List.map_append, -List.filter_eq_nil_iff, e0]) ?_
  refine seq_nx (e := [.p (.list (ns.map .int)), d', tn, s3, s4, s5, s6, s7, s8, s9, s10]) ?_ ?_
  · have e4 : (rgI 0 4).map PyData.int = [0, 1, 2, 3].map PyData.int := by
      have : rgI 0 4 = [0, 1, 2, 3] := by decide
      rw [this]
    rw [sFor_run, bndS_run]
    simp [-List.map_map, -List.map_append, -List.filter_eq_nil_iff, rng1_run (j := 4) (by decide) (by decide), -List.map_cons, -List.map_nil, e4]
    exact h1
  · have j := joined_eq [] [] (by decide) (by decide)
    have es : sortI (maxAll (mergeI [] []) []) = [] := by simp [-List.map_map, -List.map_append, -List.filter_eq_nil_iff, sortI, maxAll, mergeI]
    rw [es] at j
    have j : m_joined [.p (.tuple []), .p (.tuple [])] = some (.ok (.p (.tuple [])), [.p (.tuple []), .p (.tuple [])]) := j
    have c : m_covers [.p (.tuple []), .p (.tuple [])] = some (.ok (.p (.bool true)), [.p (.tuple []), .p (.tuple [])]) := covers_eq [] [] (by decide) (by decide)
    have b : m_beside [.p (.tuple []), .p (.tuple [])] = some (.ok (.p (.bool false)), [.p (.tuple []), .p (.tuple [])]) := beside_eq [] [] (by decide) (by decide)
    have g : gEq (.tuple []) (.tuple []) = some (.p (.bool true)) := rfl
    simp [-List.map_map, -List.map_append, -List.filter_eq_nil_iff, j, c, b, g]
end K00
theorem K00.law_fn {l : PySem.W.OpenLaw} {w : PySem.World} {K : PySem.W.Frag} {mg : PySem.Str → Option PySem.Value} (T : K00.Tp K mg) (base : PySem.Heap) : L2.FnOk l.prog w K mg base (L2.CX l.prog w) 4 T.law.f T.law.fd ["script"] (MM.spLaw K) := by
  have h := K00.ok_law (P := l.prog) (w := w) (base := base) T 0
  exact (h.mono (by decide)).imp (MM.law_promise K00.law_eq)
open PySem PySem.W PyProof.Rows in
set_option maxHeartbeats 0 in
theorem PySem.Challenge.cw_meetsagain_k00_vectors_of_dots_holds : PySem.Challenge.rw_meetsagain_k00_vectors_of_dots.Holds := by
  w_on; o_law; k_head; (case hw => w_witness2)
  k_fill
  refine L2.walk_of (l := PySem.Challenge.rw_meetsagain_k00_vectors_of_dots) (n := 63) (k := 4) (x := "script") (CX := fun w => L2.CX PySem.Challenge.rw_meetsagain_k00_vectors_of_dots.prog w) (sp := fun w => MM.spLaw _) rfl (by decide) rfl ⟨rfl, by decide, by decide⟩ (fun w h Y => PySem.W.kIn_of Y) ?F (fun _ _ a ns hl _ hS => ⟨a, ns, rfl, hS, hl, fun _ => rfl⟩) (fun _ _ _ _ _ h => MM.cx_none h)
  case F =>
    intro w mg fa h KX G hmg
    have h__law_draw := MM.fnH_mk (x := "_law_draw") (st := K00.topS 11) (ps := ["script"]) KX G (by k_is) (by k_is) (by k_is) (by k_is) (fun _ _ _ _ _ _ us hl => match us, hl with | [_], _ => rfl)
    have h_count_of := MM.fnH_mk (x := "count_of") (st := K00.topS 1) (ps := ["vector", "copy"]) KX G (by k_is) (by k_is) (by k_is) (by k_is) (fun _ _ _ _ _ _ us hl => match us, hl with | [_, _], _ => rfl)
    have h_covers := MM.fnH_mk (x := "covers") (st := K00.topS 5) (ps := ["one", "other"]) KX G (by k_is) (by k_is) (by k_is) (by k_is) (fun _ _ _ _ _ _ us hl => match us, hl with | [_, _], _ => rfl)
    have h__law_take := MM.fnH_mk (x := "_law_take") (st := K00.topS 12) (ps := ["draw", "many"]) KX G (by k_is) (by k_is) (by k_is) (by k_is) (fun _ _ _ _ _ _ us hl => match us, hl with | [_, _], _ => rfl)
    have h__law_drawn := MM.fnH_mk (x := "_law_drawn") (st := K00.topS 13) (ps := ["draw"]) KX G (by k_is) (by k_is) (by k_is) (by k_is) (fun _ _ _ _ _ _ us hl => match us, hl with | [_], _ => rfl)
    have h__law_dots := MM.fnH_mk (x := "_law_dots") (st := K00.topS 14) (ps := ["vector"]) KX G (by k_is) (by k_is) (by k_is) (by k_is) (fun _ _ _ _ _ _ us hl => match us, hl with | [_], _ => rfl)
    have h_joined := MM.fnH_mk (x := "joined") (st := K00.topS 3) (ps := ["one", "other"]) KX G (by k_is) (by k_is) (by k_is) (by k_is) (fun _ _ _ _ _ _ us hl => match us, hl with | [_, _], _ => rfl)
    have h_beside := MM.fnH_mk (x := "beside") (st := K00.topS 6) (ps := ["one", "other"]) KX G (by k_is) (by k_is) (by k_is) (by k_is) (fun _ _ _ _ _ _ us hl => match us, hl with | [_, _], _ => rfl)
    have h__law_vector := MM.fnH_mk (x := "_law_vector") (st := K00.topS 15) (ps := ["dots"]) KX G (by k_is) (by k_is) (by k_is) (by k_is) (fun _ _ _ _ _ _ us hl => match us, hl with | [_], _ => rfl)
    have h_met := MM.fnH_mk (x := "met") (st := K00.topS 4) (ps := ["one", "other"]) KX G (by k_is) (by k_is) (by k_is) (by k_is) (fun _ _ _ _ _ _ us hl => match us, hl with | [_, _], _ => rfl)
    have h_has := MM.fnH_mk (x := "has") (st := K00.topS 2) (ps := ["vector", "dot"]) KX G (by k_is) (by k_is) (by k_is) (by k_is) (fun _ _ _ _ _ _ us hl => match us, hl with | [_, _], _ => rfl)
    have h_with_dot := MM.fnH_mk (x := "with_dot") (st := K00.topS 7) (ps := ["vector", "dot"]) KX G (by k_is) (by k_is) (by k_is) (by k_is) (fun _ _ _ _ _ _ us hl => match us, hl with | [_, _], _ => rfl)
    have h_size_of := MM.fnH_mk (x := "size_of") (st := K00.topS 8) (ps := ["vector"]) KX G (by k_is) (by k_is) (by k_is) (by k_is) (fun _ _ _ _ _ _ us hl => match us, hl with | [_], _ => rfl)
    have h_dots_between := MM.fnH_mk (x := "dots_between") (st := K00.topS 9) (ps := ["one", "other"]) KX G (by k_is) (by k_is) (by k_is) (by k_is) (fun _ _ _ _ _ _ us hl => match us, hl with | [_, _], _ => rfl)
    have z_abs : mg "abs" = none := PySem.W.mg_none_of KX G (by k_is)
    have z_all : mg "all" = none := PySem.W.mg_none_of KX G (by k_is)
    have z_bool : mg "bool" = none := PySem.W.mg_none_of KX G (by k_is)
    have z_dict : mg "dict" = none := PySem.W.mg_none_of KX G (by k_is)
    have z_int : mg "int" = none := PySem.W.mg_none_of KX G (by k_is)
    have z_isinstance : mg "isinstance" = none := PySem.W.mg_none_of KX G (by k_is)
    have z_len : mg "len" = none := PySem.W.mg_none_of KX G (by k_is)
    have z_max : mg "max" = none := PySem.W.mg_none_of KX G (by k_is)
    have z_min : mg "min" = none := PySem.W.mg_none_of KX G (by k_is)
    have z_range : mg "range" = none := PySem.W.mg_none_of KX G (by k_is)
    have z_sorted : mg "sorted" = none := PySem.W.mg_none_of KX G (by k_is)
    have z_sum : mg "sum" = none := PySem.W.mg_none_of KX G (by k_is)
    have z_tuple : mg "tuple" = none := PySem.W.mg_none_of KX G (by k_is)
    refine' MM.law_end (st := K00.topS 16) hmg KX G ?a ?l ?c ?k (fun _ _ _ _ _ _ us hl => match us, hl with | [_], _ => rfl) (fun H base => K00.law_fn ⟨h__law_draw, h_count_of, h_covers, h__law_take, h__law_drawn, h__law_dots, h_joined, h_beside, h__law_vector, h_met, h_has, h_with_dot, h_size_of, h_dots_between, H, z_abs, z_all, z_bool, z_dict, z_int, z_isinstance, z_len, z_max, z_min, z_range, z_sorted, z_sum, z_tuple⟩ base)
    (case a => k_is); (case l => k_is); (case c => k_is); (case k => k_is)
