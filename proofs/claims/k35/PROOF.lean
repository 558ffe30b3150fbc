import PyProof.Rows.All
import Wide.All
import OpenK.AllK
import Wide.FinOn
import HandS.ForMost
import HandS.ForExc
import HandS.EndBits
import HandS.Text
import HandS.TupAny
import HandS.TupMul
import HandS.Wide
import HandS.WideBits
import HandS.IsInst
import HandS.Deep
import HandS.Replace
import HandS.RaiseMore
import HandS.SortInts
import PyProof.ReprRoads
import PyProof.EqAt
import PyProof.EqKinds
import PyProof.TupleCall
import Open.SpecLaws
import KE.OsGo
import HandS.ForSpec
import HandS.Style
import PySem.Challenge.RW_boundcode_k35_whole_any_text_as_inputs
set_option Elab.async false
set_option linter.all false
set_option maxRecDepth 100000
set_option
      maxHeartbeats 4000000
/-! Plain data over the hand layer: what a slot holds, told as data; lists owned by one slot alone. -/
namespace PD
open PySem L2

/-- the contents of an object that one slot alone holds -/
inductive MO where
  | lst (ds : List PyData)
/-- what is known of a slot: nothing; a value that nobody changes any more; an object of its own; an object handed in to be changed -/
inductive Sl where
  | un
  | val (d : PyData)
  | own (m : MO)
  | io (j : Nat) (m : MO)

def KL (K : PySem.W.Frag) (a : Addr) (xs : List V) : Prop :=
  ∃ (o : Obj) (its : Array Value) (n :
        Nat), K.lookup a = some o ∧ o.cls = .type "list" ∧ o.dict = none ∧ o.data = .seq its n ∧ its.size ≤ sizeLine ∧ Vals xs its.toList
def KT (K : PySem.W.Frag) (a : Addr) (xs : List V) : Prop :=
  ∃ (o : Obj) (its : Array Value) (n :
        Nat), K.lookup a = some o ∧ o.cls = .type "tuple" ∧ o.data = .seq its n ∧ its.size ≤ sizeLine ∧ Vals xs its.toList

mutual
def Rp (K : PySem.W.Frag) (H : Hp) (own : Addr → Prop) : PyData → V → Prop
  | .none, v => v = .non
  | .bool b, v => v = .bl b
  | .int i, v => v = .int i
  | .str x, v => v = .str x
  | .list ds, v => ∃ a xs, v = .ref a ∧ ((Rd H a (.lst xs) ∧ ¬ own a) ∨ KL K a xs) ∧ RpL K H own ds xs
  | .tuple ds, v => ∃ a xs, v = .ref a ∧ ((Rd H a (.tup xs) ∧ ¬ own a) ∨ KT K a xs) ∧ RpL K H own ds xs
  | .dict _, v => ∃ a kvs, v = .ref a ∧ Rd H a (.dK kvs) ∧ ¬ own a
def RpL (K : PySem.W.Frag) (H : Hp) (own : Addr → Prop) : List PyData → List V → Prop
  | [], xs => xs = []
  | d :: ds, xs => ∃ x r, xs = x :: r ∧ Rp K H own d x ∧ RpL K H own ds r
end

section
variable {K : PySem.W.Frag} {H H' : Hp} {own own' : Addr → Prop}
theorem rd_keep {a : Addr} {u : HO} (k : ∀ b o, H b = some o → ¬ own b → H' b = some o ∧ ¬ own' b) (h : Rd H a u ∧ ¬ own a) : Rd H' a u ∧ ¬ own' a := by
  obtain ⟨h | ⟨o, h⟩, n⟩ := h
  · exact ⟨.inl (k _ _ h n).1, (k _ _ h n).2⟩
  · exact ⟨.inr ⟨o, (k _ _ h n).1⟩, (k _ _ h n).2⟩
mutual
theorem Rp.keep (k : ∀ b o, H b = some o → ¬ own b → H' b = some o ∧ ¬ own' b) : ∀ {d : PyData} {v : V}, Rp K H own d v → Rp K H' own' d v
  | .none, v, h => by simp only [Rp] at h ⊢; exact h
  | .bool b, v, h => by simp only [Rp] at h ⊢; exact h
  | .int i, v, h => by simp only [Rp] at h ⊢; exact h
  | .str x, v, h => by simp only [Rp] at h ⊢; exact h
  | .list ds, v, h => by
    simp only [Rp] at h ⊢
    obtain ⟨a, xs, e, h1, h2⟩ := h
    exact ⟨a, xs, e, h1.imp (rd_keep k) id, RpL.keep k h2⟩
  | .tuple ds, v, h => by
    simp only [Rp] at h ⊢
    obtain ⟨a, xs, e, h1, h2⟩ := h
    exact ⟨a, xs, e, h1.imp (rd_keep k) id, RpL.keep k h2⟩
  | .dict _, v, h => by
    simp only [Rp] at h ⊢
    obtain ⟨a, kvs, e, h1⟩ := h
    exact ⟨a, kvs, e, (rd_keep k h1).1, (rd_keep k h1).2⟩
theorem RpL.keep (k : ∀ b o, H b = some o → ¬ own b → H' b = some o ∧ ¬ own' b) : ∀ {ds : List PyData} {xs : List V}, RpL K H own ds xs → RpL K H' own' ds xs
  | [], xs, h => by simp only [RpL] at h ⊢; exact h
  | d :: ds, xs, h => by
    simp only [RpL] at h ⊢
    obtain ⟨x, r, e, h1, h2⟩ := h
    exact ⟨x, r, e, Rp.keep k h1, RpL.keep k h2⟩
end
mutual
theorem Rp.dp : ∀ {d : PyData} {v : V}, d.hasDict = false → Rp K H own d v → Dp K H v d
  | .none, v, _, h => by simp only [Rp] at h; subst h; exact .non
  | .bool b, v, _, h => by simp only [Rp] at h; subst h; exact .bl b
  | .int i, v, _, h => by simp only [Rp] at h; subst h; exact .int i
  | .str x, v, _, h => by simp only [Rp] at h; subst h; exact .str x
  | .list ds, v, q, h => by
    simp only [Rp] at h
    simp only [PyData.hasDict] at q
    obtain ⟨a, xs, rfl, h1, h2⟩ := h
    exact .lst (h1.imp (fun q => q.1) id) (RpL.dp q h2)
  | .tuple ds, v, q, h => by
    simp only [Rp] at h
    simp only [PyData.hasDict] at q
    obtain ⟨a, xs, rfl, h1, h2⟩ := h
    exact .tup (h1.imp (fun q => q.1) id) (RpL.dp q h2)
  | .dict _, v, q, h => by simp [PyData.hasDict] at q
theorem RpL.dp : ∀ {ds : List PyData} {xs : List V}, PyData.hasDictAll ds = false → RpL K H own ds xs → DpAll K H xs ds
  | [], xs, _, h => by simp only [RpL] at h; subst h; exact .nil
  | d :: ds, xs, q, h => by
    simp only [RpL] at h
    simp only [PyData.hasDictAll, Bool.or_eq_false_iff] at q
    obtain ⟨x, r, rfl, h1, h2⟩ := h
    exact .cons (Rp.dp q.1 h1) (RpL.dp q.2 h2)
end
theorem RpL.len : ∀ {ds : List PyData} {xs : List V}, RpL K H own ds xs → xs.length = ds.length
  | [], xs, h => by simp only [RpL] at h; subst h; rfl
  | d :: ds, xs, h => by
    simp only [RpL] at h
    obtain ⟨x, r, rfl, h1, h2⟩ := h
    simp [RpL.len h2]
theorem RpL.get : ∀ {ds : List PyData} {xs : List V} {i : Nat} {d : PyData}, RpL K H own ds xs → ds[i]? = some d → ∃ v, xs[i]? = some v ∧ Rp K H own d v
  | [], xs, i, d, h, e => by simp at e
  | d :: ds, xs, 0, d', h, e => by
    simp only [RpL] at h
    obtain ⟨x, r, rfl, h1, h2⟩ := h
    simp at e; subst e
    exact ⟨x, rfl, h1⟩
  | d :: ds, xs, i + 1, d', h, e => by
    simp only [RpL] at h
    obtain ⟨x, r, rfl, h1, h2⟩ := h
    obtain ⟨v, q1, q2⟩ := RpL.get (i := i) h2 (by simpa using e)
    exact ⟨v, by simpa using q1, q2⟩
theorem RpL.getV : ∀ {ds : List PyData} {xs : List V} {i : Nat} {v : V}, RpL K H own ds xs → xs[i]? = some v → ∃ d, ds[i]? = some d ∧ Rp K H own d v := by
  intro ds xs i v h e
  have hl := h.len
  have hi : i < ds.length := by rw [← hl]; exact (List.getElem?_eq_some_iff.mp e).1
  obtain ⟨v', e', r⟩ := h.get (i := i) (d := ds[i]) (List.getElem?_eq_getElem hi)
  rw [e] at e'; cases e'
  exact ⟨_, List.getElem?_eq_getElem hi, r⟩
theorem RpL.nil : RpL K H own [] [] := by simp only [RpL]
theorem RpL.cons {d : PyData} {ds : List PyData} {x : V} {xs : List V} (h1 : Rp K H own d x) (h2 : RpL K H own ds xs) : RpL K H own (d :: ds) (x :: xs) := by
  simp only [RpL]; exact ⟨x, xs, rfl, h1, h2⟩
theorem RpL.append : ∀ {ds es : List PyData} {xs ys : List V}, RpL K H own ds xs → RpL K H own es ys → RpL K H own (ds ++ es) (xs ++ ys)
  | [], es, xs, ys, h1, h2 => by simp only [RpL] at h1; subst h1; exact h2
  | d :: ds, es, xs, ys, h1, h2 => by
    simp only [RpL] at h1
    obtain ⟨x, r, rfl, q1, q2⟩ := h1
    exact RpL.cons q1 (RpL.append q2 h2)
theorem RpL.take (n : Nat) : ∀ {ds : List PyData} {xs : List V}, RpL K H own ds xs → RpL K H own (ds.take n) (xs.take n) := by
  induction n with
  | zero => intro ds xs h; simp only [List.take_zero]; exact .nil
  | succ n ih =>
    intro ds xs h
    cases ds with
    | nil => simp only [RpL] at h; subst h; simp only [List.take_nil]; exact .nil
    | cons d ds =>
      simp only [RpL] at h
      obtain ⟨x, r, rfl, q1, q2⟩ := h
      exact RpL.cons q1 (ih q2)
theorem RpL.drop (n : Nat) : ∀ {ds : List PyData} {xs : List V}, RpL K H own ds xs → RpL K H own (ds.drop n) (xs.drop n) := by
  induction n with
  | zero => intro ds xs h; exact h
  | succ n ih =>
    intro ds xs h
    cases ds with
    | nil => simp only [RpL] at h; subst h; simp only [List.drop_nil]; exact .nil
    | cons d ds =>
      simp only [RpL] at h
      obtain ⟨x, r, rfl, q1, q2⟩ := h
      exact ih q2
theorem RpL.set : ∀ {ds : List PyData} {xs : List V} (i : Nat) {d : PyData} {v : V}, RpL K H own ds xs → Rp K H own d v → RpL K H own (ds.set i d) (xs.set i v)
  | [], xs, i, d, v, h, r => by simp only [RpL] at h; subst h; exact .nil
  | d0 :: ds, xs, 0, d, v, h, r => by
    simp only [RpL] at h
    obtain ⟨x, r', rfl, q1, q2⟩ := h
    exact RpL.cons r q2
  | d0 :: ds, xs, i + 1, d, v, h, r => by
    simp only [RpL] at h
    obtain ⟨x, r', rfl, q1, q2⟩ := h
    exact RpL.cons q1 (RpL.set i q2 r)
theorem RpL.reverse : ∀ {ds : List PyData} {xs : List V}, RpL K H own ds xs → RpL K H own ds.reverse xs.reverse
  | [], xs, h => by simp only [RpL] at h; subst h; exact .nil
  | d :: ds, xs, h => by
    simp only [RpL] at h
    obtain ⟨x, r, rfl, q1, q2⟩ := h
    simp only [List.reverse_cons]
    exact RpL.append (RpL.reverse q2) (.cons q1 .nil)
theorem RpL.dropLast {ds : List PyData} {xs : List V} (h : RpL K H own ds xs) : RpL K H own ds.dropLast xs.dropLast := by
  rw [List.dropLast_eq_take, List.dropLast_eq_take, h.len]; exact h.take _
end

/-- the frame of a def's run: the written part, the heap at its entry, what it may not touch (the callers' own), what it is handed to change -/
structure Fx where
  K : PySem.W.Frag
  H0 : Hp
  F : Addr → Prop
  ioA : Nat → Option Addr

abbrev Ent := Option V × Sl
def addrOf : Ent → Option Addr
  | (some (.ref p), .own _) => some p
  | (some (.ref p), .io _ _) => some p
  | _ => none
def owned (L : List Ent) : List Addr := L.filterMap addrOf
def MOk (K : PySem.W.Frag) (H : Hp) (own : Addr → Prop) (p : Addr) : MO → Prop
  | .lst ds => ∃ xs, H p = some (.lst xs) ∧ RpL K H own ds xs
def EntOk (x : Fx) (H : Hp) (own : Addr → Prop) (e : Ent) : Prop :=
  match e.2 with
  | .un => True
  | .val d => ∃ v, e.1 = some v ∧ Rp x.K H own d v
  | .own m => ∃ p, e.1 = some (.ref p) ∧ x.H0 p = none ∧ MOk x.K H own p m
  | .io j m => ∃ p, e.1 = some (.ref p) ∧ x.ioA j = some p ∧ MOk x.K H own p m
structure RelP (x : Fx) (H : Hp) (L : List Ent) : Prop where
  nd : (owned L).Nodup
  ents : ∀ e ∈ L, EntOk x H (fun b => x.F b ∨ b ∈ owned L) e
  keep : ∀ b o, x.H0 b = some o → (∀ j, x.ioA j ≠ some b) → H b = some o
  old : ∀ b o, x.H0 b = some o → ∃ o', H b = some o'
  fx : ∀ b, x.F b → ∃ o, x.H0 b = some o
  fio : ∀ j b, x.ioA j = some b → x.F b
abbrev ownOf (x : Fx) (L : List Ent) : Addr → Prop := fun b => x.F b ∨ b ∈ owned L

section
variable {x : Fx} {H H' : Hp} {L L' : List Ent} {own own' : Addr → Prop}
theorem MOk.keepC {p : Addr} {m : MO} {K : PySem.W.Frag} (k : ∀ b o, H b = some o → ¬ own b → H' b = some o ∧ ¬ own' b) (hp : H' p = H p) (h : MOk K H own p m) : MOk K H' own' p m := by
  cases m with
  | lst ds =>
    obtain ⟨xs, h1, h2⟩ := h
    exact ⟨xs, by rw [hp]; exact h1, h2.keep k⟩
theorem EntOk.keep {e : Ent} (k : ∀ b o, H b = some o → ¬ own b → H' b = some o ∧ ¬ own' b) (hp : ∀ p, addrOf e = some p → H' p = H p) (h : EntOk x H own e) : EntOk x H' own' e := by
  obtain ⟨ov, s⟩ := e
  cases s with
  | un => trivial
  | val d =>
    obtain ⟨v, e1, r⟩ := h
    exact ⟨v, e1, r.keep k⟩
  | own m =>
    obtain ⟨p, e1, n, r⟩ := h
    refine ⟨p, e1, n, r.keepC k (hp p ?_)⟩
    simp only at e1
    subst e1; rfl
  | io j m =>
    obtain ⟨p, e1, n, r⟩ := h
    refine ⟨p, e1, n, r.keepC k (hp p ?_)⟩
    simp only at e1
    subst e1; rfl
theorem mem_owned {p : Addr} : p ∈ owned L ↔ ∃ e ∈ L, addrOf e = some p := by
  unfold owned
  rw [List.mem_filterMap]
theorem owned_sub (h : ∀ e ∈ L', e ∈ L) : ∀ p ∈ owned L', p ∈ owned L := fun p hp => by
  obtain ⟨e, he, ha⟩ := mem_owned.mp hp
  exact mem_owned.mpr ⟨e, h e he, ha⟩
/-- fewer entries -/
theorem RelP.sub (r : RelP x H L) (h : ∀ e ∈ L', e ∈ L) (nd : (owned L').Nodup) : RelP x H L' :=
  ⟨nd, fun e he => (r.ents e (h e he)).keep (fun b o hb hn => ⟨hb, fun z => hn (z.imp id (owned_sub h b))⟩) fun _ _ => rfl, r.keep, r.old, r.fx, r.fio⟩
theorem RelP.perm (r : RelP x H L) (h : L'.Perm L) : RelP x H L' :=
  r.sub (fun e he => h.mem_iff.mp he) (((h.filterMap addrOf).nodup_iff).mpr r.nd)
theorem RelP.sublist (r : RelP x H L) (h : L'.Sublist L) : RelP x H L' :=
  r.sub (fun e he => h.subset he) (r.nd.sublist (h.filterMap addrOf))
/-- the address of an owned entry: tracked -/
theorem RelP.addr (r : RelP x H L) {e : Ent} {p : Addr} (he : e ∈ L) (ha : addrOf e = some p) : ∃ m, MOk x.K H (ownOf x L) p m ∧ (e.2 = .own m ∧ x.H0 p = none ∨ ∃ j, e.2 = .io j m ∧ x.ioA j = some p) ∧ e.1 = some (.ref p) := by
  have h := r.ents e he
  obtain ⟨ov, s⟩ := e
  cases s with
  | un => cases ov with
    | none => simp [addrOf] at ha
    | some v => cases v <;> simp [addrOf] at ha
  | val d => cases ov with
    | none => simp [addrOf] at ha
    | some v => cases v <;> simp [addrOf] at ha
  | own m =>
    obtain ⟨q, e1, n, w⟩ := h
    simp only at e1
    subst e1
    simp only [addrOf, Option.some.injEq] at ha
    subst ha
    exact ⟨m, w, .inl ⟨rfl, n⟩, rfl⟩
  | io j m =>
    obtain ⟨q, e1, n, w⟩ := h
    simp only at e1
    subst e1
    simp only [addrOf, Option.some.injEq] at ha
    subst ha
    exact ⟨m, w, .inr ⟨j, rfl, n⟩, rfl⟩
theorem MOk.there {K : PySem.W.Frag} {p : Addr} {m : MO} (h : MOk K H own p m) : ∃ o, H p = some o := by
  cases m with
  | lst ds => obtain ⟨xs, h1, _⟩ := h; exact ⟨_, h1⟩
theorem RelP.there (r : RelP x H L) {b : Addr} (h : ownOf x L b) : ∃ o, H b = some o := by
  rcases h with h | h
  · obtain ⟨o, ho⟩ := r.fx b h
    exact r.old b o ho
  · obtain ⟨e, he, ha⟩ := mem_owned.mp h
    obtain ⟨m, w, _⟩ := r.addr he ha
    exact w.there
theorem RelP.h0none (r : RelP x H L) {p : Addr} (hp : H p = none) : x.H0 p = none := by
  cases e : x.H0 p with
  | none => rfl
  | some o =>
    obtain ⟨o', h⟩ := r.old p o e
    rw [hp] at h; cases h
/-- an owned list is given out for good -/
theorem RelP.freeze {ov : Option V} {ds : List PyData} (r : RelP x H ((ov, .own (.lst ds)) :: L)) : RelP x H ((ov, .val (.list ds)) :: L) := by
  have h0 := r.ents _ List.mem_cons_self
  obtain ⟨p, e1, nF, xs, hx, rx⟩ := h0
  simp only at e1
  subst e1
  have ow : owned ((some (V.ref p), Sl.own (.lst ds)) :: L) = p :: owned L := by simp [owned, addrOf]
  have ow' : owned ((some (V.ref p), Sl.val (.list ds)) :: L) = owned L := by
    unfold owned
    rw [List.filterMap_cons_none]
    rfl
  have nd := r.nd
  rw [ow] at nd
  have np : p ∉ owned L := (List.nodup_cons.mp nd).1
  have k : ∀ b o, H b = some o → ¬ (x.F b ∨ b ∈ owned ((some (V.ref p), Sl.own (.lst ds)) :: L)) → H b = some o ∧ ¬ (x.F b ∨ b ∈ owned ((some (V.ref p), Sl.val (.list ds)) :: L)) := fun b o hb hn => by
    refine ⟨hb, fun z => hn (z.imp id fun q => ?_)⟩
    rw [ow] ; rw [ow'] at q
    exact List.mem_cons_of_mem _ q
  refine ⟨by rw [ow']; exact (List.nodup_cons.mp nd).2, fun e he => ?_, r.keep, r.old, r.fx, r.fio⟩
  rcases List.mem_cons.mp he
        with rfl | he
  · refine ⟨.ref p, rfl, ?_⟩
    simp only [Rp]
    refine ⟨p, xs, rfl, .inl ⟨.of hx, ?_⟩, rx.keep k⟩
    rw [ow']
    rintro (z | z)
    · obtain ⟨o, ho⟩ := r.fx p z
      rw [nF] at ho; cases ho
    · exact np z
  · exact (r.ents e (List.mem_cons_of_mem _ he)).keep k fun _ _ => rfl
/-- a new list -/
theorem RelP.newL (r : RelP x H L) {p : Addr} {xs : List V} {ds : List PyData} (hp : H p = none) (rx : RpL x.K H (ownOf x L) ds xs) :
    RelP x (upd H p (.lst xs)) ((some (.ref p), .own (.lst ds)) :: L) := by
  have ow : owned ((some (V.ref p), Sl.own (.lst ds)) :: L) = p :: owned L := by simp [owned, addrOf]
  have nO : ¬ ownOf x L p := fun z => by
    obtain ⟨o, ho⟩ := r.there z
    rw [hp] at ho; cases ho
  have k : ∀ b o, H b = some o → ¬ ownOf x L b → upd H p (.lst xs) b = some o ∧ ¬ ownOf x ((some (V.ref p), Sl.own (.lst ds)) :: L) b := fun b o hb hn => by
    have nb := ne_of_none hb hp
    refine ⟨by rw [upd_ne nb]; exact hb, fun z => hn (z.imp id fun q => ?_)⟩
    rw [ow] at q
    exact (List.mem_cons.mp q).resolve_left nb
  refine ⟨by rw [ow]; exact List.nodup_cons.mpr ⟨fun z => nO (.inr z), r.nd⟩, fun e he => ?_, fun b o hb hj => ?_, fun b o hb => ?_, r.fx, r.fio⟩
  · rcases List.mem_cons.mp he
        with rfl | he
    · exact ⟨p, rfl, r.h0none hp, xs, upd_same, rx.keep k⟩
    · refine (r.ents e he).keep k fun q hq => ?_
      obtain ⟨m, w, _⟩ := r.addr he hq
      obtain ⟨o, ho⟩ := w.there
      exact upd_ne (ne_of_none ho hp)
  · have := r.keep b o hb hj
    rw [upd_ne (ne_of_none this hp)]; exact this
  · obtain ⟨o', ho⟩ := r.old b o hb
    exact ⟨o', by rw [upd_ne (ne_of_none ho hp)]; exact ho⟩
/-- any new object that nobody owns -/
theorem RelP.new (r : RelP x H L) {p : Addr} {o : HO} (hp : H p = none) : RelP x (upd H p o) L := by
  have nO : ¬ ownOf x L p := fun z => by
    obtain ⟨o, ho⟩ := r.there z
    rw [hp] at ho; cases ho
  have k : ∀ b u, H b = some u → ¬ ownOf x L b → upd H p o b = some u ∧ ¬ ownOf x L b := fun b u hb hn => ⟨by rw [upd_ne (ne_of_none hb hp)]; exact hb, hn⟩
  refine ⟨r.nd, fun e he => (r.ents e he).keep k fun q hq => ?_, fun b u hb hj => ?_, fun b u hb => ?_, r.fx, r.fio⟩
  · obtain ⟨m, w, _⟩ := r.addr he hq
    obtain ⟨o, ho⟩ := w.there
    exact upd_ne (ne_of_none ho hp)
  · have := r.keep b u hb hj
    rw [upd_ne (ne_of_none this hp)]; exact this
  · obtain ⟨o', ho⟩ := r.old b u hb
    exact ⟨o', by rw [upd_ne (ne_of_none ho hp)]; exact ho⟩
/-- a further value beside -/
theorem RelP.push (r : RelP x H L) {d : PyData} {v : V} (h : Rp x.K H (ownOf x L) d v) : RelP x H ((some v, .val d) :: L) := by
  have ow : owned ((some v, Sl.val d) :: L) = owned L := by
    unfold owned
    rw [List.filterMap_cons_none]
    cases v <;> rfl
  refine ⟨by rw [ow]; exact r.nd, fun e he => ?_, r.keep, r.old, r.fx, r.fio⟩
  rw [show (fun b => x.F b ∨ b ∈ owned ((some v, Sl.val d) :: L)) = ownOf x L from by rw [ow]]
  rcases List.mem_cons.mp he
        with rfl | he
  · exact ⟨v, rfl, h⟩
  · exact r.ents e he
theorem Rp.flat {K : PySem.W.Frag} {d : PyData} {v : V} (h : Rp K H own d v) : True := trivial
theorem RelP.newT (r : RelP x H L) {p : Addr} {xs : List V} {ds : List PyData} (hp : H p = none) (rx : RpL x.K H (ownOf x L) ds xs) :
    RelP x (upd H p (.tup xs)) ((some (.ref p), .val (.tuple ds)) :: L) := by
  have nO : ¬ ownOf x L p := fun z => by
    obtain ⟨o, ho⟩ := r.there z
    rw [hp] at ho; cases ho
  refine (r.new hp).push ?_
  simp only [Rp]
  refine ⟨p, xs, rfl, .inl ⟨.of upd_same, nO⟩, rx.keep fun b u hb hn => ⟨by rw [upd_ne (ne_of_none hb hp)]; exact hb, hn⟩⟩
/-- a new list that is given out at once -/
theorem RelP.newLv (r : RelP x H L) {p : Addr} {xs : List V} {ds : List PyData} (hp : H p = none) (rx : RpL x.K H (ownOf x L) ds xs) :
    RelP x (upd H p (.lst xs)) ((some (.ref p), .val (.list ds)) :: L) := (r.newL hp rx).freeze
/-- the contents of an owned list change -/
theorem RelP.write (r : RelP x H ((some (.ref p), s) :: L)) {xs : List V} {ds ds' : List PyData} {s' : Sl} (hs : (s = .own (.lst ds) ∧ s' = .own (.lst ds')) ∨ ∃ j, s = .io j (.lst ds) ∧ s' = .io j (.lst ds'))
    (rx : RpL x.K H (ownOf x ((some (.ref p), s) :: L)) ds' xs) : RelP x (upd H p (.lst xs)) ((some (.ref p), s') :: L) := by
  have ow : owned ((some (V.ref p), s') :: L) = owned ((some (V.ref p), s) :: L) := by
    rcases hs with ⟨rfl, rfl⟩ | ⟨j, rfl, rfl⟩ <;> simp [owned, addrOf]
  have ow1 : owned ((some (V.ref p), s) :: L) = p :: owned L := by
    rcases hs with ⟨rfl, rfl⟩ | ⟨j, rfl, rfl⟩ <;> simp [owned, addrOf]
  have nd := r.nd
  rw [ow1] at nd
  have np : p ∉ owned L := (List.nodup_cons.mp nd).1
  have hO : ownOf x ((some (.ref p), s) :: L) p := .inr (by rw [ow1]; exact List.mem_cons_self)
  have k : ∀ b u, H b = some u → ¬ ownOf x ((some (.ref p), s) :: L) b → upd H p (.lst xs) b = some u ∧ ¬ ownOf x ((some (.ref p), s') :: L) b := fun b u hb hn => by
    have nb : b ≠ p := fun z => hn (z ▸ hO)
    refine ⟨by rw [upd_ne nb]; exact hb, ?_⟩
    show ¬ (x.F b ∨ b ∈ owned ((some (V.ref p), s') :: L))
    rw [ow]; exact hn
  have h0 := r.ents _ List.mem_cons_self
  have hk : ∀ b o, x.H0 b = some o → (∀ j, x.ioA j ≠ some b) → b ≠ p := fun b o hb hj z => by
    subst z
    rcases hs with ⟨rfl, rfl⟩ | ⟨j, rfl, rfl⟩
    · obtain ⟨q, e1, nF, _⟩ := h0
      simp only [Option.some.injEq, V.ref.injEq] at e1
      subst e1
      rw [nF] at hb; cases hb
    · obtain ⟨q, e1, nF, _⟩ := h0
      simp only [Option.some.injEq, V.ref.injEq] at e1
      subst e1
      exact hj j nF
  have rx' := rx.keep k
  refine ⟨by rw [ow, ow1]; exact nd, fun e he => ?_, fun b o hb hj => ?_, fun b o hb => ?_, r.fx, r.fio⟩
  · rcases List.mem_cons.mp he with rfl | he2
    · rcases hs with ⟨rfl, rfl⟩ | ⟨j, rfl, rfl⟩
      · obtain ⟨q, e1, nF, _⟩ := h0
        simp only [Option.some.injEq, V.ref.injEq] at e1
        subst e1
        exact ⟨p, rfl, nF, xs, upd_same, rx'⟩
      · obtain ⟨q, e1, nF, _⟩ := h0
        simp only [Option.some.injEq, V.ref.injEq] at e1
        subst e1
        exact ⟨p, rfl, nF, xs, upd_same, rx'⟩
    · refine (r.ents e (List.mem_cons_of_mem _ he2)).keep k fun q hq => upd_ne fun z => np ?_
      subst z
      exact mem_owned.mpr ⟨e, he2, hq⟩
  · rw [upd_ne (hk b o hb hj)]
    exact r.keep b o hb hj
  · obtain ⟨o', ho⟩ := r.old b o hb
    by_cases z : b = p
    · subst z; exact ⟨_, upd_same⟩
    · exact ⟨o', by rw [upd_ne z]; exact ho⟩
/-- behind a call: what is handed in to be changed (P) has changed, all else stands; R: what the call has made for its result -/
theorem RelP.callX {L L' : List Ent} (r : RelP x H L) {P R : Addr → Prop} (hl : L'.length = L.length) (hf : ∀ b o, H b = some o → ¬ P b → H' b = some o) (ho : ∀ b o, H b = some o → ∃ o', H' b = some o') (hP : ∀ b, P b → b ∈ owned L)
    (hR : ∀ b, R b → H b = none)
    (hc : ∀ (k : Nat) (e e' : Ent), L[k]? = some e → L'[k]? = some e' → (e' = e ∧ ∀ p, addrOf e = some p → ¬ P p) ∨
      ∃ p m m', e.1 = some (.ref p) ∧ ((e.2 = .own m ∧ e' = (some (.ref p), .own m')) ∨ ∃ j, e.2 = .io j m ∧ e' = (some (.ref p), .io j m')) ∧ MOk x.K H' (fun b => ownOf x L b ∨ R b) p m') :
    owned L' = owned L ∧ (∀ e ∈ L', EntOk x H' (fun b => ownOf x L b ∨ R b) e) ∧ (∀ b o, x.H0 b = some o → (∀ j, x.ioA j ≠ some b) → H' b = some o) ∧ ∀ b o, x.H0 b = some o → ∃ o', H' b = some o' := by
  have haddr : L'.map addrOf = L.map addrOf := by
    apply List.ext_getElem?
    intro k
    rw [List.getElem?_map,
          List.getElem?_map]
    cases h1 : L[k]? with
    | none =>
      have : L'[k]? = none := by rw [List.getElem?_eq_none_iff] at h1 ⊢; omega
      rw [this]
    | some e =>
      have hk : k < L'.length := by rw [hl]; exact (List.getElem?_eq_some_iff.mp h1).1
      rw [List.getElem?_eq_getElem hk]
      rcases hc k e _ h1 (List.getElem?_eq_getElem hk) with ⟨q, _⟩ | ⟨p, m, m', e1, q, _⟩
      · rw [q]
      · obtain ⟨ov, sl⟩ := e
        simp only at e1 q
        subst e1
        rcases q with ⟨rfl, q⟩ | ⟨j, rfl, q⟩ <;> rw [q] <;> rfl
  have ow : owned L' = owned L := by
    have h1 : ∀ M : List Ent, owned M = (M.map addrOf).filterMap id := fun M => by
      unfold owned
      rw [List.filterMap_map]; rfl
    rw [h1, h1, haddr]
  have k : ∀ b o, H b = some o → ¬ ownOf x L b → H' b = some o ∧ ¬ (ownOf x L b ∨ R b) := fun b o hb hn => ⟨hf b o hb fun z => hn (.inr (hP b z)), fun z => z.elim hn fun w => by
    rw [hR b w] at hb; cases hb⟩
  refine ⟨ow, fun e' he' => ?_, fun b o hb hj => ?_, fun b o hb => ?_⟩
  · obtain ⟨n, hn, en⟩ := List.getElem_of_mem he'
    have h' : L'[n]? = some e' := by rw [List.getElem?_eq_getElem hn, en]
    have hn2 : n < L.length := by rw [← hl]; exact hn
    have h2 : L[n]? = some L[n] := List.getElem?_eq_getElem hn2
    have h0 := r.ents _ (List.getElem_mem hn2)
    rcases hc n _ _ h2 h' with ⟨q, nP⟩ | ⟨p, m, m', e1, q, w⟩
    · rw [q]
      refine h0.keep k fun p hp => ?_
      obtain ⟨m, w, _⟩ := r.addr (List.getElem_mem hn2) hp
      obtain ⟨o, hpo⟩ := w.there
      rw [hf p o hpo (nP p hp), hpo]
    · generalize L[n] = e at h0 e1 q
      obtain ⟨ov, sl⟩ := e
      simp only at e1 q
      subst e1
      rcases q with ⟨rfl, rfl⟩ | ⟨j, rfl, rfl⟩
      · obtain ⟨q, e1, nF, _⟩ := h0
        simp only [Option.some.injEq, V.ref.injEq] at e1
        subst e1
        exact ⟨p, rfl, nF, w⟩
      · obtain ⟨q, e1, nF, _⟩ := h0
        simp only [Option.some.injEq, V.ref.injEq] at e1
        subst e1
        exact ⟨p, rfl, nF, w⟩
  · refine hf b o (r.keep b o hb hj) fun z => ?_
    obtain ⟨e, he, ha⟩ := mem_owned.mp (hP b z)
    obtain ⟨m, w, q, _⟩ := r.addr he ha
    rcases q with ⟨_, q⟩ | ⟨j, _, q⟩
    · rw [q] at hb; cases hb
    · exact hj j q
  · obtain ⟨o', h1⟩ := r.old b o hb
    exact ho b o' h1

/-! ### slots and temporaries -/
structure RelS (x : Fx) (σ : St) (H : Hp) (env : List Sl) (T : List Ent) : Prop where
  len : σ.length = env.length
  rel : RelP x H (σ.zip env ++ T)
theorem perm_erase {α : Type} : ∀ {l : List α} {i : Nat} {e : α}, l[i]? = some e → l.Perm (e :: l.eraseIdx i)
  | [], i, e, h => by simp at h
  | a :: l, 0, e, h => by simp at h; subst h; simp
  | a :: l, i + 1, e, h => by
    have ih := perm_erase (l := l) (i := i) (e := e) (by simpa using h)
    simp only [List.eraseIdx_cons_succ]
    exact (List.Perm.cons a ih).trans (List.Perm.swap ..)
theorem perm_set {α : Type} : ∀ {l : List α} {i : Nat} {e : α}, i < l.length → (l.set i e).Perm (e :: l.eraseIdx i)
  | [], i, e, h => by simp at h
  | a :: l, 0, e, h => by simp
  | a :: l, i + 1, e, h => by
    have ih := perm_set (l := l) (i := i) (e := e) (by simpa using h)
    simp only [List.eraseIdx_cons_succ, List.set_cons_succ]
    exact (List.Perm.cons a ih).trans (List.Perm.swap ..)
theorem zip_set {α β : Type} : ∀ {l : List α} {m : List β} {i : Nat} {a : α} {b : β}, (l.set i a).zip (m.set i b) = (l.zip m).set i (a, b)
  | [], m, i, a, b => by simp
  | x :: l, [], i, a, b => by cases i <;> simp
  | x :: l, y :: m, 0, a, b => by simp
  | x :: l, y :: m, i + 1, a, b => by simp [zip_set]
theorem zip_get {α β : Type} {l : List α} {m : List β} {i : Nat} {a : α} {b : β} (h1 : l[i]? = some a) (h2 : m[i]? = some b) : (l.zip m)[i]? = some (a, b) := by
  rw [List.getElem?_zip_eq_some]; exact ⟨h1, h2⟩

variable {σ : St} {env : List Sl} {T T' : List Ent} {i : Nat}
theorem RelS.sigma (r : RelS x σ H env T) {s : Sl} (h : env[i]? = some s) : ∃ ov, σ[i]? = some ov := by
  have hi : i < σ.length := by rw [r.len]; exact (List.getElem?_eq_some_iff.mp h).1
  exact ⟨_, List.getElem?_eq_getElem hi⟩
theorem RelS.mem (r : RelS x σ H env T) {s : Sl} {ov : Option V} (h : env[i]? = some s) (h2 : σ[i]? = some ov) : (ov, s) ∈ σ.zip env ++ T :=
  List.mem_append_left _ (List.mem_of_getElem? (zip_get h2 h))
/-- the entries but the i-th slot -/
theorem RelS.split (r : RelS x σ H env T) {s : Sl} {ov : Option V} (h : env[i]? = some s) (h2 : σ[i]? = some ov) : (σ.zip env ++ T).Perm ((ov, s) :: ((σ.zip env).eraseIdx i ++ T)) := by
  have := perm_erase (zip_get h2 h)
  exact this.append_right T
theorem RelS.split_set (r : RelS x σ H env T) {s s' : Sl} {ov ov' : Option V} (h : env[i]? = some s) (h2 : σ[i]? = some ov) : ((σ.set i ov').zip (env.set i s') ++ T).Perm ((ov', s') :: ((σ.zip env).eraseIdx i ++ T)) := by
  rw [zip_set]
  refine (perm_set ?_).append_right T
  exact (List.getElem?_eq_some_iff.mp (zip_get h2 h)).1
theorem set_self {α : Type} {l : List α} {a : α} (h : l[i]? = some a) : l.set i a = l := by
  apply List.ext_getElem?
  intro k
  rw [List.getElem?_set]
  split
  · rename_i e; subst e
    have := (List.getElem?_eq_some_iff.mp h).1
    rw [if_pos this, h]
  · rfl
/-- one slot's entry is turned -/
theorem RelS.turn (r : RelS x σ H env T) {s s' : Sl} {ov : Option V} (h : env[i]? = some s) (h2 : σ[i]? = some ov) (f : RelP x H ((ov, s) :: ((σ.zip env).eraseIdx i ++ T)) → RelP x H' ((ov, s') :: ((σ.zip env).eraseIdx i ++ T))) : RelS x σ H' (env.set i s') T := by
  refine ⟨by rw [r.len]; simp, ?_⟩
  have q := f (r.rel.perm (r.split h h2).symm)
  have p := r.split_set (s' := s') (ov' := ov) h h2
  rw [set_self h2] at p
  exact q.perm p
theorem RelS.val (r : RelS x σ H env T) {d : PyData} (h : env[i]? = some (.val d)) : ∃ v, σ[i]? = some (some v) ∧ Rp x.K H (ownOf x (σ.zip env ++ T)) d v := by
  obtain ⟨ov, h2⟩ := r.sigma h
  obtain ⟨v, e, q⟩ := r.rel.ents _ (r.mem h h2)
  simp only at e
  subst e
  exact ⟨v, h2, q⟩
theorem RelS.ownL (r : RelS x σ H env T) {ds : List PyData} (h : env[i]? = some (.own (.lst ds)) ∨ ∃ j, env[i]? = some (.io j (.lst ds))) : ∃ p xs, σ[i]? = some (some (.ref p)) ∧ H p = some (.lst xs) ∧ RpL x.K H (ownOf x (σ.zip env ++ T)) ds xs := by
  rcases h with h | ⟨j, h⟩
  · obtain ⟨ov, h2⟩ := r.sigma h
    obtain ⟨p, e, _, xs, q⟩ := r.rel.ents _ (r.mem h h2)
    simp only at e
    subst e
    exact ⟨p, xs, h2, q⟩
  · obtain ⟨ov, h2⟩ := r.sigma h
    obtain ⟨p, e, _, xs, q⟩ := r.rel.ents _ (r.mem h h2)
    simp only at e
    subst e
    exact ⟨p, xs, h2, q⟩
theorem RelS.tmp (r : RelS x σ H env T) {d : PyData} {v : V} (h : (some v, Sl.val d) ∈ T) : Rp x.K H (ownOf x (σ.zip env ++ T)) d v := by
  obtain ⟨v', e, q⟩ := r.rel.ents _ (List.mem_append_right _ h)
  simp only [Option.some.injEq] at e
  subst e
  exact q
theorem RelS.tmpL (r : RelS x σ H env T) {ds : List PyData} {v : V} (h : (some v, Sl.own (.lst ds)) ∈ T) : ∃ p xs, v = .ref p ∧ H p = some (.lst xs) ∧ RpL x.K H (ownOf x (σ.zip env ++ T)) ds xs := by
  obtain ⟨p, e, _, xs, q⟩ := r.rel.ents _ (List.mem_append_right _ h)
  simp only [Option.some.injEq] at e
  exact ⟨p, xs, e, q⟩
/-- fewer temporaries -/
theorem RelS.drop (r : RelS x σ H env T) (h : T'.Sublist T) : RelS x σ H env T' := ⟨r.len, r.rel.sublist (List.Sublist.append (List.Sublist.refl _) h)⟩
theorem RelS.permT (r : RelS x σ H env T) (h : T'.Perm T) : RelS x σ H env T' := ⟨r.len, r.rel.perm (List.Perm.append_left _ h)⟩
theorem RelS.pop {e : Ent} (r : RelS x σ H env (e :: T)) : RelS x σ H env T := r.drop (List.sublist_cons_self _ _)
theorem perm_mid {α : Type} {A : List α} {e : α} {B : List α} : (A ++ e :: B).Perm (e :: (A ++ B)) := List.perm_middle
theorem RelS.push (r : RelS x σ H env T) {d : PyData} {v : V} (h : Rp x.K H (ownOf x (σ.zip env ++ T)) d v) : RelS x σ H env ((some v, .val d) :: T) :=
  ⟨r.len, (r.rel.push h).perm perm_mid⟩
theorem RelS.newL (r : RelS x σ H env T) {p : Addr} {xs : List V} {ds : List PyData} (hp : H p = none) (rx : RpL x.K H (ownOf x (σ.zip env ++ T)) ds xs) : RelS x σ (upd H p (.lst xs)) env ((some (.ref p), .own (.lst ds)) :: T) :=
  ⟨r.len, (r.rel.newL hp rx).perm perm_mid⟩
theorem RelS.newT (r : RelS x σ H env T) {p : Addr} {xs : List V} {ds : List PyData} (hp : H p = none) (rx : RpL x.K H (ownOf x (σ.zip env ++ T)) ds xs) : RelS x σ (upd H p (.tup xs)) env ((some (.ref p), .val (.tuple ds)) :: T) :=
  ⟨r.len, (r.rel.newT hp rx).perm perm_mid⟩
theorem RelS.new (r : RelS x σ H env T) {p : Addr} {o : HO} (hp : H p = none) : RelS x σ (upd H p o) env T := ⟨r.len, r.rel.new hp⟩
/-- a temporary list is given out -/
theorem RelS.freezeT {ov : Option V} {ds : List PyData} (r : RelS x σ H env ((ov, .own (.lst ds)) :: T)) : RelS x σ H env ((ov, .val (.list ds)) :: T) :=
  ⟨r.len, ((r.rel.perm perm_mid.symm).freeze).perm perm_mid⟩
theorem RelS.freezeS {ds : List PyData} (r : RelS x σ H env T) (h : env[i]? = some (.own (.lst ds))) : RelS x σ H (env.set i (.val (.list ds))) T := by
  obtain ⟨ov, h2⟩ := r.sigma h
  exact r.turn h h2 fun q => q.freeze
/-- a temporary goes into a slot -/
theorem RelS.store {e : Ent} (r : RelS x σ H env (e :: T)) : RelS x (σ.set i e.1) H (env.set i e.2) T := by
  refine ⟨by simp [r.len], ?_⟩
  by_cases hi : i < env.length
  · have hσ : i < σ.length := by rw [r.len]; exact hi
    have r0 := r.pop
    have p := r0.split_set (s' := e.2) (ov' := e.1) (List.getElem?_eq_getElem hi) (List.getElem?_eq_getElem hσ)
    refine RelP.perm ?_ p
    have q : RelP x H (e :: ((σ.zip env) ++ T)) := r.rel.perm perm_mid.symm
    refine q.sublist ?_
    exact List.Sublist.cons_cons _ (List.Sublist.append (List.eraseIdx_sublist _ _) (List.Sublist.refl _))
  · rw [List.set_eq_of_length_le (by rw [r.len]; omega), List.set_eq_of_length_le (by omega)]
    exact r.pop.rel
/-- the contents of a slot's list change -/
theorem RelS.writeS (r : RelS x σ H env T) {p : Addr} {xs : List V} {ds ds' : List PyData} {s s' : Sl} (h : env[i]? = some s) (h2 : σ[i]? = some (some (.ref p)))
    (hs : (s = .own (.lst ds) ∧ s' = .own (.lst ds')) ∨ ∃ j, s = .io j (.lst ds) ∧ s' = .io j (.lst ds')) (rx : RpL x.K H (ownOf x (σ.zip env ++ T)) ds' xs) : RelS x σ (upd H p (.lst xs)) (env.set i s') T := by
  refine r.turn h h2 fun q => q.write hs ?_
  have e : ownOf x ((some (V.ref p), s) :: ((σ.zip env).eraseIdx i ++ T)) = ownOf x (σ.zip env ++ T) := by
    funext b
    simp only [ownOf]
    have := ((r.split h h2).filterMap addrOf).mem_iff (a := b)
    simp only [owned]
    rw [this]
  rw [e]; exact rx
theorem RelS.writeT {p : Addr} {xs : List V} {ds ds' : List PyData} (r : RelS x σ H env ((some (.ref p), .own (.lst ds)) :: T)) (rx : RpL x.K H (ownOf x (σ.zip env ++ ((some (.ref p), .own (.lst ds)) :: T))) ds' xs) :
    RelS x σ (upd H p (.lst xs)) env ((some (.ref p), .own (.lst ds')) :: T) := by
  refine ⟨r.len, RelP.perm (RelP.write (r.rel.perm perm_mid.symm) (.inl ⟨rfl, rfl⟩) ?_) perm_mid⟩
  have e : ownOf x ((some (V.ref p), Sl.own (.lst ds)) :: (σ.zip env ++ T)) = ownOf x (σ.zip env ++ ((some (.ref p), .own (.lst ds)) :: T)) := by
    funext b
    simp only [ownOf]
    have := ((perm_mid (A := σ.zip env) (e := (some (V.ref p), Sl.own (.lst ds))) (B := T)).filterMap addrOf).mem_iff (a := b)
    simp only [owned]
    rw [this]
  rw [e]; exact rx
end
end PD
/-! What an expression, a test, a statement does, told of plain data alone; each beside its reading in the hand layer. -/
namespace PD
open PySem L2
abbrev Env := List Sl
/-- an exception: its class, its one field, the field's value -/
abbrev XD := Addr → Str → PyData → Env → Prop
abbrev ED := Env → (Sl → Env → Prop) → XD → Prop
/-- an operand: a value, or a slot that is only looked at -/
inductive Opn where
  | v (d : PyData)
  | s (i : Nat)
abbrev OD := Env → (Opn → Env → Prop) → XD → Prop
abbrev BD := Env → (Bool → Env → Prop) → XD → Prop
abbrev AD := Env → (List Opn → Env → Prop) → XD → Prop
abbrev ID := Env → (List PyData → Env → Prop) → XD → Prop
abbrev GD := Sl → Env → (Env → Prop) → XD → Prop
abbrev GDs := List PyData → Env → (Env → Prop) → XD → Prop
structure EndD where
  nx : Env → Prop
  rt : Sl → Env → Prop
  bk : Env → Prop := fun _ => False
  ct : Env → Prop := fun _ => False
  ex : XD
abbrev SD := EndD → Env → Prop

def XL (x : Fx) (T : List Ent) (W : WX) (X : XD) : Prop := ∀ C f d v dd σ H env, RelS x σ H env ((some v, .val d) :: T) → H dd = some (.xd [(f, v)]) → X C f d env → W (.ref C) (some dd) σ H
theorem XL.more {x : Fx} {T T' : List Ent} {W : WX} {X : XD} (h : XL x T W X) (s : T.Sublist T') : XL x T' W X := fun C f d v dd σ H env r e q =>
  h C f d v dd σ H env (r.drop (List.Sublist.cons_cons _ s)) e q
theorem XL.cons {x : Fx} {T : List Ent} {e : Ent} {W : WX} {X : XD} (h : XL x T W X) : XL x (e :: T) W X := h.more (List.sublist_cons_self _ _)

/-- the data that stands in an operand now -/
def cont (env : Env) : Opn → Option PyData
  | .v d => some d
  | .s i => match env[i]? with
    | some (.val d) => some d
    | some (.own (.lst ds)) => some (.list ds)
    | some (.io _ (.lst ds)) => some (.list ds)
    | _ => none
def frz : Sl → Option PyData
  | .val d => some d
  | .own (.lst ds) => some (.list ds)
  | _ => none
/-- an operand's value as a temporary -/
def tOp1 (v : V) : Opn → List Ent
  | .v d => [(some v, .val d)]
  | .s _ => []
def okOp (σ : St) (v : V) : Opn → Prop
  | .v _ => True
  | .s i => σ[i]? = some (some v)
def tOps : List V → List Opn → List Ent
  | v :: vs, o :: os => tOp1 v o ++ tOps vs os
  | _, _ => []
def okOps (σ : St) : List V → List Opn → Prop
  | v :: vs, o :: os => okOp σ v o ∧ okOps σ vs os
  | [], [] => True
  | _, _ => False

/-- what is read of a value, be it owned by a slot -/
def Rc (K : PySem.W.Frag) (H : Hp) (own : Addr → Prop) : PyData → V → Prop
  | .list ds, v => ∃ a xs, v = .ref a ∧ SqL K H a xs ∧ RpL K H own ds xs
  | d, v => Rp K H own d v
theorem Rp.rc {K : PySem.W.Frag} {H : Hp} {own : Addr → Prop} {d : PyData} {v : V} (h : Rp K H own d v) : Rc K H own d v := by
  cases d with
  | list ds =>
    simp only [Rp] at h
    obtain ⟨a, xs, e, h1, h2⟩ := h
    exact ⟨a, xs, e, h1.imp (fun q => q.1) id, h2⟩
  | _ => exact h
theorem Rc.dp {K : PySem.W.Frag} {H : Hp} {own : Addr → Prop} {d : PyData} {v : V} (q : d.hasDict = false) (h : Rc K H own d v) : Dp K H v d := by
  cases d with
  | list ds =>
    simp only [PyData.hasDict] at q
    obtain ⟨a, xs, rfl, h1, h2⟩ := h
    exact .lst h1 (h2.dp q)
  | _ => exact Rp.dp (own := own) q h
theorem Rc.tup {K : PySem.W.Frag} {H : Hp} {own : Addr → Prop} {ds : List PyData} {v : V} (h : Rc K H own (.tuple ds) v) : ∃ a xs, v = .ref a ∧ SqT K H a xs ∧ RpL K H own ds xs := by
  have h' : Rp K H own (.tuple ds) v := h
  simp only [Rp] at h'
  obtain ⟨a, xs, e, h1, h2⟩ := h'
  exact ⟨a, xs, e, h1.imp (fun q => q.1) id, h2⟩
section
variable {x : Fx} {σ : St} {H : Hp} {env : Env} {T : List Ent}
theorem RelS.rc (r : RelS x σ H env T) {o : Opn} {v : V} {d : PyData} (hT : ∀ e ∈ tOp1 v o, e ∈ T) (ho : okOp σ v o) (h : cont env o = some d) : Rc x.K H (ownOf x (σ.zip env ++ T)) d v := by
  cases o with
  | v d' =>
    simp only [cont, Option.some.injEq] at h
    subst h
    exact (r.tmp (hT _ (by simp [tOp1]))).rc
  | s i =>
    simp only [okOp] at ho
    simp only [cont] at h
    split at h
    · rename_i d' e
      cases h
      obtain ⟨v', e', q⟩ := r.val e
      rw [ho] at e'; cases e'
      exact q.rc
    · rename_i ds e
      cases h
      obtain ⟨p, xs, e', h1, h2⟩ := r.ownL (.inl e)
      rw [ho] at e'; cases e'
      exact ⟨p, xs, rfl, .of h1, h2⟩
    · rename_i j ds e
      cases h
      obtain ⟨p, xs, e', h1, h2⟩ := r.ownL (.inr ⟨j, e⟩)
      rw [ho] at e'; cases e'
      exact ⟨p, xs, rfl, .of h1, h2⟩
    · cases h
end

/-! ### the judgements -/
def SimE (K : PySem.W.Frag) (W : WX) (te : TE) (td : ED) : Prop := ∀ (x : Fx) (σ : St) (H : Hp) (env : Env) (T : List Ent) (Q : VK) (Qd : Sl → Env → Prop) (Xd : XD), x.K = K → RelS x σ H env T → XL x T W Xd →
  (∀ v s H' env', RelS x σ H' env' ((some v, s) :: T) → Qd s env' → Q v H') → td env Qd Xd → te σ H Q
def SimO (K : PySem.W.Frag) (W : WX) (te : TE) (od : OD) : Prop := ∀ (x : Fx) (σ : St) (H : Hp) (env : Env) (T : List Ent) (Q : VK) (Qd : Opn → Env → Prop) (Xd : XD), x.K = K → RelS x σ H env T → XL x T W Xd →
  (∀ v o H' env', RelS x σ H' env' (tOp1 v o ++ T) → okOp σ v o → Qd o env' → Q v H') → od env Qd Xd → te σ H Q
def SimB (K : PySem.W.Frag) (W : WX) (tt : TT) (bd : BD) : Prop := ∀ (x : Fx) (σ : St) (H : Hp) (env : Env) (T : List Ent) (Q : Bool → Hp → Prop) (Qd : Bool → Env → Prop) (Xd : XD), x.K = K → RelS x σ H env T → XL x T W Xd →
  (∀ b H' env', RelS x σ H' env' T → Qd b env' → Q b H') → bd env Qd Xd → tt σ H Q
def SimA (K : PySem.W.Frag) (W : WX) (ta : TA) (ad : AD) : Prop := ∀ (x : Fx) (σ : St) (H : Hp) (env : Env) (T : List Ent) (Q : List V → Hp → Prop) (Qd : List Opn → Env → Prop) (Xd : XD), x.K = K → RelS x σ H env T → XL x T W Xd →
  (∀ vs os H' env', RelS x σ H' env' (tOps vs os ++ T) → okOps σ vs os → Qd os env' → Q vs H') → ad env Qd Xd → ta σ H Q
/-- what is walked: the turns' items as data -/
structure Wk (x : Fx) (J : It) (T0 : List Ent) (ds : List PyData) : Prop where
  go : ∀ (i : Nat) (σ : St) (H : Hp) (env : Env) (T : List Ent), RelS x σ H env (T0 ++ T) → i < ds.length → J.go i H
  yld : ∀ (i : Nat) (d : PyData) (σ : St) (H : Hp) (env : Env) (T : List Ent) (v : V) (H' : Hp), RelS x σ H env (T0 ++ T) → ds[i]? = some d → J.yld i H v H' → RelS x σ H' env ((some v, .val d) :: (T0 ++ T))
  stop : ∀ (i : Nat) (σ : St) (H : Hp) (env : Env) (T : List Ent), RelS x σ H env (T0 ++ T) → i = ds.length → J.stop i H
  le : ds.length ≤ sizeLine
def SimI (K : PySem.W.Frag) (W : WX) (wi : TI) (id : ID) : Prop := ∀ (x : Fx) (σ : St) (H : Hp) (env : Env) (T : List Ent) (R : It → Hp → Prop) (Qd : List PyData → Env → Prop) (Xd : XD), x.K = K → RelS x σ H env T → XL x T W Xd →
  (∀ J T0 ds H' env', RelS x σ H' env' (T0 ++ T) → Wk x J T0 ds → Qd ds env' → R J H') → id env Qd Xd → wi σ H R
def SimG (K : PySem.W.Frag) (W : WX) (g : TG) (gd : GD) : Prop := ∀ (x : Fx) (σ : St) (H : Hp) (env : Env) (T : List Ent) (v : V) (s : Sl) (Q : St → Hp → Prop) (Qd : Env → Prop) (Xd : XD), x.K = K → RelS x σ H env ((some v, s) :: T) → XL x T W Xd →
  (∀ σ' H' env', RelS x σ' H' env' T → Qd env' → Q σ' H') → gd s env Qd Xd → g v σ H Q
structure LinkS (x : Fx) (T : List Ent) (W : WX) (D : Ends) (Dd : EndD) : Prop where
  nx : ∀ σ H env, RelS x σ H env T → Dd.nx env → D.nx σ H
  bk : ∀ σ H env, RelS x σ H env T → Dd.bk env → D.bk σ H
  ct : ∀ σ H env, RelS x σ H env T → Dd.ct env → D.ct σ H
  rt : ∀ σ H env v s, RelS x σ H env ((some v, s) :: T) → Dd.rt s env → D.rt v H
  ex : XL x T W Dd.ex
def SimS (K : PySem.W.Frag) (W : WX) (ts : TS) (sd : SD) : Prop := ∀ (x : Fx) (σ : St) (H : Hp) (env : Env) (T : List Ent) (D : Ends) (Dd : EndD), x.K = K → RelS x σ H env T → LinkS x T W D Dd → sd Dd env → ts D σ H

structure PEd (X : Cx) (W : WX) (e : Expr) (te : TE) (td : ED) : Prop where
  pe : PE X e te
  sim : SimE X.K W te td
structure POd (X : Cx) (W : WX) (e : Expr) (te : TE) (od : OD) : Prop where
  pe : PE X e te
  sim : SimO X.K W te od
structure PTd (X : Cx) (W : WX) (e : Expr) (tt : TT) (bd : BD) : Prop where
  pt : PT X e tt
  sim : SimB X.K W tt bd
structure PWd (X : Cx) (W : WX) (e : Expr) (tt : TT) (bd : BD) : Prop where
  pt : PW X e tt
  sim : SimB X.K W tt bd
structure PAd (X : Cx) (W : WX) (es : List Expr) (ta : TA) (ad : AD) : Prop where
  pa : PA X es ta
  sim : SimA X.K W ta ad
structure PId (X : Cx) (W : WX) (tg iter : Expr) (wi : TI) (id : ID) : Prop where
  pi : PI X tg iter wi
  sim : SimI X.K W wi id
structure PGd (X : Cx) (W : WX) (tg : Expr) (g : TG) (gd : GD) : Prop where
  pg : PG X tg g
  sim : SimG X.K W g gd
structure PSd (X : Cx) (W : WX) (st : Stmt) (ts : TS) (sd : SD) : Prop where
  ps : PS X st ts
  sim : SimS X.K W ts sd
structure PSsd (X : Cx) (W : WX) (st : List Stmt) (ts : TS) (sd : SD) : Prop where
  ps : PSs X st ts
  sim : SimS X.K W ts sd

/-! ### names, constants, operands -/
section
variable {X : Cx} {W : WX} {x : Str} {pos : Pos} {e a b : Expr} {te ta tb : TE} {td : ED} {oa ob : OD}
def dC (d : PyData) : ED := fun env Q _ => Q (.val d) env
theorem sim_c {K : PySem.W.Frag} {d : PyData} {v : V} (h : ∀ H own, Rp K H own d v) : SimE K W (tC v) (dC d) := fun x σ H env T Q Qd Xd hk r _ hq h' =>
  hq v _ H env (r.push (by rw [hk]; exact h _ _)) h'
theorem pd_int {i : Int} {j} : PEd X W (.Constant (.int i) j pos) (tC (.int i)) (dC (.int i)) := ⟨pe_int, sim_c fun _ _ => by simp only [Rp]⟩
theorem pd_bl {c : Bool} {j} : PEd X W (.Constant (.bool c) j pos) (tC (.bl c)) (dC (.bool c)) := ⟨pe_bl, sim_c fun _ _ => by simp only [Rp]⟩
theorem pd_non {j} : PEd X W (.Constant .none j pos) (tC .non) (dC .none) := ⟨pe_non, sim_c fun _ _ => by simp only [Rp]⟩
theorem pd_str {z : Str} {j} : PEd X W (.Constant (.str z) j pos) (tC (.str z)) (dC (.str z)) := ⟨pe_str, sim_c fun _ _ => by simp only [Rp]⟩
/-- a slot read as a value: an owned list is given out for good -/
def dVar (i : Nat) : ED := fun env Q _ => ∃ d, (env[i]?).bind frz = some d ∧ Q (.val d) (env.set i (.val d))
theorem sim_var {K : PySem.W.Frag} {i : Nat} : SimE K W (tVar i) (dVar i) := fun x σ H env T Q Qd Xd hk r _ hq h => by
  obtain ⟨d, e, h⟩ := h
  have key : RelS x σ H (env.set i (.val d)) T := by
    cases he : env[i]? with
    | none => rw [he] at e; cases e
    | some s =>
      rw [he] at e
      cases s with
      | un => cases e
      | val d' => cases e; rw [set_self he]; exact r
      | own m =>
        cases m with
        | lst ds => cases e; exact r.freezeS he
      | io j m => cases e
  have hi : i < env.length := by
    cases he : env[i]? with
    | none => rw [he] at e; cases e
    | some s => exact (List.getElem?_eq_some_iff.mp he).1
  obtain ⟨v, e1, q⟩ := key.val (i := i) (d := d) (by rw [List.getElem?_set_self hi])
  exact ⟨v, e1, hq v _ H _ (key.push q) h⟩
theorem pd_var (i : Nat) (hN : X.N[i]? = some x := by rfl) (hv : Vis X.env.scope x := by first | exact Or.inl rfl | exact Or.inr (Or.inl rfl) | exact Or.inr (Or.inr rfl)) (hd : (x == ("__debug__" : Str)) = false := by decide)
    (hcd : (x == ("__classdict__" : Str)) = false := by decide) : PEd X W (.Name x pos) (tVar i) (dVar i) := ⟨pe_var hN hv hd hcd, sim_var⟩
/-- a slot that is moved out (the def ends here) -/
def dMove (i : Nat) : ED := fun env Q _ => ∃ m, env[i]? = some (.own m) ∧ Q (.own m) (env.set i .un)
theorem sim_move {K : PySem.W.Frag} {i : Nat} : SimE K W (tVar i) (dMove i) := fun x σ H env T Q Qd Xd hk r _ hq h => by
  obtain ⟨m, e, h⟩ := h
  obtain ⟨ov, h2⟩ := r.sigma e
  obtain ⟨p, e1, q1, q2⟩ := r.rel.ents _ (r.mem e h2)
  simp only at e1
  subst e1
  refine ⟨.ref p, h2, hq (.ref p) _ H _ ⟨by rw [r.len]; simp, ?_⟩ h⟩
  have p1 := r.split e h2
  have p2 := r.split_set (s' := .un) (ov' := some (.ref p)) e h2
  rw [set_self h2] at p2
  have q := r.rel.perm p1.symm
  have hsub : RelP x H ((some (V.ref p), Sl.own m) :: (some (V.ref p), Sl.un) :: ((σ.zip env).eraseIdx i ++ T)) := by
    have ow : owned ((some (V.ref p), Sl.own m) :: (some (V.ref p), Sl.un) :: ((σ.zip env).eraseIdx i ++ T)) = owned ((some (V.ref p), Sl.own m) :: ((σ.zip env).eraseIdx i ++ T)) := by
      simp [owned, addrOf, List.filterMap_cons]
    refine ⟨by rw [ow]; exact q.nd, fun e he => ?_, q.keep, q.old, q.fx, q.fio⟩
    rw [show (fun b => x.F b ∨ b ∈ owned ((some (V.ref p), Sl.own m) :: (some (V.ref p), Sl.un) :: ((σ.zip env).eraseIdx i ++ T))) = (fun b => x.F b ∨ b ∈ owned ((some (V.ref p), Sl.own m) :: ((σ.zip env).eraseIdx i ++ T))) from by rw [ow]]
    rcases List.mem_cons.mp he
          with rfl | he
    · exact q.ents _ List.mem_cons_self
    · rcases List.mem_cons.mp he
          with rfl | he
      · trivial
      · exact q.ents _ (List.mem_cons_of_mem _ he)
  refine hsub.perm ?_
  exact perm_mid.trans (List.Perm.cons _ p2)
theorem pd_move (i : Nat) (hN : X.N[i]? = some x := by rfl) (hv : Vis X.env.scope x := by first | exact Or.inl rfl | exact Or.inr (Or.inl rfl) | exact Or.inr (Or.inr rfl)) (hd : (x == ("__debug__" : Str)) = false := by decide)
    (hcd : (x == ("__classdict__" : Str)) = false := by decide) : PEd X W (.Name x pos) (tVar i) (dMove i) := ⟨pe_var hN hv hd hcd, sim_move⟩
/-- a module's constant -/
theorem pd_glob {u : Value} {v : V} {d : PyData} (hg : Gl X x) (hm : X.mg x = some u) (rv : RelV v u) (h : ∀ H own, Rp X.K H own d v) (hd : (x == ("__debug__" : Str)) = false := by decide) : PEd X W (.Name x pos) (tC v) (dC d) :=
  ⟨pe_glob hg hm rv hd, sim_c h⟩
/-- operands -/
def oV (td : ED) : OD := fun env Q X => td env (fun s e => ∃ d, frz s = some d ∧ Q (.v d) e) X
theorem SimE.op {K : PySem.W.Frag} (h : SimE K W te td) : SimO K W te (oV td) := fun x σ H env T Q Qd Xd hk r hx hq h' => by
  refine h x σ H env T Q _ Xd hk r hx (fun v s H' env' r' q => ?_) h'
  obtain ⟨d, e, q⟩ := q
  refine hq v (.v d) H' env' ?_ trivial q
  cases s with
  | un => cases e
  | val d' => cases e; exact r'
  | own m =>
    cases m with
    | lst ds => cases e; exact r'.freezeT
  | io j m => cases e
theorem po_val (h : PEd X W e te td) : POd X W e te (oV td) := ⟨h.pe, h.sim.op⟩
def oS (i : Nat) : OD := fun env Q _ => (cont env (.s i)).isSome = true ∧ Q (.s i) env
theorem sim_slot {K : PySem.W.Frag} {i : Nat} : SimO K W (tVar i) (oS i) := fun x σ H env T Q Qd Xd hk r _ hq h => by
  obtain ⟨h1, h⟩ := h
  have : ∃ v, σ[i]? = some (some v) := by
    simp only [cont] at h1
    split at h1
    · rename_i d e
      obtain ⟨v, e1, _⟩ := r.val e
      exact ⟨v, e1⟩
    · rename_i ds e
      obtain ⟨p, xs, e1, _⟩ := r.ownL (.inl e)
      exact ⟨_, e1⟩
    · rename_i j ds e
      obtain ⟨p, xs, e1, _⟩ := r.ownL (.inr ⟨j, e⟩)
      exact ⟨_, e1⟩
    · cases h1
  obtain ⟨v, e⟩ := this
  exact ⟨v, e, hq v (.s i) H env r e h⟩
theorem po_var (i : Nat) (hN : X.N[i]? = some x := by rfl) (hv : Vis X.env.scope x := by first | exact Or.inl rfl | exact Or.inr (Or.inl rfl) | exact Or.inr (Or.inr rfl)) (hd : (x == ("__debug__" : Str)) = false := by decide)
    (hcd : (x == ("__classdict__" : Str)) = false := by decide) : POd X W (.Name x pos) (tVar i) (oS i) := ⟨pe_var hN hv hd hcd, sim_slot⟩

/-! ### two operands, an operation that only reads -/
/-- the operation r on values does what f says on data; its answer is a value that needs no object of its own -/
def RS2 (K : PySem.W.Frag) (r : R2) (f : PyData → PyData → Option PyData) : Prop := ∀ (H : Hp) (own : Addr → Prop) (v1 v2 : V) (d1 d2 d : PyData) (Q : VK), Rc K H own d1 v1 → Rc K H own d2 v2 → f d1 d2 = some d → (∀ v, Rp K H own d v → Q v H) → r v1 v2 H Q
def dBin (f : PyData → PyData → Option PyData) (oa ob : OD) : ED := fun env Q X => oa env (fun o1 e1 => ob e1 (fun o2 e2 => ∃ d, ((cont e2 o1).bind fun d1 => (cont e2 o2).bind fun d2 => f d1 d2) = some d ∧ Q (.val d) e2) X) X
theorem bind2 {α β γ : Type} {x : Option α} {y : Option β} {f : α → β → Option γ} {z : γ} (h : (x.bind fun a => y.bind fun b => f a b) = some z) : ∃ a b, x = some a ∧ y = some b ∧ f a b = some z := by
  cases x with
  | none => cases h
  | some a =>
    cases y with
    | none => cases h
    | some b => exact ⟨a, b, rfl, rfl, h⟩
theorem okOp_any {σ : St} {v : V} {o : Opn} (h : okOp σ v o) : okOp σ v o := h
theorem SimO.two {K : PySem.W.Frag} {R : V → V → Hp → Prop} (ha : SimO K W ta oa) (hb : SimO K W tb ob) {x : Fx} {σ : St} {H : Hp} {env : Env} {T : List Ent} {Xd : XD} {Rd : Opn → Opn → Env → Prop} (hk : x.K = K) (r : RelS x σ H env T) (hx : XL x T W Xd)
    (h : oa env (fun o1 e1 => ob e1 (fun o2 e2 => Rd o1 o2 e2) Xd) Xd)
    (hq : ∀ v1 v2 o1 o2 H' env', RelS x σ H' env' (tOp1 v2 o2 ++ (tOp1 v1 o1 ++ T)) → okOp σ v1 o1 → okOp σ v2 o2 → Rd o1 o2 env' → R v1 v2 H') :
    ta σ H fun y H1 => tb σ H1 fun z H2 => R y z H2 :=
  ha x σ H env T _ _ Xd hk r hx (fun v1 o1 H1 e1 r1 ok1 q1 => hb x σ H1 e1 _ _ _ Xd hk r1 (hx.more (List.sublist_append_right _ _)) (fun v2 o2 H2 e2 r2 ok2 q2 => hq v1 v2 o1 o2 H2 e2 r2 ok1 ok2 q2) q1) h
theorem sim_bin {K : PySem.W.Frag} {r : R2} {f : PyData → PyData → Option PyData} (hr : RS2 K r f) (ha : SimO K W ta oa) (hb : SimO K W tb ob) : SimE K W (tOp r ta tb) (dBin f oa ob) := fun x σ H env T Q Qd Xd hk rr hx hq h => by
  refine SimO.two (R := fun y z H2 => r y z H2 Q) ha hb hk rr hx h fun v1 v2 o1 o2 H' env' r' ok1 ok2 q => ?_
  obtain ⟨d, e, q⟩ := q
  obtain ⟨d1, d2, e1, e2, e3⟩ := bind2 e
  have c1 := r'.rc (fun z hz => List.mem_append_right _ (List.mem_append_left _ hz)) ok1 e1
  have c2 := r'.rc (fun z hz => List.mem_append_left _ hz) ok2 e2
  rw [hk] at c1 c2
  refine hr H' _ v1 v2 d1 d2 d Q c1 c2 e3 fun v rv => ?_
  refine hq v _ H' env' ((r'.push (by rw [hk]; exact rv)).drop ?_) q
  exact List.Sublist.cons_cons _ ((List.sublist_append_right _ _).trans (List.sublist_append_right _ _))
theorem pd_bin {op : Operator} {r : R2} {f : PyData → PyData → Option PyData} (ho : OpR X (binaryOp op) r) (hr : RS2 X.K r f) (ha : POd X W a ta oa) (hb : POd X W b tb ob) : PEd X W (.BinOp a op b pos) (tOp r ta tb) (dBin f oa ob) :=
  ⟨pe_op ho ha.pe hb.pe, sim_bin hr ha.sim hb.sim⟩
theorem pd_cmp {op : CmpOp} {r : R2} {f : PyData → PyData → Option PyData} (ho : OpR X (compareOp op) r) (hr : RS2 X.K r f) (ha : POd X W a ta oa) (hb : POd X W b tb ob) (hm : behindInMarks op b = false) : PEd X W (.Compare a [op] [b] pos) (tOp r ta tb) (dBin f oa ob) :=
  ⟨pe_cmpR ho ha.pe hb.pe hm, sim_bin hr ha.sim hb.sim⟩
/--
      an expression whose value is a bool, as a test -/
def bV (td : ED) : BD := fun env Q X => td env (fun s e => ∃ c, s = .val (.bool c) ∧ Q c e) X
theorem sim_tB {K : PySem.W.Frag} (h : SimE K W te td) : SimB K W (tB te) (bV td) := fun x σ H env T Q Qd Xd hk r hx hq h' => by
  refine h x σ H env T _ _ Xd hk r hx (fun v s H' env' r' q => ?_) h'
  obtain ⟨c, rfl, q⟩ := q
  have t := r'.tmp (List.mem_cons_self ..)
  simp only [Rp] at t
  exact ⟨c, t, hq c H' env' r'.pop q⟩
theorem pt_cmpD {op : CmpOp} {r : R2} {f : PyData → PyData → Option PyData} (ho : OpR X (compareOp op) r) (hr : RS2 X.K r f) (ha : POd X W a ta oa) (hb : POd X W b tb ob) (hm : behindInMarks op b = false) : PTd X W (.Compare a [op] [b] pos) (tTest (tOp r ta tb)) (bV (dBin f oa ob)) :=
  ⟨pt_cmpR ho ha.pe hb.pe hm, sim_tB (sim_bin hr ha.sim hb.sim)⟩
theorem pt_valD (h : PEd X W e te td) (he : ∀ whole, isTrue e X.env whole = (do let v ← whole; standAt e.pos; holding [v] (truthy v)) := by intro _; rfl) : PTd X W e (tB te) (bV td) := ⟨pt_val h.pe he, sim_tB h.sim⟩
end
end PD
/-! Statements, loops, comprehensions on plain data. -/
namespace PD
open PySem L2
section
variable {X : Cx} {W : WX} {x y : Str} {pos : Pos} {e a b c : Expr} {es rest : List Expr} {te ta tb : TE} {tA tB' : TT} {td da db : ED} {oa ob od : OD} {bA bB : BD} {K : PySem.W.Frag}

/-! ### and, or, not, if as an expression -/
def bAnd (s t : BD) : BD := fun env Q X => s env (fun b e => if b = true then t e Q X else Q false e) X
def bOr (s t : BD) : BD := fun env Q X => s env (fun b e => if b = true then Q true e else t e Q X) X
def bNot (s : BD) : BD := fun env Q X => s env (fun b e => Q (!b) e) X
theorem sim_and (ha : SimB K W tA bA) (hb : SimB K W tB' bB) : SimB K W (tAnd tA tB') (bAnd bA bB) := fun x σ H env T Q Qd Xd hk r hx hq h => by
  refine ha x σ H env T _ _ Xd hk r hx (fun b H' env' r' q => ?_) h
  cases b with
  | true => exact hb x σ H' env' T Q Qd Xd hk r' hx hq q
  | false => exact hq false H' env' r' q
theorem sim_or (ha : SimB K W tA bA) (hb : SimB K W tB' bB) : SimB K W (tOr tA tB') (bOr bA bB) := fun x σ H env T Q Qd Xd hk r hx hq h => by
  refine ha x σ H env T _ _ Xd hk r hx (fun b H' env' r' q => ?_) h
  cases b with
  | true => exact hq true H' env' r' q
  | false => exact hb x σ H' env' T Q Qd Xd hk r' hx hq q
theorem sim_not (ha : SimB K W tA bA) : SimB K W (tNot tA) (bNot bA) := fun x σ H env T Q Qd Xd hk r hx hq h =>
  ha x σ H env T _ _ Xd hk r hx (fun b H' env' r' q => hq (!b) H' env' r' q) h
theorem ptd_of (h : PWd X W e tA bA) : PTd X W e tA bA := ⟨h.pt.pt, h.sim⟩
theorem pwd_and1 (ha : PTd X W a tA bA) : PWd X W (.BoolOp .And [a] pos) tA bA := ⟨pw_and1 ha.pt, ha.sim⟩
theorem pwd_or1 (ha : PTd X W a tA bA) : PWd X W (.BoolOp .Or [a] pos) tA bA := ⟨pw_or1 ha.pt, ha.sim⟩
theorem pwd_and (ha : PTd X W a tA bA) (hb : PWd X W (.BoolOp .And (b :: rest) pos) tB' bB) : PWd X W (.BoolOp .And (a :: b :: rest) pos) (tAnd tA tB') (bAnd bA bB) := ⟨pw_and ha.pt hb.pt, sim_and ha.sim hb.sim⟩
theorem pwd_or (ha : PTd X W a tA bA) (hb : PWd X W (.BoolOp .Or (b :: rest) pos) tB' bB) : PWd X W (.BoolOp .Or (a :: b :: rest) pos) (tOr tA tB') (bOr bA bB) := ⟨pw_or ha.pt hb.pt, sim_or ha.sim hb.sim⟩
theorem ptd_not (ha : PTd X W a tA bA) : PTd X W (.UnaryOp .Not a pos) (tNot tA) (bNot bA) := ⟨pt_not ha.pt, sim_not ha.sim⟩
/-- bools as values -/
def dAnd (da db : ED) : ED := fun env Q X => da env (fun s e => ∃ c, s = .val (.bool c) ∧ if c = true then db e Q X else Q (.val (.bool false)) e) X
def dOr (da db : ED) : ED := fun env Q X => da env (fun s e => ∃ c, s = .val (.bool c) ∧ if c = true then Q (.val (.bool true)) e else db e Q X) X
def dNot (da : ED) : ED := fun env Q X => da env (fun s e => ∃ c, s = .val (.bool c) ∧ Q (.val (.bool (!c))) e) X
theorem RelS.boolTop {x : Fx} {σ : St} {H : Hp} {env : Env} {T : List Ent} {v : V} {c : Bool} (r : RelS x σ H env ((some v, .val (.bool c)) :: T)) : v = .bl c := by
  have t := r.tmp (List.mem_cons_self ..)
  simpa only [Rp] using t
theorem RelS.bl {x : Fx} {σ : St} {H : Hp} {env : Env} {T : List Ent} (r : RelS x σ H env T) (c : Bool) : RelS x σ H env ((some (.bl c), .val (.bool c)) :: T) := r.push (by simp only [Rp])
theorem sim_andV (ha : SimE K W ta da) (hb : SimE K W tb db) : SimE K W (tAndV ta tb) (dAnd da db) := fun x σ H env T Q Qd Xd hk r hx hq h => by
  refine ha x σ H env T _ _ Xd hk r hx (fun v s H' env' r' q => ?_) h
  obtain ⟨c, rfl, q⟩ := q
  refine ⟨c, r'.boolTop, ?_⟩
  cases c with
  | true => exact hb x σ H' env' T Q Qd Xd hk r'.pop hx hq q
  | false => exact hq _ _ H' env' (r'.pop.bl false) q
theorem sim_orV (ha : SimE K W ta da) (hb : SimE K W tb db) : SimE K W (tOrV ta tb) (dOr da db) := fun x σ H env T Q Qd Xd hk r hx hq h => by
  refine ha x σ H env T _ _ Xd hk r hx (fun v s H' env' r' q => ?_) h
  obtain ⟨c, rfl, q⟩ := q
  refine ⟨c, r'.boolTop, ?_⟩
  cases c with
  | true => exact hq _ _ H' env' (r'.pop.bl true) q
  | false => exact hb x σ H' env' T Q Qd Xd hk r'.pop hx hq q
theorem sim_notV (ha : SimE K W ta da) : SimE K W (tNotV ta) (dNot da) := fun x σ H env T Q Qd Xd hk r hx hq h => by
  refine ha x σ H env T _ _ Xd hk r hx (fun v s H' env' r' q => ?_) h
  obtain ⟨c, rfl, q⟩ := q
  exact ⟨c, r'.boolTop, hq _ _ H' env' (r'.pop.bl (!c)) q⟩
theorem pd_one {op} (h : PEd X W a ta da) : PEd X W (.BoolOp op [a] pos) ta da := ⟨pe_one h.pe, h.sim⟩
theorem pd_and (ha : PEd X W a ta da) (hb : PEd X W (.BoolOp .And (b :: rest) pos) tb db) : PEd X W (.BoolOp .And (a :: b :: rest) pos) (tAndV ta tb) (dAnd da db) := ⟨pe_and ha.pe hb.pe, sim_andV ha.sim hb.sim⟩
theorem pd_or (ha : PEd X W a ta da) (hb : PEd X W (.BoolOp .Or (b :: rest) pos) tb db) : PEd X W (.BoolOp .Or (a :: b :: rest) pos) (tOrV ta tb) (dOr da db) := ⟨pe_or ha.pe hb.pe, sim_orV ha.sim hb.sim⟩
theorem pd_not (ha : PEd X W a ta da) : PEd X W (.UnaryOp .Not a pos) (tNotV ta) (dNot da) := ⟨pe_not ha.pe, sim_notV ha.sim⟩
def dIfE (s : BD) (da db : ED) : ED := fun env Q X => s env (fun b e => if b = true then da e Q X else db e Q X) X
theorem pd_if (hc : PTd X W c tA bA) (ha : PEd X W a ta da) (hb : PEd X W b tb db) : PEd X W (.IfExp c a b pos) (tIf tA ta tb) (dIfE bA da db) := ⟨pe_ifExp hc.pt ha.pe hb.pe, fun x σ H env T Q Qd Xd hk r hx hq h => by
  refine hc.sim x σ H env T _ _ Xd hk r hx (fun t H' env' r' q => ?_) h
  cases t with
  | true => exact ha.sim x σ H' env' T Q Qd Xd hk r' hx hq q
  | false => exact hb.sim x σ H' env' T Q Qd Xd hk r' hx hq q⟩

/-! ### argument lists, displays -/
def aNil : AD := fun env Q _ => Q [] env
def aCons (oa : OD) (ad : AD) : AD := fun env Q X => oa env (fun o e => ad e (fun os e2 => Q (o :: os) e2) X) X
theorem pad_nil : PAd X W [] tNil aNil := ⟨pa_nil, fun x σ H env T Q Qd Xd hk r hx hq h => hq [] [] H env r trivial h⟩
theorem pad_cons {t : TA} {ad : AD} (ha : POd X W e te oa) (hr : PAd X W es t ad) (hs : starEach (e :: es) X.env = (false, eval e X.env) :: starEach es X.env := by rfl) : PAd X W (e :: es) (tCons te t) (aCons oa ad) :=
  ⟨pa_cons ha.pe hr.pa hs, fun x σ H env T Q Qd Xd hk r hx hq h => by
    refine ha.sim x σ H env T _ _ Xd hk r hx (fun v o H' env' r' ok q => ?_) h
    refine hr.sim x σ H' env' _ _ _ Xd hk r' (hx.more (List.sublist_append_right _ _)) (fun vs os H2 e2 r2 ok2 q2 => ?_) q
    refine hq (v :: vs) (o :: os) H2 e2 (r2.permT ?_) ⟨ok, ok2⟩ q2
    show (tOp1 v o ++ tOps vs os ++ T).Perm (tOps vs os ++ (tOp1 v o ++ T))
    rw [← List.append_assoc]
    exact List.Perm.append_right _ List.perm_append_comm⟩
def valsOf : List Opn → Option (List PyData)
  | [] => some []
  | .v d :: os => (valsOf os).map (d :: ·)
  | .s _ :: _ => none
theorem vals_rp {x : Fx} {σ : St} {H : Hp} {env : Env} {T : List Ent} : ∀ {os : List Opn} {vs : List V} {ds : List PyData}, RelS x σ H env T → (∀ e ∈ tOps vs os, e ∈ T) → okOps σ vs os → valsOf os = some ds → RpL x.K H (ownOf x (σ.zip env ++ T)) ds vs
  | [], [], ds, r, hT, ok, h => by simp [valsOf] at h; subst h; exact .nil
  | [], v :: vs, ds, r, hT, ok, h => by simp [okOps] at ok
  | .v d :: os, [], ds, r, hT, ok, h => by simp [okOps] at ok
  | .v d :: os, v :: vs, ds, r, hT, ok, h => by
    simp only [valsOf, Option.map_eq_some_iff] at h
    obtain ⟨ds', h1, rfl⟩ := h
    refine .cons (r.tmp (hT _ ?_)) (vals_rp r (fun e he => hT e ?_) ok.2 h1)
    · simp [tOps, tOp1]
    · simp [tOps, he]
  | .s i :: os, vs, ds, r, hT, ok, h => by simp [valsOf] at h
def dTup (ad : AD) : ED := fun env Q X => ad env (fun os e => ∃ ds, valsOf os = some ds ∧ ds.length ≤ 1000 ∧ Q (.val (.tuple ds)) e) X
def dLst (ad : AD) : ED := fun env Q X => ad env (fun os e => ∃ ds, valsOf os = some ds ∧ ds.length ≤ 1000 ∧ Q (.own (.lst ds)) e) X
theorem k1000 {n : Nat} (h : n ≤ 1000) : n ≤ sizeLine := Nat.le_of_lt (small1000 h)
theorem pd_tup {t : TA} {ad : AD} {k} (h : PAd X W es t ad) : PEd X W (.Tuple es k pos) (tTup t) (dTup ad) := ⟨pe_tup h.pa, fun x σ H env T Q Qd Xd hk r hx hq hh => by
  refine h.sim x σ H env T _ _ Xd hk r hx (fun vs os H' env' r' ok q => ?_) hh
  obtain ⟨ds, e, hl, q⟩ := q
  have rv := vals_rp r' (fun e he => List.mem_append_left _ he) ok e
  refine ⟨by rw [rv.len]; exact k1000 hl, fun p hp => hq _ _ _ env' ((r'.newT hp rv).drop ?_) q⟩
  exact List.Sublist.cons_cons _ (List.sublist_append_right _ _)⟩
theorem pd_lst {t : TA} {ad : AD} (h : PAd X W es t ad) : PEd X W (.List es pos) (tLst t) (dLst ad) := ⟨pe_lst h.pa, fun x σ H env T Q Qd Xd hk r hx hq hh => by
  refine h.sim x σ H env T _ _ Xd hk r hx (fun vs os H' env' r' ok q => ?_) hh
  obtain ⟨ds, e, hl, q⟩ := q
  have rv := vals_rp r' (fun e he => List.mem_append_left _ he) ok e
  refine ⟨by rw [rv.len]; exact k1000 hl, fun p hp => hq _ _ _ env' ((r'.newL hp rv).drop ?_) q⟩
  exact List.Sublist.cons_cons _ (List.sublist_append_right _ _)⟩

/-! ### statements -/
variable {st : Stmt} {sts : List Stmt} {ts tu : TS} {sd su : SD}
def sNext : SD := fun D env => D.nx env
def sSeq (s u : SD) : SD := fun D env => s { D with nx := fun e => u D e } env
def sIf (c : BD) (s u : SD) : SD := fun D env => c env (fun b e => if b = true then s D e else u D e) D.ex
def sRet (td : ED) : SD := fun D env => td env (fun s e => D.rt s e) D.ex
def sDrop (td : ED) : SD := fun D env => td env (fun _ e => D.nx e) D.ex
def sAsg (td : ED) (g : GD) : SD := fun D env => td env (fun s e => g s e D.nx D.ex) D.ex
theorem pssd_nil : PSsd X W [] tNext sNext := ⟨pss_nil, fun x σ H env T D Dd hk r l h => l.nx σ H env r h⟩
theorem psd_pass : PSd X W (.Pass pos) tNext sNext := ⟨ps_pass, fun x σ H env T D Dd hk r l h => l.nx σ H env r h⟩
def sBreak : SD := fun D env => D.bk env
def sCont : SD := fun D env => D.ct env
theorem psd_break : PSd X W (.Break pos) tBreak sBreak := ⟨ps_break, fun x σ H env T D Dd hk r l h => l.bk σ H env r h⟩
theorem psd_continue : PSd X W (.Continue pos) tCont sCont := ⟨ps_continue, fun x σ H env T D Dd hk r l h => l.ct σ H env r h⟩
theorem pssd_cons (h1 : PSd X W st ts sd) (h2 : PSsd X W sts tu su) : PSsd X W (st :: sts) (tSeq ts tu) (sSeq sd su) := ⟨pss_cons h1.ps h2.ps, fun x σ H env T D Dd hk r l h =>
  h1.sim x σ H env T { D with nx := tu D } { Dd with nx := fun e => su Dd e } hk r ⟨fun σ' H' e' r' q => h2.sim x σ' H' e' T D Dd hk r' l q, l.bk, l.ct, l.rt, l.ex⟩ h⟩
theorem pssd_one (h1 : PSd X W st ts sd) : PSsd X W [st] ts sd := ⟨pss_one h1.ps, h1.sim⟩
theorem psd_if (hc : PTd X W c tA bA) {s1 s2 : List Stmt} (h1 : PSsd X W s1 ts sd) (h2 : PSsd X W s2 tu su) : PSd X W (.If c s1 s2 pos) (tIfS tA ts tu) (sIf bA sd su) := ⟨ps_if hc.pt h1.ps h2.ps, fun x σ H env T D Dd hk r l h => by
  refine hc.sim x σ H env T _ _ _ hk r l.ex (fun t H' env' r' q => ?_) h
  cases t with
  | true => exact h1.sim x σ H' env' T D Dd hk r' l q
  | false => exact h2.sim x σ H' env' T D Dd hk r' l q⟩
theorem psd_ret (he : PEd X W e te td) : PSd X W (.Return (some e) pos) (tRet te) (sRet td) := ⟨ps_ret he.pe, fun x σ H env T D Dd hk r l h =>
  he.sim x σ H env T _ _ _ hk r l.ex (fun v s H' env' r' q => l.rt σ H' env' v s r' q) h⟩
theorem psd_expr (he : PEd X W e te td) (hs : swapsWith e none pos.line X.env = pure false := by rfl) : PSd X W (.Expr e pos) (tDrop te) (sDrop td) := ⟨ps_expr he.pe hs, fun x σ H env T D Dd hk r l h =>
  he.sim x σ H env T _ _ _ hk r l.ex (fun v s H' env' r' q => l.nx σ H' env' r'.pop q) h⟩
theorem psd_never : PSd X W st tNever (fun _ _ => False) := ⟨ps_never, fun x σ H env T D Dd hk r l h => h.elim⟩
/-! ### targets -/
def gN (i : Nat) : GD := fun s env Q _ => Q (env.set i s)
theorem sim_gN {i : Nat} : SimG K W (gName i) (gN i) := fun x σ H env T v s Q Qd Xd hk r hx hq h => hq _ H _ r.store h
theorem pgd_name {i : Nat} (hN : X.N.Nodup) (hi : X.N[i]? = some x) (hx : Loc X.env.scope x) (hf : X.fn x = true ∨ X.env.scope.names.lookup x = some .local := by first | exact .inl rfl | exact .inr rfl | assumption) : PGd X W (.Name x pos) (gName i) (gN i) := ⟨pg_name hN hi hx hf, sim_gN⟩
theorem psd_asg {tg : Expr} {g : TG} {gd : GD} (he : PEd X W e te td) (hg : PGd X W tg g gd) (hs : swapsWithSole [tg] e pos.line X.env = pure false := by rfl) (hw : swappedStores [tg] e X.env = pure none := by rfl)
    (h1 : (assignEach [tg] X.env).map (·.2) = [assign tg X.env] := by rfl) : PSd X W (.Assign [tg] e pos) (tAsg te g) (sAsg td gd) := ⟨ps_asg he.pe hg.pg hs hw h1, fun x σ H env T D Dd hk r l h =>
  he.sim x σ H env T _ _ _ hk r l.ex (fun v s H' env' r' q => hg.sim x σ H' env' T v s _ _ _ hk r' l.ex (fun σ2 H2 e2 r2 q2 => l.nx σ2 H2 e2 r2 q2) q) h⟩
theorem psd_set {i : Nat} {pos' : Pos} (hN : X.N.Nodup) (hi : X.N[i]? = some x) (hx : Loc X.env.scope x) (he : PEd X W e te td) (hs : swapsWith e (some (.Name x pos')) pos.line X.env = pure false := by rfl) (hf : X.fn x = true ∨ X.env.scope.names.lookup x = some .local := by first | exact .inl rfl | exact .inr rfl | assumption) :
    PSd X W (.Assign [.Name x pos'] e pos) (tAsg te (gName i)) (sAsg td (gN i)) := ⟨ps_set hN hi hx he.pe hs hf, fun x σ H env T D Dd hk r l h =>
  he.sim x σ H env T _ _ _ hk r l.ex (fun v s H' env' r' q => sim_gN x σ H' env' T v s _ _ _ hk r' l.ex (fun σ2 H2 e2 r2 q2 => l.nx σ2 H2 e2 r2 q2) q) h⟩
def itemsT (vs : List V) (ds : List PyData) : List Ent := (vs.zip ds).map fun p => (some p.1, .val p.2)
theorem RelS.pushAll {x : Fx} {σ : St} {H : Hp} {env : Env} : ∀ {ds : List PyData} {vs : List V} {T : List Ent}, RelS x σ H env T → RpL x.K H (ownOf x (σ.zip env ++ T)) ds vs → RelS x σ H env (itemsT vs ds ++ T)
  | [], vs, T, r, h => by simp [itemsT]; exact r
  | d :: ds, vs, T, r, h => by
    simp only [RpL] at h
    obtain ⟨v, r', rfl, h1, h2⟩ := h
    have q := RelS.pushAll r h2
    refine q.push ?_
    refine h1.keep fun b o hb hn => ⟨hb, fun z => hn (z.imp id fun w => ?_)⟩
    obtain ⟨e, he, ha⟩ := mem_owned.mp w
    refine mem_owned.mpr ⟨e, ?_, ha⟩
    rcases List.mem_append.mp he
          with he | he
    · exact List.mem_append_left _ he
    · rcases List.mem_append.mp he
          with he | he
      · obtain ⟨p, _, rfl⟩ := List.mem_map.mp he
        obtain ⟨p1, p2⟩ := p
        cases p1 <;> simp [addrOf] at ha
      · exact List.mem_append_right _ he
def gsNil : GDs := fun ds env Q _ => ds = [] ∧ Q env
def gsCons (g : GD) (u : GDs) : GDs := fun ds env Q X => ∃ d r, ds = d :: r ∧ g (.val d) env (fun e => u r e Q X) X
def gT (n : Nat) (u : GDs) : GD := fun s env Q X => ∃ ds, s = .val (.tuple ds) ∧ ds.length = n ∧ u ds env Q X
def SimGs (K : PySem.W.Frag) (W : WX) (g : TGs) (gd : GDs) : Prop := ∀ (x : Fx) (σ : St) (H : Hp) (env : Env) (T : List Ent) (vs : List V) (ds : List PyData) (Q : St → Hp → Prop) (Qd : Env → Prop) (Xd : XD), x.K = K → vs.length = ds.length → RelS x σ H env (itemsT vs ds ++ T) → XL x T W Xd →
  (∀ σ' H' env', RelS x σ' H' env' T → Qd env' → Q σ' H') → gd ds env Qd Xd → g vs σ H Q
structure PGsd (X : Cx) (W : WX) (tg : List Expr) (g : TGs) (gd : GDs) : Prop where
  pg : PGs X tg g
  sim : SimGs X.K W g gd
theorem pgsd_nil : PGsd X W [] gNil gsNil := ⟨pgs_nil, fun x σ H env T vs ds Q Qd Xd hk hl r hx hq h => by
  obtain ⟨rfl, h⟩ := h
  have : vs = [] := by cases vs with | nil => rfl | cons _ _ => simp at hl
  subst this
  exact ⟨rfl, hq σ H env r h⟩⟩
theorem pgsd_cons {g : TG} {u : TGs} {gd : GD} {ud : GDs} (h1 : PGd X W e g gd) (h2 : PGsd X W es u ud) (hs : (assignEach (e :: es) X.env).map (·.2) = assign e X.env :: (assignEach es X.env).map (·.2) := by rfl) : PGsd X W (e :: es) (gCons g u) (gsCons gd ud) :=
  ⟨pgs_cons h1.pg h2.pg hs, fun x σ H env T vs ds Q Qd Xd hk hl r hx hq h => by
    obtain ⟨d, dr, rfl, h⟩ := h
    cases vs with
    | nil => simp at hl
    | cons v vs =>
      refine ⟨v, vs, rfl, ?_⟩
      have r' : RelS x σ H env ((some v, .val d) :: (itemsT vs dr ++ T)) := r
      exact h1.sim x σ H env _ v (.val d) _ _ Xd hk r' (hx.more (List.sublist_append_right _ _)) (fun σ2 H2 e2 r2 q2 => h2.sim x σ2 H2 e2 T vs dr Q Qd Xd hk (by simpa using hl) r2 hx hq q2) h⟩
theorem pgd_tup {k n : Nat} {u : TGs} {ud : GDs} (hc : X.calm = true) (h : PGsd X W es u ud) (hn : (assignEach es X.env).length = n := by rfl) (hst : (assignEach es X.env).findIdx? (·.1) = none := by rfl) : PGd X W (.Tuple es k pos) (gTup X.K n u) (gT n ud) :=
  ⟨pg_tup hc h.pg hn hst, fun x σ H env T v s Q Qd Xd hk r hx hq hh => by
    obtain ⟨ds, rfl, hl, hh⟩ := hh
    have t := r.tmp (List.mem_cons_self ..)
    obtain ⟨a, xs, rfl, h1, h2⟩ := (t.rc).tup
    rw [hk] at h1
    refine ⟨a, xs, rfl, h1, by rw [h2.len, hl], ?_⟩
    refine h.sim x σ H env _ xs ds Q Qd Xd hk h2.len (r.pushAll h2) hx.cons (fun σ2 H2 e2 r2 q2 => hq σ2 H2 e2 r2.pop q2) hh⟩
/-! ### loops -/
def sFor (id : ID) (g : GD) (sb : SD) : SD := fun D env => id env (fun ds e1 => ∃ I : Nat → Env → Prop, I 0 e1 ∧
  (∀ i d e, ds[i]? = some d → I i e → g (.val d) e (fun e2 => sb { D with nx := I (i + 1), ct := I (i + 1), bk := D.nx } e2) D.ex) ∧ ∀ e, I ds.length e → D.nx e) D.ex
theorem psd_for {tg iter : Expr} {body : List Stmt} {wi : TI} {id : ID} {g : TG} {gd : GD} (hp : PassesOwn (model X.prog X.w) X.A X.env X.xe) (hc : X.calm = true) (hi : PId X W tg iter wi id) (hg : PGd X W tg g gd) (hb : PSsd X W body ts sd)
    (hs : ∀ x, foldedSetIterable iter X.env x = pure x := by intro _; rfl) : PSd X W (.For tg iter body [] pos) (tFor wi g ts) (sFor id gd sd) := ⟨ps_for hp hc hi.pi hg.pg hb.ps hs, fun x σ H env T D Dd hk r l h => by
  refine hi.sim x σ H env T _ _ _ hk r l.ex (fun J T0 ds H1 e1 r1 wk q => ?_) h
  obtain ⟨I, i0, ih, il⟩ := q
  refine ⟨fun i m σ H => m = ds.length - i ∧ i ≤ ds.length ∧ ∃ e, RelS x σ H e (T0 ++ T) ∧ I i e, ⟨ds.length, by simp, Nat.zero_le _, e1, r1, i0⟩, ?_⟩
  rintro i m σ H ⟨rfl, hle, e, re, ie⟩
  by_cases hlt : i < ds.length
  · refine .inr ⟨wk.go i σ H e T re hlt, fun σ' H' => ∃ e', RelS x σ' H' e' (T0 ++ T) ∧ I (i + 1) e', fun σ' H' ⟨e', r', q'⟩ => ⟨ds.length - (i + 1), by omega, rfl, hlt, e', r', q'⟩, fun v H' y => ?_⟩
    have hd : ds[i]? = some ds[i] := List.getElem?_eq_getElem hlt
    have r2 := wk.yld i _ σ H e T v H' re hd y
    refine hg.sim x σ H' e (T0 ++ T) v _ _ _ _ hk r2 (l.ex.more (List.sublist_append_right _ _)) (fun σ3 H3 e3 r3 q3 => ?_) (ih i _ e hd ie)
    refine hb.sim x σ3 H3 e3 (T0 ++ T) { D with nx := fun σ' H' => ∃ e', RelS x σ' H' e' (T0 ++ T) ∧ I (i + 1) e', ct := fun σ' H' => ∃ e', RelS x σ' H' e' (T0 ++ T) ∧ I (i + 1) e', bk := D.nx } { Dd with nx := I (i + 1), ct := I (i + 1), bk := Dd.nx } hk r3 ⟨fun σ4 H4 e4 r4 q4 => ⟨e4, r4, q4⟩, fun σ4 H4 e4 r4 q4 => l.nx σ4 H4 e4 (r4.drop (List.sublist_append_right _ _)) q4, fun σ4 H4 e4 r4 q4 => ⟨e4, r4, q4⟩, fun σ4 H4 e4 v4 s4 r4 q4 => l.rt σ4 H4 e4 v4 s4 (r4.drop (List.Sublist.cons_cons _ (List.sublist_append_right _ _))) q4, l.ex.more (List.sublist_append_right _ _)⟩ q3
  · have e0 : i = ds.length := by omega
    subst e0
    exact .inl ⟨wk.stop _ σ H e T re rfl, l.nx σ H e (re.drop (List.sublist_append_right _ _)) (il e ie)⟩⟩
def sWhile (c : BD) (sb : SD) : SD := fun D env => ∃ I : Nat → Env → Prop, (∃ m, I m env) ∧ ∀ m e, I m e → c e (fun b e1 => if b = true then sb { D with nx := fun e' => ∃ m', m' < m ∧ I m' e', ct := fun e' => ∃ m', m' < m ∧ I m' e', bk := D.nx } e1 else D.nx e1) D.ex
theorem psd_while {body : List Stmt} (hp : PassesOwn (model X.prog X.w) X.A X.env X.xe) (hc : PTd X W c tA bA) (hb : PSsd X W body ts sd) : PSd X W (.While c body [] pos) (tWhile tA ts) (sWhile bA sd) := ⟨ps_while hp hc.pt hb.ps, fun x σ H env T D Dd hk r l h => by
  obtain ⟨I, ⟨m0, i0⟩, ih⟩ := h
  refine ⟨fun m σ H => ∃ e, RelS x σ H e T ∧ I m e, ⟨m0, env, r, i0⟩, ?_⟩
  rintro m σ H ⟨e, re, ie⟩
  refine hc.sim x σ H e T _ _ _ hk re l.ex (fun b H1 e1 r1 q1 => ?_) (ih m e ie)
  cases b with
  | true =>
    refine ⟨fun σ' H' => ∃ m', m' < m ∧ ∃ e', RelS x σ' H' e' T ∧ I m' e', fun σ' H' q => q, ?_⟩
    exact hb.sim x σ H1 e1 T { D with nx := fun σ' H' => ∃ m', m' < m ∧ ∃ e', RelS x σ' H' e' T ∧ I m' e', ct := fun σ' H' => ∃ m', m' < m ∧ ∃ e', RelS x σ' H' e' T ∧ I m' e', bk := D.nx } { Dd with nx := fun e' => ∃ m', m' < m ∧ I m' e', ct := fun e' => ∃ m', m' < m ∧ I m' e', bk := Dd.nx } hk r1 ⟨fun σ4 H4 e4 r4 ⟨m', l', q4⟩ => ⟨m', l', e4, r4, q4⟩, fun σ4 H4 e4 r4 q4 => l.nx σ4 H4 e4 r4 q4, fun σ4 H4 e4 r4 ⟨m', l', q4⟩ => ⟨m', l', e4, r4, q4⟩, l.rt, l.ex⟩ q1
  | false => exact l.nx σ H1 e1 r1 q1⟩
end
end PD
/-! What is walked; comprehensions. -/
namespace PD
open PySem L2
section
variable {X : Cx} {W : WX} {x y : Str} {pos p : Pos} {e a b c tg iter : Expr} {es rest : List Expr} {te ta tb : TE} {tA tB' : TT} {td da db : ED} {oa ob od : OD} {bA bB : BD} {K : PySem.W.Frag}
theorem mem_left {α : Type} {a : α} {l m : List α} (h : a ∈ l) : a ∈ l ++ m := List.mem_append_left _ h
theorem mem_right {α : Type} {a : α} {l m : List α} (h : a ∈ m) : a ∈ l ++ m := List.mem_append_right _ h
/-- Rp where the temporaries have moved -/
theorem Rp.own_eq {x : Fx} {H : Hp} {L L' : List Ent} {d : PyData} {v : V} (h : ∀ q, q ∈ owned L' → q ∈ owned L) (r : Rp x.K H (ownOf x L) d v) : Rp x.K H (ownOf x L') d v := r.keep fun b o hb hn => ⟨hb, fun z => hn (z.imp id (h b))⟩
theorem inv_len {X : Cx} {pins : List (Addr × Obj)} {σ : St} {H : Hp} {s : Shared} (I : Inv X pins σ H s) {a : Addr} {xs : List V} (h : SqL X.K H a xs) : xs.length ≤ sizeLine := by
  obtain ⟨_, _, _, z⟩ := I.list h
  exact z
/-- for x in a list -/
def iDL (od : OD) : ID := fun env Q X => od env (fun o e => ∃ ds, o = .v (.list ds) ∧ ds.length ≤ sizeLine ∧ Q ds e) X
def iDT (od : OD) : ID := fun env Q X => od env (fun o e => ∃ ds, o = .v (.tuple ds) ∧ ds.length ≤ sizeLine ∧ Q ds e) X
theorem Rc.lst {H : Hp} {own : Addr → Prop} {ds : List PyData} {v : V} (h : Rc K H own (.list ds) v) : ∃ a xs, v = .ref a ∧ SqL K H a xs ∧ RpL K H own ds xs := h
theorem wk_list {x : Fx} {a : Addr} {ds : List PyData} (hl : ds.length ≤ sizeLine) : Wk x (Itl x.K a) [(some (.ref a), .val (.list ds))] ds where
  go := fun i σ H env T r hi => by
    obtain ⟨b, xs, e, h1, h2⟩ := ((r.tmp (List.mem_cons_self ..)).rc).lst
    cases e
    exact ⟨xs, _, h1, List.getElem?_eq_getElem (by rw [h2.len]; exact hi)⟩
  yld := fun i d σ H env T v H' r hd y => by
    obtain ⟨rfl, y⟩ := y
    obtain ⟨b, xs, e, h1, h2⟩ := ((r.tmp (List.mem_cons_self ..)).rc).lst
    cases e
    obtain ⟨v', e', rv⟩ := h2.get hd
    rw [y xs h1] at e'; cases e'
    exact r.push rv
  stop := fun i σ H env T r hi => by
    obtain ⟨b, xs, e, h1, h2⟩ := ((r.tmp (List.mem_cons_self ..)).rc).lst
    cases e
    exact ⟨xs, h1, by rw [h2.len]; omega⟩
  le := hl
theorem wk_tup {x : Fx} {a : Addr} {ds : List PyData} (hl : ds.length ≤ sizeLine) : Wk x (Itt x.K a) [(some (.ref a), .val (.tuple ds))] ds where
  go := fun i σ H env T r hi => by
    obtain ⟨b, xs, e, h1, h2⟩ := ((r.tmp (List.mem_cons_self ..)).rc).tup
    cases e
    exact ⟨xs, _, h1, List.getElem?_eq_getElem (by rw [h2.len]; exact hi)⟩
  yld := fun i d σ H env T v H' r hd y => by
    obtain ⟨rfl, y⟩ := y
    obtain ⟨b, xs, e, h1, h2⟩ := ((r.tmp (List.mem_cons_self ..)).rc).tup
    cases e
    obtain ⟨v', e', rv⟩ := h2.get hd
    rw [y xs h1] at e'; cases e'
    exact r.push rv
  stop := fun i σ H env T r hi => by
    obtain ⟨b, xs, e, h1, h2⟩ := ((r.tmp (List.mem_cons_self ..)).rc).tup
    cases e
    exact ⟨xs, h1, by rw [h2.len]; omega⟩
  le := hl
theorem pid_list (ho : POd X W iter te od) : PId X W tg iter (iList X.K te) (iDL od) := ⟨pi_list ho.pe, fun x σ H env T R Qd Xd hk r hx hq h => by
  refine ho.sim x σ H env T _ _ Xd hk r hx (fun v o H1 e1 r1 ok q => ?_) h
  obtain ⟨ds, rfl, hl, q⟩ := q
  obtain ⟨a, xs, rfl, h1, h2⟩ := ((r1.tmp (List.mem_cons_self ..)).rc).lst
  rw [hk] at h1
  refine ⟨a, rfl, ⟨xs, h1⟩, ?_⟩
  rw [show Itl X.K a = Itl x.K a from by rw [hk]]
  exact hq _ [(some (.ref a), .val (.list ds))] ds H1 e1 r1 (wk_list hl) q⟩
theorem pid_tup (ho : POd X W iter te od) : PId X W tg iter (iTup X.K te) (iDT od) := ⟨pi_tup ho.pe, fun x σ H env T R Qd Xd hk r hx hq h => by
  refine ho.sim x σ H env T _ _ Xd hk r hx (fun v o H1 e1 r1 ok q => ?_) h
  obtain ⟨ds, rfl, hl, q⟩ := q
  obtain ⟨a, xs, rfl, h1, h2⟩ := ((r1.tmp (List.mem_cons_self ..)).rc).tup
  rw [hk] at h1
  refine ⟨a, rfl, ⟨xs, h1⟩, ?_⟩
  rw [show Itt X.K a = Itt x.K a from by rw [hk]]
  exact hq _ [(some (.ref a), .val (.tuple ds))] ds H1 e1 r1 (wk_tup hl) q⟩
/-! ### range, signs of a text, enumerate -/
def rangeD (lo : Int) (n : Nat) : List PyData := (List.range n).map fun i => .int (lo + (i : Nat))
theorem rangeD_len {lo : Int} {n : Nat} : (rangeD lo n).length = n := by simp [rangeD]
theorem wk_range {x : Fx} {lo : Int} {n : Nat} (hn : n ≤ sizeLine) : Wk x (Itr lo n) [] (rangeD lo n) where
  go := fun i σ H env T r hi => by rw [rangeD_len] at hi; exact hi
  yld := fun i d σ H env T v H' r hd y => by
    obtain ⟨rfl, rfl⟩ := y
    have hi := (List.getElem?_eq_some_iff.mp hd).1
    simp only [rangeD, List.getElem?_map, Option.map_eq_some_iff] at hd
    obtain ⟨j, hj, rfl⟩ := hd
    rw [List.getElem?_range (by rw [rangeD_len] at hi; exact hi)] at hj
    cases hj
    exact r.push (by simp only [Rp])
  stop := fun i σ H env T r hi => by rw [rangeD_len] at hi; exact Nat.le_of_eq hi.symm
  le := by rw [rangeD_len]; exact hn
def iRg1 (ad : AD) : ID := fun env Q X => ad env (fun os e => ∃ n : Int, (∃ o, os = [o] ∧ cont e o = some (.int n)) ∧ n ≤ 16777216 ∧ -4611686018427387904 ≤ n ∧ Q (rangeD 0 n.toNat) e) X
def iRg2 (ad : AD) : ID := fun env Q X => ad env (fun os e => ∃ m n : Int, (∃ o o', os = [o, o'] ∧ cont e o = some (.int m) ∧ cont e o' = some (.int n)) ∧ 0 ≤ m ∧ m ≤ 16777216 ∧ n ≤ 16777216 ∧ -4611686018427387904 ≤ n ∧ Q (rangeD m (n - m).toNat) e) X
theorem ops1 {x : Fx} {σ : St} {H : Hp} {env : Env} {T : List Ent} {vs : List V} {o : Opn} {d : PyData} (r : RelS x σ H env (tOps vs [o] ++ T)) (ok : okOps σ vs [o]) (h : cont env o = some d) : ∃ v, vs = [v] ∧ Rc x.K H (ownOf x (σ.zip env ++ (tOps vs [o] ++ T))) d v := by
  cases vs with
  | nil => simp [okOps] at ok
  | cons v vs =>
    cases vs with
    | nil => exact ⟨v, rfl, r.rc (fun e he => mem_left (by simpa [tOps] using he)) ok.1 h⟩
    | cons w vs => simp [okOps] at ok
theorem ops2 {x : Fx} {σ : St} {H : Hp} {env : Env} {T : List Ent} {vs : List V} {o o' : Opn} {d d' : PyData} (r : RelS x σ H env (tOps vs [o, o'] ++ T)) (ok : okOps σ vs [o, o']) (h : cont env o = some d) (h' : cont env o' = some d') :
    ∃ v v', vs = [v, v'] ∧ Rc x.K H (ownOf x (σ.zip env ++ (tOps vs [o, o'] ++ T))) d v ∧ Rc x.K H (ownOf x (σ.zip env ++ (tOps vs [o, o'] ++ T))) d' v' := by
  match vs, ok with
  | [v, v'], ok =>
    refine ⟨v, v', rfl, r.rc (fun e he => mem_left ?_) ok.1 h, r.rc (fun e he => mem_left ?_) ok.2.1 h'⟩
    · simp only [tOps, List.mem_append]; exact .inl he
    · simp only [tOps, List.mem_append]; exact .inr (.inl he)
theorem RelS.tail {x : Fx} {σ : St} {H : Hp} {env : Env} {A T : List Ent} (r : RelS x σ H env (A ++ T)) : RelS x σ H env T := r.drop (List.sublist_append_right _ _)
theorem pid_range1 {t : TA} {ad : AD} (hg : Gl X "range") (hm : X.mg "range" = none) (ha : PAd X W [a] t ad) (hs : starEach [a] X.env = [(false, eval a X.env)] := by rfl) : PId X W tg (.Call (.Name "range" p) [a] [] pos) (iRng1 t) (iRg1 ad) :=
  ⟨pi_range1 hg hm ha.pa hs, fun x σ H env T R Qd Xd hk r hx hq h => by
    refine ha.sim x σ H env T _ _ Xd hk r hx (fun vs os H1 e1 r1 ok q => ?_) h
    obtain ⟨n, ⟨o, rfl, hc⟩, h1, h2, q⟩ := q
    obtain ⟨v, rfl, rv⟩ := ops1 r1 ok hc
    have rv' : v = .int n := by simpa only [Rc, Rp] using rv
    subst rv'
    refine ⟨n, rfl, by omega, by omega, ?_⟩
    exact hq _ [] _ H1 e1 r1.tail (wk_range (by rw [sizeLine_eq]; omega)) q⟩
theorem pid_range2 {t : TA} {ad : AD} (hg : Gl X "range") (hm : X.mg "range" = none) (ha : PAd X W [a, b] t ad) (hs : starEach [a, b] X.env = [(false, eval a X.env), (false, eval b X.env)] := by rfl) (hs2 : starEach [b] X.env = [(false, eval b X.env)] := by rfl) :
    PId X W tg (.Call (.Name "range" p) [a, b] [] pos) (iRng2 t) (iRg2 ad) :=
  ⟨pi_range2 hg hm ha.pa hs hs2, fun x σ H env T R Qd Xd hk r hx hq h => by
    refine ha.sim x σ H env T _ _ Xd hk r hx (fun vs os H1 e1 r1 ok q => ?_) h
    obtain ⟨m, n, ⟨o, o', rfl, hc, hc'⟩, h0, h0', h1, h2, q⟩ := q
    obtain ⟨v, v', rfl, rv, rv'⟩ := ops2 r1 ok hc hc'
    have e1' : v = .int m := by simpa only [Rc, Rp] using rv
    have e2' : v' = .int n := by simpa only [Rc, Rp] using rv'
    subst e1' e2'
    refine ⟨m, n, rfl, ⟨by omega, by omega, by omega, by omega⟩, ?_⟩
    exact hq _ [] _ H1 e1 r1.tail (wk_range (by rw [sizeLine_eq]; omega)) q⟩
def signsD (z : Str) : List PyData := z.cps.toList.map fun c => .str ⟨#[c]⟩
theorem wk_str {x : Fx} {z : Str} (hz : z.length ≤ sizeLine) : Wk x (Its z) [] (signsD z) where
  go := fun i σ H env T r hi => by
    have : i < z.cps.size := by simpa [signsD] using hi
    exact this
  yld := fun i d σ H env T v H' r hd y => by
    obtain ⟨rfl, c, hc, rfl⟩ := y
    simp only [signsD, List.getElem?_map, Option.map_eq_some_iff, Array.getElem?_toList] at hd
    obtain ⟨c', hc', rfl⟩ := hd
    rw [hc] at hc'; cases hc'
    exact r.push (by simp only [Rp])
  stop := fun i σ H env T r hi => by
    have : i = z.cps.size := by simpa [signsD] using hi
    exact Nat.le_of_eq this.symm
  le := by
    have : (signsD z).length = z.length := by simp [signsD]; rfl
    rw [this]; exact hz
def iSt (od : OD) : ID := fun env Q X => od env (fun o e => ∃ z : Str, cont e o = some (.str z) ∧ z.length ≤ 16777216 ∧ Q (signsD z) e) X
theorem pid_str (ho : POd X W iter te od) : PId X W tg iter (iStr te) (iSt od) := ⟨pi_str ho.pe, fun x σ H env T R Qd Xd hk r hx hq h => by
  refine ho.sim x σ H env T _ _ Xd hk r hx (fun v o H1 e1 r1 ok q => ?_) h
  obtain ⟨z, hc, hz, q⟩ := q
  have rv := r1.rc (fun e he => mem_left he) ok hc
  have rv' : v = .str z := by simpa only [Rc, Rp] using rv
  subst rv'
  exact ⟨z, rfl, hq _ [] _ H1 e1 r1.tail (wk_str (by rw [sizeLine_eq]; exact hz)) q⟩⟩
def enumD (ds : List PyData) : List PyData := ds.zipIdx.map fun p => .tuple [.int (p.2 : Nat), p.1]
theorem wk_enum {x : Fx} {a : Addr} {ds : List PyData} (hl : ds.length ≤ sizeLine) : Wk x (Ite x.K a) [(some (.ref a), .val (.list ds))] (enumD ds) where
  go := fun i σ H env T r hi => by
    obtain ⟨b, xs, e, h1, h2⟩ := ((r.tmp (List.mem_cons_self ..)).rc).lst
    cases e
    exact ⟨xs, _, h1, List.getElem?_eq_getElem (by rw [h2.len]; simpa [enumD] using hi)⟩
  yld := fun i d σ H env T v H' r hd y => by
    obtain ⟨t, v0, rfl, ht, rfl, y⟩ := y
    obtain ⟨b, xs, e, h1, h2⟩ := ((r.tmp (List.mem_cons_self ..)).rc).lst
    cases e
    simp only [enumD, List.getElem?_map, Option.map_eq_some_iff, List.getElem?_zipIdx, Nat.zero_add] at hd
    obtain ⟨q, ⟨d0, hd0, rfl⟩, rfl⟩ := hd
    obtain ⟨v', e', rv⟩ := h2.get hd0
    rw [y xs h1] at e'; cases e'
    exact r.newT ht (.cons (by simp only [Rp]) (.cons rv .nil))
  stop := fun i σ H env T r hi => by
    obtain ⟨b, xs, e, h1, h2⟩ := ((r.tmp (List.mem_cons_self ..)).rc).lst
    cases e
    have hi' : i = ds.length := by simpa [enumD] using hi
    exact ⟨xs, h1, by rw [h2.len]; omega⟩
  le := by simpa [enumD] using hl
def iEnD (ad : AD) : ID := fun env Q X => ad env (fun os e => ∃ ds, os = [.v (.list ds)] ∧ ds.length ≤ sizeLine ∧ Q (enumD ds) e) X
theorem pid_enum {t : TA} {ad : AD} {tpos : Pos} {elts : List Expr} {kk : Nat} (hg : Gl X "enumerate") (hm : X.mg "enumerate" = none) (ha : PAd X W [e] t ad) (hs : starEach [e] X.env = [(false, eval e X.env)] := by rfl) :
    PId X W (.Tuple elts kk tpos) (.Call (.Name "enumerate" p) [e] [] pos) (iEnum X.K t) (iEnD ad) :=
  ⟨pi_enum hg hm ha.pa hs, fun x σ H env T R Qd Xd hk r hx hq h => by
    refine ha.sim x σ H env T _ _ Xd hk r hx (fun vs os H1 e1 r1 ok q => ?_) h
    obtain ⟨ds, rfl, hl, q⟩ := q
    obtain ⟨v, rfl, rv⟩ := ops1 r1 ok (d := .list ds) rfl
    obtain ⟨a, xs, rfl, h1, h2⟩ := rv.lst
    rw [hk] at h1
    refine ⟨a, xs, rfl, h1, ?_⟩
    rw [show Ite X.K a = Ite x.K a from by rw [hk]]
    have r2 : RelS x σ H1 e1 ([(some (V.ref a), Sl.val (.list ds))] ++ T) := r1
    exact hq _ [(some (.ref a), .val (.list ds))] _ H1 e1 r2 (wk_enum hl) q⟩

/-! ### comprehensions -/
def wipeD (env : Env) : List Nat → Env
  | [] => env
  | v :: vs => (wipeD env vs).set v .un
theorem RelS.wipe1 {x : Fx} {σ : St} {H : Hp} {env : Env} {T : List Ent} (r : RelS x σ H env T) (i : Nat) (ov : Option V) : RelS x (σ.set i ov) H (env.set i .un) T := by
  have ow : ∀ L : List Ent, owned ((ov, Sl.un) :: L) = owned L := fun L => by
    unfold owned
    rw [List.filterMap_cons_none]
    cases ov with
    | none => rfl
    | some v => cases v <;> rfl
  have r' : RelS x σ H env ((ov, .un) :: T) := by
    refine ⟨r.len, RelP.perm ?_ perm_mid⟩
    refine ⟨by rw [ow]; exact r.rel.nd, fun e he => ?_, r.rel.keep, r.rel.old, r.rel.fx, r.rel.fio⟩
    rw [show (fun b => x.F b ∨ b ∈ owned ((ov, Sl.un) :: (σ.zip env ++ T))) = ownOf x (σ.zip env ++ T) from by rw [ow]]
    rcases List.mem_cons.mp he
          with rfl | he
    · trivial
    · exact r.rel.ents e he
  exact r'.store (i := i)
theorem RelS.wipe {x : Fx} {σ : St} {H : Hp} {env : Env} {T : List Ent} (r : RelS x σ H env T) : ∀ vs : List Nat, RelS x (wipe σ vs) H (wipeD env vs) T
  | [] => r
  | v :: vs => (RelS.wipe r vs).wipe1 v none
theorem set_wipe_comm {σ : St} {i : Nat} {o : Option V} : ∀ vs : List Nat, i ∈ vs → wipe (σ.set i o) vs = wipe σ vs
  | [], h => by simp at h
  | v :: vs, h => by
    show (wipe (σ.set i o) vs).set v none = (wipe σ vs).set v none
    by_cases hi : i ∈ vs
    · rw [set_wipe_comm vs hi]
    · have hv : i = v := (List.mem_cons.mp h).resolve_right hi
      subst hv
      have key : ∀ ws : List Nat, i ∉ ws → wipe (σ.set i o) ws = (wipe σ ws).set i o := by
        intro ws
        induction ws with
        | nil => intro _; rfl
        | cons w ws ih =>
          intro hw
          have h1 : i ≠ w := fun z => hw (by simp [z])
          show (wipe (σ.set i o) ws).set w none = ((wipe σ ws).set w none).set i o
          rw [ih fun z => hw (by simp [z]), List.set_comm _ _ h1]
      rw [key vs hi, List.set_set]
theorem wipe_wipe {σ : St} : ∀ vs : List Nat, wipe (wipe σ vs) vs = wipe σ vs := fun vs => by
  have key : ∀ ws : List Nat, (∀ i ∈ ws, i ∈ vs) → wipe (wipe σ ws) vs = wipe σ vs := by
    intro ws
    induction ws with
    | nil => intro _; rfl
    | cons w ws ih =>
      intro hw
      show wipe ((wipe σ ws).set w none) vs = _
      rw [set_wipe_comm vs (hw w (by simp)), ih fun i hi => hw i (by simp [hi])]
  exact key vs fun _ h => h
/-- a comprehension's end: the slots are as they were -/
theorem RelS.unwipe {x : Fx} {σ : St} {H : Hp} {env : Env} {T : List Ent} : ∀ {vs : List Nat}, RelS x (L2.wipe σ vs) H env T → RelS x σ H (wipeD env vs) T
  | [], r => r
  | v :: vs, r => by
    have r1 : RelS x ((L2.wipe σ vs).set v none) H env T := r
    -- put back what stood at v
    have key : ∀ τ : St, RelS x (τ.set v none) H env T → RelS x τ H (env.set v .un) T := fun τ rr => by
      have := rr.wipe1 v (τ[v]?.join)
      rw [List.set_set] at this
      have e : τ.set v (τ[v]?.join) = τ := by
        by_cases hv : v < τ.length
        · have h0 : τ[v]? = some τ[v] := List.getElem?_eq_getElem hv
          rw [h0]
          exact set_self (by rw [h0]; rfl)
        · exact List.set_eq_of_length_le (by omega)
      rw [e] at this
      exact this
    have r2 := key _ r1
    have r3 := RelS.unwipe (vs := vs) r2
    have e : wipeD (env.set v .un) vs = (wipeD env vs).set v .un := by
      clear r r1 r2 r3 key
      induction vs with
      | nil => rfl
      | cons w ws ih =>
        show (wipeD (env.set v .un) ws).set w .un = ((wipeD env ws).set w .un).set v .un
        rw [ih]
        by_cases h : v = w
        · subst h; rfl
        · rw [List.set_comm _ _ h]
    show RelS x σ H ((wipeD env vs).set v .un) T
    rw [← e]
    exact r3
def NoX : XD := fun _ _ _ _ => False
theorem XL.no {x : Fx} {T : List Ent} {W : WX} : XL x T W NoX := fun _ _ _ _ _ _ _ _ _ _ h => h.elim
/-- a comprehension's target: names of its own -/
structure PGc (X : Cx) (vs : List Nat) (tg : Expr) (g : TG) (gd : GD) : Prop where
  pg : PG X tg g
  sim : ∀ (x : Fx) (σ : St) (H : Hp) (env : Env) (T : List Ent) (v : V) (s : Sl) (Q : St → Hp → Prop) (Qd : Env → Prop), x.K = X.K → RelS x σ H env ((some v, s) :: T) →
    (∀ σ' H' env', RelS x σ' H' env' T → wipe σ' vs = wipe σ vs → Qd env' → Q σ' H') → gd s env Qd NoX → g v σ H Q
theorem pgc_name {i : Nat} {vs : List Nat} (hN : X.N.Nodup) (hi : X.N[i]? = some x) (hx : Loc X.env.scope x) (hv : i ∈ vs) (hf : X.fn x = true ∨ X.env.scope.names.lookup x = some .local := by first | exact .inl rfl | exact .inr rfl | assumption) : PGc X vs (.Name x pos) (gName i) (gN i) :=
  ⟨pg_name hN hi hx hf, fun x σ H env T v s Q Qd hk r hq h => hq _ H _ r.store (set_wipe_comm vs hv) h⟩
structure PGcs (X : Cx) (vs : List Nat) (tg : List Expr) (g : TGs) (gd : GDs) : Prop where
  pg : PGs X tg g
  sim : ∀ (x : Fx) (σ : St) (H : Hp) (env : Env) (T : List Ent) (ws : List V) (ds : List PyData) (Q : St → Hp → Prop) (Qd : Env → Prop), x.K = X.K → ws.length = ds.length → RelS x σ H env (itemsT ws ds ++ T) →
    (∀ σ' H' env', RelS x σ' H' env' T → wipe σ' vs = wipe σ vs → Qd env' → Q σ' H') → gd ds env Qd NoX → g ws σ H Q
theorem pgcs_nil {vs : List Nat} : PGcs X vs [] gNil gsNil := ⟨pgs_nil, fun x σ H env T ws ds Q Qd hk hl r hq h => by
  obtain ⟨rfl, h⟩ := h
  have : ws = [] := by cases ws with | nil => rfl | cons _ _ => simp at hl
  subst this
  exact ⟨rfl, hq σ H env r rfl h⟩⟩
theorem pgcs_cons {vs : List Nat} {g : TG} {u : TGs} {gd : GD} {ud : GDs} (h1 : PGc X vs e g gd) (h2 : PGcs X vs es u ud) (hs : (assignEach (e :: es) X.env).map (·.2) = assign e X.env :: (assignEach es X.env).map (·.2) := by rfl) : PGcs X vs (e :: es) (gCons g u) (gsCons gd ud) :=
  ⟨pgs_cons h1.pg h2.pg hs, fun x σ H env T ws ds Q Qd hk hl r hq h => by
    obtain ⟨d, dr, rfl, h⟩ := h
    cases ws with
    | nil => simp at hl
    | cons v ws =>
      refine ⟨v, ws, rfl, ?_⟩
      have r' : RelS x σ H env ((some v, .val d) :: (itemsT ws dr ++ T)) := r
      exact h1.sim x σ H env _ v (.val d) _ _ hk r' (fun σ2 H2 e2 r2 w2 q2 => h2.sim x σ2 H2 e2 T ws dr Q Qd hk (by simpa using hl) r2 (fun σ3 H3 e3 r3 w3 q3 => hq σ3 H3 e3 r3 (w3.trans w2) q3) q2) h⟩
theorem pgc_tup {vs : List Nat} {k n : Nat} {u : TGs} {ud : GDs} (hc : X.calm = true) (h : PGcs X vs es u ud) (hn : (assignEach es X.env).length = n := by rfl) (hst : (assignEach es X.env).findIdx? (·.1) = none := by rfl) : PGc X vs (.Tuple es k pos) (gTup X.K n u) (gT n ud) :=
  ⟨pg_tup hc h.pg hn hst, fun x σ H env T v s Q Qd hk r hq hh => by
    obtain ⟨ds, rfl, hl, hh⟩ := hh
    have t := r.tmp (List.mem_cons_self ..)
    obtain ⟨a, xs, rfl, h1, h2⟩ := (t.rc).tup
    rw [hk] at h1
    refine ⟨a, xs, rfl, h1, by rw [h2.len, hl], ?_⟩
    exact h.sim x σ H env _ xs ds Q Qd hk h2.len (r.pushAll h2) (fun σ2 H2 e2 r2 w2 q2 => hq σ2 H2 e2 r2.pop w2 q2) hh⟩
structure PTsd (X : Cx) (W : WX) (ifs : List Expr) (t : TT) (bd : BD) : Prop where
  pt : PTs X ifs t
  sim : SimB X.K W t bd
def bYes : BD := fun env Q _ => Q true env
theorem ptsd_nil : PTsd X W [] tYes bYes := ⟨pts_nil, fun x σ H env T Q Qd Xd hk r hx hq h => hq true H env r h⟩
theorem ptsd_one (h : PTd X W c tA bA) : PTsd X W [c] tA bA := ⟨pts_one h.pt, h.sim⟩
def dLc (id : ID) (g : GD) (t : BD) (td : ED) (vs : List Nat) : ED := fun env Q X => id env (fun ds e1 => ∃ I : Nat → List PyData → Env → Prop, I 0 [] (wipeD e1 vs) ∧
  (∀ i acc e d, ds[i]? = some d → acc.length ≤ i → I i acc e → g (.val d) (wipeD e vs) (fun e2 => t e2 (fun b e3 => if b = true then td e3 (fun s e4 => ∃ y, frz s = some y ∧ I (i + 1) (acc ++ [y]) (wipeD e4 vs)) NoX else I (i + 1) acc (wipeD e3 vs)) NoX) NoX) ∧
  ∀ acc e, acc.length ≤ ds.length → I ds.length acc e → Q (.own (.lst acc)) (wipeD e vs)) X
theorem sim_lc {wi : TI} {id : ID} {g : TG} {gd : GD} {tt : TT} {bd : BD} {vs : List Nat} {W' : WX} (hi : SimI K W wi id)
    (hg : ∀ (x : Fx) (σ : St) (H : Hp) (env : Env) (T : List Ent) (v : V) (s : Sl) (Q : St → Hp → Prop) (Qd : Env → Prop), x.K = K → RelS x σ H env ((some v, s) :: T) → (∀ σ' H' env', RelS x σ' H' env' T → wipe σ' vs = wipe σ vs → Qd env' → Q σ' H') → gd s env Qd NoX → g v σ H Q)
    (ht : SimB K W' tt bd) (he : SimE K W' te td) : SimE K W (tLc wi g tt te vs) (dLc id gd bd td vs) := fun x σ H env T Q Qd Xd hk r hx hq h => by
  refine hi x σ H env T _ _ Xd hk r hx (fun J T0 ds H1 e1 r1 wk q => ?_) h
  obtain ⟨I, i0, ih, il⟩ := q
  intro D hD
  have rD : RelS x (wipe σ vs) (upd H1 D (.lst [])) (wipeD e1 vs) (T0 ++ ((some (.ref D), .own (.lst [])) :: T)) := ((r1.newL (ds := []) hD .nil).wipe vs).permT perm_mid
  refine ⟨fun i m H => m = ds.length - i ∧ i ≤ ds.length ∧ ∃ acc e, acc.length ≤ i ∧ RelS x (wipe σ vs) H e (T0 ++ ((some (.ref D), .own (.lst acc)) :: T)) ∧ I i acc e, ⟨ds.length, by simp, Nat.zero_le _, [], _, Nat.le_refl _, rD, i0⟩, ?_⟩
  rintro i m H ⟨rfl, hle, acc, e, hacc, re, ie⟩
  by_cases hlt : i < ds.length
  · refine .inr ⟨wk.go i _ H e _ re hlt, fun H' => ∃ acc' e', acc'.length ≤ i + 1 ∧ RelS x (wipe σ vs) H' e' (T0 ++ ((some (.ref D), .own (.lst acc')) :: T)) ∧ I (i + 1) acc' e', fun H' ⟨acc', e', l', r', q'⟩ => ⟨ds.length - (i + 1), by omega, rfl, hlt, acc', e', l', r', q'⟩, fun v H' y => ?_⟩
    have hd : ds[i]? = some ds[i] := List.getElem?_eq_getElem hlt
    have r2 := wk.yld i _ _ H e _ v H' re hd y
    have r2' := (r2.wipe vs)
    rw [wipe_wipe] at r2'
    refine hg x _ H' _ _ v _ _ _ hk r2' (fun σ3 H3 e3 r3 w3 q3 => ⟨?_, ?_⟩) (ih i acc e _ hd hacc ie)
    · exact w3.trans (wipe_wipe vs)
    · refine ht x σ3 H3 e3 _ _ _ NoX hk r3 XL.no (fun b H4 e4 r4 q4 => ?_) q3
      have back : ∀ {H5 : Hp} {e5 : Env} {T5 : List Ent}, RelS x σ3 H5 e5 T5 → RelS x (wipe σ vs) H5 (wipeD e5 vs) T5 := fun {H5 e5 T5} r5 => by
        have := r5.wipe vs
        rw [w3, wipe_wipe] at this
        exact this
      cases b with
      | true =>
        refine he x σ3 H4 e4 _ _ _ NoX hk r4 XL.no (fun v5 s5 H5 e5 r5 q5 => ?_) q4
        obtain ⟨yd, fy, q5⟩ := q5
        have r5' : RelS x σ3 H5 e5 ((some v5, .val yd) :: (T0 ++ ((some (.ref D), .own (.lst acc)) :: T))) := by
          cases s5 with
          | un => cases fy
          | val d' => cases fy; exact r5
          | own m =>
            cases m with
            | lst es => cases fy; exact r5.freezeT
          | io j m => cases fy
        have r6 : RelS x σ3 H5 e5 ((some (.ref D), .own (.lst acc)) :: ((some v5, .val yd) :: (T0 ++ T))) := r5'.permT (by
          refine List.Perm.trans (List.Perm.swap _ _ _) (List.Perm.cons _ ?_)
          exact perm_mid.symm)
        obtain ⟨p, xs, ep, hp, rx⟩ := r6.tmpL (List.mem_cons_self ..)
        cases ep
        have ry := r6.tmp (v := v5) (d := yd) (by simp)
        have hlen : acc.length + 1 ≤ ds.length := by omega
        have hle := wk.le
        refine ⟨xs, hp, by rw [rx.len]; omega, acc ++ [yd], wipeD e5 vs, by simp; omega, ?_, q5⟩
        have r7 := RelS.writeT r6 (xs := xs ++ [v5]) (ds' := acc ++ [yd]) (rx.append (.cons ry .nil))
        have r8 : RelS x σ3 (upd H5 D (.lst (xs ++ [v5]))) e5 (T0 ++ ((some (.ref D), .own (.lst (acc ++ [yd]))) :: T)) := (r7.drop (List.Sublist.cons_cons _ (List.sublist_cons_self _ _))).permT perm_mid
        exact back r8
      | false => exact ⟨acc, wipeD e4 vs, by omega, back r4, q4⟩
  · have e0 : i = ds.length := by omega
    subst e0
    refine .inl ⟨wk.stop _ _ H e _ re rfl, hq (.ref D) _ H _ ?_ (il acc e hacc ie)⟩
    exact (RelS.unwipe (re.drop (List.sublist_append_right _ _)))
theorem pd_lc {elt : Expr} {ifs : List Expr} {scope : Scope} {own : List (Str × Nat)} {wi : TI} {id : ID} {g : TG} {gd : GD} {tt : TT} {bd : BD} {W' : WX} (hc : X.calm = true) (hN : X.N.Nodup) (hi : PId X W tg iter wi id) (ok : BlkOk X.N X.env.scope scope own)
    (hg : ∀ (s : Shared) (H : Hp) (C : Addr) (cl : List (Str × Addr)) (fp : List Addr), PGc (X.blk s H scope (compEnvC scope cl C X.env) fp) (own.map (·.2)) tg g gd)
    (ht : ∀ (s : Shared) (H : Hp) (C : Addr) (cl : List (Str × Addr)) (fp : List Addr), PTsd (X.blk s H scope (compEnvC scope cl C X.env) fp) W' ifs tt bd)
    (he : ∀ (s : Shared) (H : Hp) (C : Addr) (cl : List (Str × Addr)) (fp : List Addr), PEd (X.blk s H scope (compEnvC scope cl C X.env) fp) W' elt te td) (hs : ∀ x, foldedSetIterable iter X.env x = pure x := by intro _; rfl) :
    PEd X W (.ListComp elt [⟨tg, iter, ifs, 0⟩] scope pos) (tLc wi g tt te (own.map (·.2))) (dLc id gd bd td (own.map (·.2))) :=
  ⟨pe_lc hc hN hi.pi ok (fun s H C cl fp => (hg s H C cl fp).pg) (fun s H C cl fp => (ht s H C cl fp).pt) (fun s H C cl fp => (he s H C cl fp).pe) hs,
   sim_lc hi.sim (hg X.s_0 (fun _ => none) 0 [] []).sim (ht X.s_0 (fun _ => none) 0 [] []).sim (he X.s_0 (fun _ => none) 0 [] []).sim⟩
theorem psd_setLc {i : Nat} {y : Str} {py spos : Pos} {elt : Expr} {ifs : List Expr} {scope : Scope} {own : List (Str × Nat)} {wi : TI} {id : ID} {g : TG} {gd : GD} {tt : TT} {bd : BD} {W' : WX} (hc : X.calm = true) (hN : X.N.Nodup) (hy : X.N[i]? = some y) (hyl : X.env.scope.names.lookup y = some .local)
    (hsw : swapsWith (.ListComp elt [⟨tg, iter, ifs, 0⟩] scope pos) (some (.Name y py)) spos.line X.env = pure true) (hi : PId X W tg iter wi id) (ok : BlkOk X.N X.env.scope scope own)
    (hg : ∀ (s : Shared) (H : Hp) (C : Addr) (cl : List (Str × Addr)) (fp : List Addr), PGc (X.blk s H scope (compEnvC scope cl C X.env) fp) (own.map (·.2)) tg g gd)
    (ht : ∀ (s : Shared) (H : Hp) (C : Addr) (cl : List (Str × Addr)) (fp : List Addr), PTsd (X.blk s H scope (compEnvC scope cl C X.env) fp) W' ifs tt bd)
    (he : ∀ (s : Shared) (H : Hp) (C : Addr) (cl : List (Str × Addr)) (fp : List Addr), PEd (X.blk s H scope (compEnvC scope cl C X.env) fp) W' elt te td) (hs : ∀ x, foldedSetIterable iter X.env x = pure x := by intro _; rfl) :
    PSd X W (.Assign [.Name y py] (.ListComp elt [⟨tg, iter, ifs, 0⟩] scope pos) spos) (tAsg (tLc wi g tt te (own.map (·.2))) (gName i)) (sAsg (dLc id gd bd td (own.map (·.2))) (gN i)) :=
  ⟨ps_setLc hc hN hy hyl hsw hi.pi ok (fun s H C cl fp => (hg s H C cl fp).pg) (fun s H C cl fp => (ht s H C cl fp).pt) (fun s H C cl fp => (he s H C cl fp).pe) hs, fun x σ H env T D Dd hk r l h =>
    sim_lc hi.sim (hg X.s_0 (fun _ => none) 0 [] []).sim (ht X.s_0 (fun _ => none) 0 [] []).sim (he X.s_0 (fun _ => none) 0 [] []).sim x σ H env T _ _ _ hk r l.ex (fun v s H' env' r' q => sim_gN x σ H' env' T v s _ _ _ hk r' l.ex (fun σ2 H2 e2 r2 q2 => l.nx σ2 H2 e2 r2 q2) q) h⟩
end
end PD
/-! Defs on plain data: what a def promises, its body, its calls; the law's end. -/
namespace PD
open PySem L2 PySem.Spec PyProof.Rows
/-- a def holds a promise wherever it is called while no guard (a repr) is under way -/
structure FnG (P : Program) (w : World) (K : PySem.W.Frag) (mg : Str → Option Value) (base : Heap) (k : Nat) (f : Addr) (fd : FuncData) (ps : List Str) (sp : Sp) : Prop where
  len
        : ∀ vs H Q E, sp vs H Q E → vs.length = ps.length
  run : ∀ (A : Around) (outer : List PySem.Env) (s : Shared) (H : Hp) (args : Args) (us : List Value) (vs : List V) (Q : VK) (E : XK),
    Room k A → A.guards = some [] → Env0 P w K mg base A outer s H → BindsTo s fd args (ps.zip us) → Vals vs us → sp vs H Q E →
    codeAny (model P w) A (.call (.ref f) args) (CR (L2.CX P w) outer P w H s Q E) s
section
variable {P : Program} {w : World} {K : PySem.W.Frag} {mg : Str → Option Value} {base : Heap}
theorem FnG.mono {j k : Nat} {f : Addr} {fd : FuncData} {ps : List Str} {sp : Sp} (F : FnG P w K mg base j f fd ps sp) (h : j ≤ k) : FnG P w K mg base k f fd ps sp :=
  ⟨F.len, fun A o s H args us vs Q E hr => F.run A o s H args us vs Q E (hr.mono h)⟩
/-- a def by its body -/
theorem funG {x qual : Str} {st : Stmt} {f : Addr} {fd : FuncData} {N ps : List Str} {k : Nat} {sp : Sp} (F : Fun K x qual st f fd) (S : FnScope N ps (defScope st)) (len : ∀ vs H Q E, sp vs H Q E → vs.length = ps.length)
    (hbody : ∀ (cdv : Value) (A : Around) (outer : List PySem.Env) (s : Shared) (H : Hp) (vs : List V) (Q : VK) (E : XK), Room k (A.deeper (envOfC qual (defScope st) s.heap.objs.size f cdv)) → A.guards = some [] → sp vs H Q E →
      ∃ t, PSs (cxOf (L2.CX P w) P w K mg base N qual (defScope st) f cdv A outer s H E) (defBody st) t ∧ t { nx := fun _ H' => Q .non H', rt := Q } (L2.start N vs) H) : FnG P w K mg base (k + 1) f fd ps sp := by
  obtain ⟨oc, od, kV, doc, pm, an,
        cdv, ct, osl, rfl, lk, hcd⟩ := F.ex
  refine ⟨len, fun A outer s H args us vs Q E hr hg e0 hb r hsp => ?_⟩
  have hl := len _ _ _ _ hsp
  have bk : ∀ b o, base.get? b = some o → s.heap.get? b = some o := fun b o e => (e0.bs b o e).1
  have KX := e0.mod.kin.keeps bk
  have hkind : ∀ y ∈ ps.zip us, (defScope st).names.lookup y.1 = some .local ∨
      ((defScope st).names.lookup y.1 = some .cell ∧ ((cellsFrom (s.heap.objs.size + 1) (defScope st).names []).lookup y.1).isSome = true) := by
    rintro ⟨n, v⟩ hy
    exact (S.par n (List.of_mem_zip hy).1).imp id fun q => ⟨q, PySem.W.cellsFrom_some _ _ _ (.inl q)⟩
  refine codeAny_call_function hr.depth (KX _ _ lk) rfl S.co S.gen rfl
    (PySem.W.codeRec_of KX hcd) (hb _ _ _ _ ?_)
  refine wpAny_newFunctionEnv_cells S.kind hkind ?_
  rintro env rfl s1 x
  refine ⟨(e0.mod.nolimit.keeps bk).keeps x.toInCall.keep, codeAny_func ?_⟩
  obtain ⟨t, ht, hq⟩ := hbody cdv A outer s H vs Q E (hr.deeper _) hg hsp
  have I := inv_start (CX := L2.CX P w) (mg := mg) (N := N) (qual := qual) (f := f) (cd := cdv) (E := E) S hr.hd e0 hl r x
  refine wpAny_mono (ht.run [] s1 (L2.start N vs) H _ I hq) ?_ fun e s' hs => hs
  intro fl s' hs
  cases fl with
  | ret u =>
    obtain ⟨v, σ', H',
          J, rv, q⟩ := hs
    exact ⟨v, H', J.os, J.bare, J.base, J.hok, rv, q⟩
  | next =>
    obtain ⟨σ', H', J, q⟩ := hs
    exact ⟨.non, H', J.os, J.bare, J.base, J.hok, rfl, q⟩
  | brk => exact False.elim hs.choose_spec.choose_spec.2
  | cont => exact False.elim hs.choose_spec.choose_spec.2
end
section
variable {X : Cx} {k : Nat} {f : Addr} {fd : FuncData} {ps : List Str} {sp : Sp} {E : L2.St → XK} {x : Str} {p pos : Pos} {e : Expr} {es : List Expr} {t : TA} {ds : List Value} {dvs : List V}
/-- a callee runs -/
theorem runG {pins : List (Addr × Obj)} {σ : L2.St} {H : Hp} {s : Shared} {Q : VK} {us : List Value} {vs : List V} (F : FnG X.prog X.w X.K X.mg X.base k f fd ps sp) (hr : Room k X.A) (hgd : X.A.guards = some [])
    (hb : Binds X.K fd ps ds) (hd : Vals dvs ds) (hx : PassesAt (L2.CX X.prog X.w) X σ (E σ)) (I : Inv X pins σ H s) (r : Vals vs us) (h : sp (vs ++ dvs) H Q (E σ)) :
    wpAny (model X.prog X.w) X.A (call (.ref
          f) us) (EP X pins σ Q) X.xe s := by
  have rr := r.append hd
  have bb := hb s us I.kIn (by rw [← rr.length]; exact F.len _ _ _ _ h)
  refine wpAny_call (codeAny_mono (F.run X.A X.stack s H ⟨us, []⟩ (us ++ ds) (vs ++ dvs) Q (E σ) hr hgd I.env0 bb rr h) ?_)
  rintro (e | fl) s' hq
  · exact hx pins H s e s' I hq
  · cases fl with
    | ret u => exact I.after hq
    | _ => exact False.elim hq
def tCallG (sp : Sp) (dvs : List V) (E : L2.St → XK) (t : TA) : TE := fun σ H Q => t σ H fun vs H1 => sp (vs ++ dvs) H1 Q (E σ)
theorem pe_callG (F : FnG X.prog X.w X.K X.mg X.base k f fd ps sp) (hr : Room k X.A) (hgd : X.A.guards = some []) (hg : Gl X x) (hm : X.mg x = some (.ref f)) (hk : PySem.W.keepIn X.K (.ref f) = true) (hb : Binds X.K fd ps ds) (hd : Vals dvs ds)
    (hx : ∀ σ, PassesAt (L2.CX X.prog X.w) X σ (E σ)) (ha : PA X (e :: es) t) (hdb : (x == ("__debug__" : Str)) = false := by decide) (he : starEach (e :: es) X.env = (false, eval e X.env) :: starEach es X.env := by rfl)
    (hpl : (backTo pos (starEach es X.env)).any (·.1) = false := by rfl) : PE X (.Call (.Name x p) (e :: es) [] pos) (tCallG sp dvs E t) := by
  refine ⟨fun pins s σ H Q I h => wpAny_Call_Name_kw (ld_glob I hg hm ?_ hdb)⟩
  refine PySem.W.callWith_K (h₀ := X.base) I.ok.mod.kin hk ?_ he hpl
  refine thn (ha.run pos pins s σ H _ I h) ?_
  rintro us s1 ⟨vs, H1, I1, r, q⟩
  exact ⟨I1.kIn, runG F hr hgd hb hd (hx σ) I1 r q⟩
theorem pe_callG0 (F : FnG X.prog X.w X.K X.mg X.base k f fd ps sp) (hr : Room k X.A) (hgd : X.A.guards = some []) (hg : Gl X x) (hm : X.mg x = some (.ref f)) (hk : PySem.W.keepIn X.K (.ref f) = true) (hb : Binds X.K fd ps ds) (hd : Vals dvs ds)
    (hx : ∀ σ, PassesAt (L2.CX X.prog X.w) X σ (E σ)) (hdb : (x == ("__debug__" : Str)) = false := by decide) : PE X (.Call (.Name x p) [] [] pos) (tCallG sp dvs E tNil) := by
  refine ⟨fun pins s σ H Q I h => wpAny_Call_Name_kw (ld_glob I hg hm ?_ hdb)⟩
  exact PySem.W.callWith_K0 I.kIn hk (runG (us := []) F hr hgd hb hd (hx σ) I .nil h)
end

/-! ### promises on data -/
/-- from the arguments' slots: what comes back (a value, or a new list), the arguments' slots behind; or an exception -/
abbrev SpD := List Sl → (Sl → List Sl → Prop) → XD → Prop
def ArgOk (x : Fx) (H : Hp) (j : Nat) (s : Sl) (v : V) : Prop :=
  match s with
  | .val d => Rp x.K H x.F d v
  | .io i m => i = j ∧ ∃ p, v = .ref p ∧ x.ioA j = some p ∧ MOk x.K H x.F p m
  | _ => False
/-- what the result alone holds -/
def resOwn (v : V) (s : Sl) : Addr → Prop := fun b => addrOf (some v, s) = some b
structure Post (x : Fx) (H' : Hp) (R : Addr → Prop) (as : List Sl) : Prop where
  keep : ∀ b o, x.H0 b = some o → (∀ j, x.ioA j ≠ some b) → H' b = some o
  old : ∀ b o, x.H0 b = some o → ∃ o', H' b = some o'
  io : ∀ j p, x.ioA j = some p → ∃ m, as[j]? = some (.io j m) ∧ MOk x.K H' (fun b => x.F b ∨ R b) p m
def ResOk (x : Fx) (H' : Hp) (s : Sl) (v : V) : Prop :=
  match s with
  | .val d => Rp x.K H' x.F d v
  | .own m => ∃ p, v = .ref p ∧ x.H0 p = none ∧ MOk x.K H' (fun b => x.F b ∨ b = p) p m
  | _ => False
structure Entry (x : Fx) (H : Hp) (as : List Sl) (vs : List V) : Prop where
  h0 : x.H0 = H
  len : as.length = vs.length
  F : ∀ b, x.F b → ∃ o, H b = some o
  io : ∀ j b, x.ioA j = some b → x.F b
  inj : ∀ i j b, x.ioA i = some b → x.ioA j = some b → i = j
  args : ∀ (j : Nat) (s : Sl) (v : V), as[j]? = some s → vs[j]? = some v → ArgOk x H j s v
  ioIn : ∀ j b, x.ioA j = some b → ∃ m, as[j]? = some (.io j m)
def SpOf (K : PySem.W.Frag) (sp : SpD) : Sp := fun vs H Q E => ∃ (x : Fx) (as : List Sl) (Qs : Sl → List Sl → Prop) (Xs : XD), x.K = K ∧ Entry x H as vs ∧ sp as Qs Xs ∧
  (∀ s as' v H', Qs s as' → Post x H' (resOwn v s) as' → ResOk x H' s v → Q v H') ∧
  ∀ C f d as' v dd H', Xs C f d as' → Post x H' (fun _ => False) as' → Rp K H' x.F d v → H' dd = some (.xd [(f, v)]) → E (.ref C) (some dd) H'
theorem ResOk.rel {x : Fx} {H : Hp} {s : Sl} {v : V} {σ : L2.St} {env : Env} {T : List Ent} (r : RelS x σ H env ((some v, s) :: T)) (hs : (∃ d, s = .val d) ∨ ∃ m, s = .own m) : ResOk x H s v := by
  have k : ∀ b o, H b = some o → ¬ ownOf x (σ.zip env ++ ((some v, s) :: T)) b → H b = some o ∧ ¬ x.F b := fun b o hb hn => ⟨hb, fun z => hn (.inl z)⟩
  rcases hs with ⟨d, rfl⟩ | ⟨m, rfl⟩
  · exact (r.tmp (List.mem_cons_self ..)).keep k
  · obtain ⟨p, e, h0, w⟩ := r.rel.ents (some v, .own m) (mem_right (List.mem_cons_self ..))
    simp only [Option.some.injEq] at e
    subst e
    refine ⟨p, rfl, h0, w.keepC (fun b o hb hn => ⟨hb, fun z => hn (z.imp id fun q => ?_)⟩) rfl⟩
    subst q
    exact mem_owned.mpr ⟨_, mem_right (List.mem_cons_self ..), rfl⟩
theorem RelS.post {x : Fx} {H : Hp} {σ : L2.St} {env : Env} {T : List Ent} {n : Nat} {R : Addr → Prop} (r : RelS x σ H env T) (hR : ∀ b, R b → b ∈ owned T) (hio : ∀ j p, x.ioA j = some p → j < n ∧ σ[j]? = some (some (.ref p)) ∧ ∃ m, env[j]? = some (.io j m)) : Post x H R (env.take n) := by
  have k : ∀ b o, H b = some o → ¬ ownOf x (σ.zip env ++ T) b → H b = some o ∧ ¬ (x.F b ∨ R b) := fun b o hb hn => ⟨hb, fun z => hn (z.imp id fun q => by
    obtain ⟨e, he, ha⟩ := mem_owned.mp (hR b q)
    exact mem_owned.mpr ⟨e, mem_right he, ha⟩)⟩
  refine ⟨r.rel.keep, r.rel.old, fun j p hj => ?_⟩
  obtain ⟨hn, hs, m, hm⟩ := hio j p hj
  refine ⟨m, by rw [List.getElem?_take_of_lt hn]; exact hm, ?_⟩
  obtain ⟨q, e, ha, w⟩ := r.rel.ents _ (r.mem hm hs)
  simp only [Option.some.injEq, V.ref.injEq] at e
  subst e
  exact w.keepC k rfl
/-- the io slots stand: an end of the body may be told -/
def IoIn (as : List Sl) (env : Env) : Prop := ∀ (j : Nat) (i : Nat) (m : MO), as[j]? = some (.io i m) → ∃ m', env[j]? = some (.io j m')
theorem addr_of_io {x : Fx} {H : Hp} {σ : L2.St} {env : Env} {T : List Ent} (r : RelS x σ H env T) {j : Nat} {m : MO} {p : Addr} (h : env[j]? = some (.io j m)) (hj : x.ioA j = some p) : σ[j]? = some (some (.ref p)) := by
  obtain ⟨ov, h2⟩ := r.sigma h
  obtain ⟨q, e, ha, _⟩ := r.rel.ents _ (r.mem h h2)
  simp only at e
  subst e
  rw [hj] at ha; cases ha
  exact h2
theorem entry_rel {x : Fx} {H : Hp} {as : List Sl} {vs : List V} {N : List Str} (E : Entry x H as vs) (hN : vs.length ≤ N.length) : RelS x (L2.start N vs) H (as ++ List.replicate (N.length - as.length) .un) [] := by
  have el := E.len
  have len : (L2.start N vs).length = (as ++ List.replicate (N.length - as.length) Sl.un).length := by
    unfold L2.start
    simp only [List.length_append, List.length_map, List.length_replicate]
    omega
  have get : ∀ (i : Nat) (e : Ent), ((L2.start N vs).zip (as ++ List.replicate (N.length - as.length) Sl.un))[i]? = some e →
      (∃ v s, vs[i]? = some v ∧ as[i]? = some s ∧ e = (some v, s)) ∨ e.2 = .un := by
    intro i e h
    obtain ⟨ov, s⟩ := e
    rw [List.getElem?_zip_eq_some] at h
    obtain ⟨h1, h2⟩ := h
    by_cases hi : i < as.length
    · left
      rw [List.getElem?_append_left hi] at h2
      unfold L2.start at h1
      rw [List.getElem?_append_left (by simp; omega), List.getElem?_map] at h1
      cases hv : vs[i]? with
      | none => rw [hv] at h1; cases h1
      | some v => rw [hv] at h1; cases h1; exact ⟨v, s, rfl, h2, rfl⟩
    · right
      rw [List.getElem?_append_right (by omega), List.getElem?_replicate] at h2
      split at h2
      · exact (Option.some.inj h2).symm
      · cases h2
  have isIo : ∀ (i : Nat) (e : Ent) (q : Addr), ((L2.start N vs).zip (as ++ List.replicate (N.length - as.length) Sl.un))[i]? = some e → addrOf e = some q → x.ioA i = some q := by
    intro i e q h ha
    rcases get i e h with ⟨v, s, h1, h2, rfl⟩ | h2
    · have w := E.args i s v h2 h1
      cases s with
      | un => exact w.elim
      | val d => cases v <;> simp [addrOf] at ha
      | own m => exact w.elim
      | io j m =>
        obtain ⟨rfl, p, rfl, hj, _⟩ := w
        simp only [addrOf, Option.some.injEq] at ha
        subst ha
        exact hj
    · obtain ⟨ov, s⟩ := e
      simp only at h2
      subst h2
      cases ov with
      | none => simp [addrOf] at ha
      | some v => cases v <;> simp [addrOf] at ha
  have ownF : ∀ q, q ∈ owned ((L2.start N vs).zip (as ++ List.replicate (N.length - as.length) Sl.un) ++ []) → x.F q := by
    intro q hq
    rw [List.append_nil] at hq
    obtain ⟨e, he, ha⟩ := mem_owned.mp hq
    obtain ⟨i, hi, en⟩ := List.getElem_of_mem he
    exact E.io i q (isIo i e q (by rw [List.getElem?_eq_getElem hi, en]) ha)
  refine ⟨len, ?_, fun e he => ?_, fun b o hb hj => by rw [← E.h0]; exact hb, fun b o hb => ⟨o, by rw [← E.h0]; exact hb⟩, fun b hb => by rw [E.h0]; exact E.F b hb, E.io⟩
  · rw [List.append_nil]
    -- no address twice
    have key : ∀ (L : List Ent) (off : Nat), (∀ (i : Nat) (e : Ent) (q : Addr), L[i]? = some e → addrOf e = some q → x.ioA (off + i) = some q) → (owned L).Nodup := by
      intro L
      induction L with
      | nil => intro off _; simp [owned]
      | cons e L ih =>
        intro off h
        have hrest := ih (off + 1) fun i e' q h1 h2 => by
          have := h (i + 1) e' q (by simpa using h1) h2
          rw [show off + 1 + i = off + (i + 1) from by omega]; exact this
        cases ha : addrOf e with
        | none =>
          have : owned (e :: L) = owned L := by unfold owned; rw [List.filterMap_cons_none ha]
          rw [this]; exact hrest
        | some q =>
          have : owned (e :: L) = q :: owned L := by unfold owned; rw [List.filterMap_cons_some ha]
          rw [this]
          refine List.nodup_cons.mpr ⟨fun hm => ?_, hrest⟩
          obtain ⟨e', he', ha'⟩ := mem_owned.mp hm
          obtain ⟨i, hi, en⟩ := List.getElem_of_mem he'
          have h1 := h (i + 1) e' q (by simp [List.getElem?_eq_getElem hi, en]) ha'
          have h0 := h 0 e q (by simp) ha
          have := E.inj _ _ _ h0 h1
          omega
    exact key _ 0 fun i e q h1 h2 => by rw [Nat.zero_add]; exact isIo i e q h1 h2
  · have k : ∀ b o, H b = some o → ¬ x.F b → H b = some o ∧ ¬ (x.F b ∨ b ∈ owned ((L2.start N vs).zip (as ++ List.replicate (N.length - as.length) Sl.un) ++ [])) := fun b o hb hn => ⟨hb, fun z => z.elim hn fun w => hn (ownF b w)⟩
    rw [List.append_nil] at he
    obtain ⟨i, hi, en⟩ := List.getElem_of_mem he
    have h' : ((L2.start N vs).zip (as ++ List.replicate (N.length - as.length) Sl.un))[i]? = some e := by rw [List.getElem?_eq_getElem hi, en]
    rcases get i e h' with ⟨v, s, h1, h2, rfl⟩ | h2
    · have w := E.args i s v h2 h1
      cases s with
      | un => exact w.elim
      | val d => exact ⟨v, rfl, w.keep k⟩
      | own m => exact w.elim
      | io j m =>
        obtain ⟨rfl, p, rfl, hj, wm⟩ := w
        exact ⟨p, rfl, hj, wm.keepC k rfl⟩
    · obtain ⟨ov, s⟩ := e
      simp only at h2
      subst h2
      trivial
/-- what an end of a def's body may hand back -/
def okRes : Sl → Prop
  | .val _ => True
  | .own _ => True
  | _ => False
/-- THE RULE for a def on plain data -/
theorem fnD {P : Program} {w : World} {K : PySem.W.Frag} {mg : Str → Option Value} {base : Heap} {x qual : Str} {st : Stmt} {f : Addr} {fd : FuncData} {N ps : List Str} {k : Nat} {sp : SpD} (F : Fun K x qual st f fd) (S : FnScope N ps (defScope st)) (hNp : ps.length ≤ N.length)
    (len : ∀ as Q X, sp as Q X → as.length = ps.length)
    (hbody : ∀ (cdv : Value) (A : Around) (outer : List PySem.Env) (s : Shared) (H : Hp) (E : XK), Room k (A.deeper (envOfC qual (defScope st) s.heap.objs.size f cdv)) → A.guards = some [] →
      ∃ ts sd, PSsd (cxOf (L2.CX P w) P w K mg base N qual (defScope st) f cdv A outer s H E) (fun cls d _ H => E cls d H) (defBody st) ts sd ∧
        ∀ as Q X, sp as Q X → sd { nx := fun e => IoIn as e ∧ Q (.val .none) (e.take ps.length), rt := fun s e => okRes s ∧ IoIn as e ∧ Q s (e.take ps.length), ex := fun C f d e => IoIn as e ∧ X C f d (e.take ps.length) } (as ++ List.replicate (N.length - as.length) .un)) :
    FnG P w K mg base (k + 1) f fd ps (SpOf K sp) := by
  refine funG F S (fun vs H Q E h => ?_) (fun cdv A outer s H vs Q E hr hg h => ?_)
  · obtain ⟨x, as, Qs, Xs, _, E, h, _⟩ := h
    rw [← E.len]; exact len _ _ _ h
  · obtain ⟨x, as, Qs, Xs, hK, En, h, hQ, hE⟩ := h
    obtain ⟨ts, sd, D, hs⟩ := hbody cdv A outer s H E hr hg
    have hl := len _ _ _ h
    have ioIn : ∀ {σ : L2.St} {H : Hp} {env : Env} {T : List Ent}, RelS x σ H env T → IoIn as env → ∀ j p, x.ioA j = some p → j < ps.length ∧ σ[j]? = some (some (.ref p)) ∧ ∃ m, env[j]? = some (.io j m) := fun {σ H env T} r io j p hj => by
      obtain ⟨m, hm⟩ := En.ioIn j p hj
      obtain ⟨m', hm'⟩ := io j j m hm
      refine ⟨by rw [← hl]; exact (List.getElem?_eq_some_iff.mp hm).1, addr_of_io r hm' hj, m', hm'⟩
    refine ⟨ts, D.ps, ?_⟩
    have r0 : RelS x (L2.start N vs) H (as ++ List.replicate (N.length - as.length) .un) [] := entry_rel En (by rw [← En.len, hl]; exact hNp)
    refine D.sim x (L2.start N vs) H _ [] { nx := fun _ H' => Q .non H', rt := Q } { nx := fun e => IoIn as e ∧ _, rt := fun s e => okRes s ∧ IoIn as e ∧ _, ex := fun C f d e => IoIn as e ∧ _ } hK r0 ⟨fun σ' H' e' r' q => ?_, fun σ' H' e' r' q => q.elim, fun σ' H' e' r' q => q.elim, fun σ' H' e' v s r' q => ?_, fun C fl d v dd σ' H' e' r' hd q => ?_⟩ (hs as _ _ h)
    · obtain ⟨io, q⟩ := q
      exact hQ _ _ .non H' q (r'.post (fun b z => by simp [resOwn, addrOf] at z) (ioIn r' io)) (by show Rp x.K H' x.F .none .non; simp only [Rp])
    · obtain ⟨ok, io, q⟩ := q
      refine hQ _ _ v H' q (r'.post (fun b z => mem_owned.mpr ⟨_, List.mem_cons_self .., z⟩) (ioIn r' io)) (ResOk.rel r' ?_)
      cases s with
      | un => exact ok.elim
      | val d => exact .inl ⟨d, rfl⟩
      | own m => exact .inr ⟨m, rfl⟩
      | io j m => exact ok.elim
    · obtain ⟨io, q⟩ := q
      have := ResOk.rel r' (.inl ⟨d, rfl⟩)
      refine hE _ _ _ _ v dd H' q (r'.post (fun b z => z.elim) (ioIn r' io)) ?_ hd
      rw [← hK]; exact this
end PD
/-! Calls of defs on plain data; the law's end. -/
namespace PD
open PySem L2 PySem.Spec PyProof.Rows
def argOf (env : Env) (j : Nat) : Opn → Option Sl
  | .v d => some (.val d)
  | .s i => match env[i]? with
    | some (.val d) => some (.val d)
    | some (.own m) => some (.io j m)
    | some (.io _ m) => some (.io j m)
    | _ => none
def argsOf (env : Env) : Nat → List Opn → Option (List Sl)
  | _, [] => some []
  | j, o :: os => (argOf env j o).bind fun a => (argsOf env (j + 1) os).map (a :: ·)
def updE : List Opn → List Sl → Env → Env
  | .s i :: os, .io _ m :: as, env => updE os as (match env[i]? with
    | some (.own _) => env.set i (.own m)
    | some (.io k _) => env.set i (.io k m)
    | _ => env)
  | _ :: os, _ :: as, env => updE os as env
  | _, _, env => env
def slotsOf (os : List Opn) : List Nat := os.filterMap fun o => match o with | .s i => some i | .v _ => none
def Ownd (s : Sl) : Prop := (∃ m, s = .own m) ∨ ∃ k m, s = .io k m
theorem slotsOf_s {i : Nat} {os : List Opn} : slotsOf (.s i :: os) = i :: slotsOf os := by simp [slotsOf]
theorem slotsOf_v {d : PyData} {os : List Opn} : slotsOf (.v d :: os) = slotsOf os := by simp [slotsOf]
theorem updE_len : ∀ (os : List Opn) (as : List Sl) (env : Env), (updE os as env).length = env.length
  | [], as, env => by simp [updE]
  | .v d :: os, [], env => by simp [updE]
  | .s i :: os, [], env => by simp [updE]
  | .v d :: os, a :: as, env => by simp only [updE]; exact updE_len os as env
  | .s i :: os, .io k m :: as, env => by
    simp only [updE]
    rw [updE_len]
    split <;> simp
  | .s i :: os, .un :: as, env => by simp only [updE]; exact updE_len os as env
  | .s i :: os, .val d :: as, env => by simp only [updE]; exact updE_len os as env
  | .s i :: os, .own m :: as, env => by simp only [updE]; exact updE_len os as env
theorem updE_off : ∀ (os : List Opn) (as : List Sl) (env : Env) (i : Nat), i ∉ slotsOf os → (updE os as env)[i]? = env[i]?
  | [], as, env, i, h => by simp [updE]
  | .v d :: os, [], env, i, h => by simp [updE]
  | .s j :: os, [], env, i, h => by simp [updE]
  | .v d :: os, a :: as, env, i, h => by simp only [updE]; exact updE_off os as env i (by rw [slotsOf_v] at h; exact h)
  | .s j :: os, .io k m :: as, env, i, h => by
    rw [slotsOf_s] at h
    have hj : j ≠ i := fun z => h (by simp [z])
    simp only [updE]
    rw [updE_off os as _ i fun z => h (List.mem_cons_of_mem _ z)]
    split
    · rw [List.getElem?_set_ne hj]
    · rw [List.getElem?_set_ne hj]
    · rfl
  | .s j :: os, .un :: as, env, i, h => by simp only [updE]; exact updE_off os as env i fun z => h (by rw [slotsOf_s]; exact List.mem_cons_of_mem _ z)
  | .s j :: os, .val d :: as, env, i, h => by simp only [updE]; exact updE_off os as env i fun z => h (by rw [slotsOf_s]; exact List.mem_cons_of_mem _ z)
  | .s j :: os, .own m :: as, env, i, h => by simp only [updE]; exact updE_off os as env i fun z => h (by rw [slotsOf_s]; exact List.mem_cons_of_mem _ z)
/-- what a call leaves in a slot -/
theorem updE_get : ∀ (os : List Opn) (as : List Sl) (env : Env), (slotsOf os).Nodup → ∀ (i : Nat) (s : Sl), env[i]? = some s →
    (∃ (j k : Nat) (m' : MO), os[j]? = some (.s i) ∧ as[j]? = some (.io k m') ∧ ((∃ m, s = .own m ∧ (updE os as env)[i]? = some (.own m')) ∨ ∃ kk m, s = .io kk m ∧ (updE os as env)[i]? = some (.io kk m'))) ∨
    ((updE os as env)[i]? = some s ∧ ∀ (j k : Nat) (m' : MO), os[j]? = some (.s i) → as[j]? = some (.io k m') → ¬ Ownd s)
  | [], as, env, nd, i, s, h => .inr ⟨by simp [updE]; exact h, fun j k m' q => by simp at q⟩
  | .v d :: os, [], env, nd, i, s, h => .inr ⟨by simp [updE]; exact h, fun j k m' _ q => by simp at q⟩
  | .s j :: os, [], env, nd, i, s, h => .inr ⟨by simp [updE]; exact h, fun j k m' _ q => by simp at q⟩
  | .v d :: os, a :: as, env, nd, i, s, h => by
    rw [slotsOf_v] at nd
    rcases updE_get os as env nd i s h with ⟨j, k, m', h1, h2, h3⟩ | ⟨h1, h2⟩
    · exact .inl ⟨j + 1, k, m', by simpa using h1, by simpa using h2, by simpa only [updE] using h3⟩
    · refine .inr ⟨by simpa only [updE] using h1, fun j k m' q1 q2 => ?_⟩
      cases j with
      | zero => simp at q1
      | succ j => exact h2 j k m' (by simpa using q1) (by simpa using q2)
  | .s i0 :: os, a :: as, env, nd, i, s, h => by
    rw [slotsOf_s] at nd
    obtain ⟨n1,
          n2⟩ := List.nodup_cons.mp nd
    by_cases hi : i0 = i
    · subst hi
      have off := fun env' => updE_off os as env' i0 n1
      have noJ : ∀ j : Nat, os[j]? = some (.s i0) → False := fun j q => n1 (List.mem_filterMap.mpr ⟨.s i0, List.mem_of_getElem? q, rfl⟩)
      cases a with
      | io k m' =>
        have hlt := (List.getElem?_eq_some_iff.mp h).1
        cases s with
        | own m =>
          refine .inl ⟨0, k, m', by simp, by simp, .inl ⟨m, rfl, ?_⟩⟩
          simp only [updE, h]
          rw [off, List.getElem?_set_self hlt]
        | io kk m =>
          refine .inl ⟨0, k, m', by simp, by simp, .inr ⟨kk, m, rfl, ?_⟩⟩
          simp only [updE, h]
          rw [off, List.getElem?_set_self hlt]
        | un => exact .inr ⟨by simp only [updE, h]; rw [off]; exact h, fun j k m' q1 q2 z => by rcases z with ⟨m, z⟩ | ⟨_, m, z⟩ <;> cases z⟩
        | val d => exact .inr ⟨by simp only [updE, h]; rw [off]; exact h, fun j k m' q1 q2 z => by rcases z with ⟨m, z⟩ | ⟨_, m, z⟩ <;> cases z⟩
      | un => exact .inr ⟨by simp only [updE]; rw [off]; exact h, fun j k m' q1 q2 => by
          cases j with
          | zero => simp at q2
          | succ j => exact (noJ j (by simpa using q1)).elim⟩
      | val d => exact .inr ⟨by simp only [updE]; rw [off]; exact h, fun j k m' q1 q2 => by
          cases j with
          | zero => simp at q2
          | succ j => exact (noJ j (by simpa using q1)).elim⟩
      | own m => exact .inr ⟨by simp only [updE]; rw [off]; exact h, fun j k m' q1 q2 => by
          cases j with
          | zero => simp at q2
          | succ j => exact (noJ j (by simpa using q1)).elim⟩
    · have step : ∃ env', env'[i]? = some s ∧ updE (.s i0 :: os) (a :: as) env = updE os as env' := by
        cases a with
        | io k m' =>
          simp only [updE]
          refine ⟨_, ?_, rfl⟩
          split
          · rw [List.getElem?_set_ne hi]; exact h
          · rw [List.getElem?_set_ne hi]; exact h
          · exact h
        | un => exact ⟨env, h, by simp only [updE]⟩
        | val d => exact ⟨env, h, by simp only [updE]⟩
        | own m => exact ⟨env, h, by simp only [updE]⟩
      obtain ⟨env', h', e'⟩ := step
      rw [e']
      rcases updE_get os as env' n2 i s h' with ⟨j, k, m', h1, h2, h3⟩ | ⟨h1, h2⟩
      · exact .inl ⟨j + 1, k, m', by simpa using h1, by simpa using h2, h3⟩
      · refine .inr ⟨h1, fun j k m' q1 q2 => ?_⟩
        cases j with
        | zero => simp at q1; exact (hi q1).elim
        | succ j => exact h2 j k m' (by simpa using q1) (by simpa using q2)
theorem argsOf_get {env : Env} : ∀ {os : List Opn} {j0 : Nat} {as : List Sl} {j : Nat} {o : Opn}, argsOf env j0 os = some as → os[j]? = some o → ∃ a, as[j]? = some a ∧ argOf env (j0 + j) o = some a
  | [], j0, as, j, o, h, q => by simp at q
  | o0 :: os, j0, as, j, o, h, q => by
    simp only [argsOf, Option.bind_eq_some_iff, Option.map_eq_some_iff] at h
    obtain ⟨a, h1, r, h2, rfl⟩ := h
    cases j with
    | zero => simp at q; subst q; exact ⟨a, rfl, h1⟩
    | succ j =>
      obtain ⟨b, q1, q2⟩ := argsOf_get h2 (by simpa using q)
      exact ⟨b, by simpa using q1, by rw [show j0 + (j + 1) = j0 + 1 + j from by omega]; exact q2⟩
theorem argsOf_len {env : Env} : ∀ {os : List Opn} {j0 : Nat} {as : List Sl}, argsOf env j0 os = some as → as.length = os.length
  | [], j0, as, h => by simp [argsOf] at h; subst h; rfl
  | o0 :: os, j0, as, h => by
    simp only [argsOf, Option.bind_eq_some_iff, Option.map_eq_some_iff] at h
    obtain ⟨a, h1, r, h2, rfl⟩ := h
    simp [argsOf_len h2]
theorem okOps_len {σ : L2.St} : ∀ {vs : List V} {os : List Opn}, okOps σ vs os → vs.length = os.length
  | [], [], _ => rfl
  | v :: vs, o :: os, h => by simp [okOps_len h.2]
  | [], o :: os, h => h.elim
  | v :: vs, [], h => h.elim
theorem okOps_get {σ : L2.St} : ∀ {vs : List V} {os : List Opn} {j : Nat} {v : V} {o : Opn}, okOps σ vs os → vs[j]? = some v → os[j]? = some o → okOp σ v o ∧ ∀ e ∈ tOp1 v o, e ∈ tOps vs os
  | [], [], j, v, o, h, q1, q2 => by simp at q1
  | v0 :: vs, o0 :: os, j, v, o, h, q1, q2 => by
    cases j with
    | zero =>
      simp at q1 q2
      subst q1 q2
      exact ⟨h.1, fun e he => by simp only [tOps]; exact mem_left he⟩
    | succ j =>
      obtain ⟨h1, h2⟩ := okOps_get (j := j) h.2 (by simpa using q1) (by simpa using q2)
      exact ⟨h1, fun e he => by simp only [tOps]; exact mem_right (h2 e he)⟩
  | [], o :: os, j, v, o', h, _, _ => h.elim
  | v :: vs, [], j, v', o', h, _, _ => h.elim
theorem nodup_addr : ∀ {L : List Ent} {i j : Nat} {e e' : Ent} {p : Addr}, (owned L).Nodup → L[i]? = some e → L[j]? = some e' → addrOf e = some p → addrOf e' = some p → i = j
  | [], i, j, e, e', p, nd, h1, h2, a1, a2 => by simp at h1
  | e0 :: L, i, j, e, e', p, nd, h1, h2, a1, a2 => by
    have tl : (owned L).Nodup := nd.sublist ((List.sublist_cons_self e0 L).filterMap addrOf)
    have hd : ∀ (n : Nat) (z : Ent), L[n]? = some z → addrOf z = some p → addrOf e0 = some p → False := fun n z hz az a0 => by
      have : owned (e0 :: L) = p :: owned L := by unfold owned; rw [List.filterMap_cons_some a0]
      rw [this] at nd
      exact (List.nodup_cons.mp nd).1 (mem_owned.mpr ⟨z, List.mem_of_getElem? hz, az⟩)
    cases i with
    | zero =>
      simp at h1; subst h1
      cases j with
      | zero => rfl
      | succ j => exact (hd j e' (by simpa using h2) a2 a1).elim
    | succ i =>
      cases j with
      | zero => simp at h2; subst h2; exact (hd i e (by simpa using h1) a1 a2).elim
      | succ j => rw [nodup_addr (L := L) (i := i) (j := j) tl (by simpa using h1) (by simpa using h2) a1 a2]
def refOf : Option V → Option Addr
  | some (.ref p) => some p
  | _ => none
/-- the callee's frame -/
def calleeFx (x : Fx) (σ : L2.St) (H : Hp) (env : Env) (L : List Ent) (os : List Opn) : Fx where
  K := x.K
  H0 := H
  F := ownOf x L
  ioA := fun j => match os[j]? with
    | some (.s i) => (match env[i]? with
      | some (.own _) => (σ[i]?).bind refOf
      | some (.io _ _) => (σ[i]?).bind refOf
      | _ => none)
    | _ => none
theorem callee_io {x : Fx} {σ : L2.St} {H : Hp} {env : Env} {L : List Ent} {os : List Opn} {j : Nat} {p : Addr} (h : (calleeFx x σ H env L os).ioA j = some p) : ∃ i s, os[j]? = some (.s i) ∧ env[i]? = some s ∧ Ownd s ∧ σ[i]? = some (some (.ref p)) := by
  simp only [calleeFx] at h
  split at h
  · rename_i i hi
    have key : ∀ q : (σ[i]?).bind refOf = some p, σ[i]? = some (some (.ref p)) := fun q => by
      cases hs : σ[i]? with
      | none => rw [hs] at q; cases q
      | some ov =>
        rw [hs] at q
        cases ov with
        | none => cases q
        | some v => cases v <;> simp [refOf] at q; subst q; rfl
    split at h
    · rename_i m hm
      exact ⟨i, _, hi, hm, .inl ⟨m, rfl⟩, key h⟩
    · rename_i k m hm
      exact ⟨i, _, hi, hm, .inr ⟨k, m, rfl⟩, key h⟩
    · cases h
  · cases h
theorem addr_ownd {p : Addr} {s : Sl} (h : Ownd s) : addrOf (some (.ref p), s) = some p := by
  rcases h with ⟨m, rfl⟩ | ⟨k, m, rfl⟩ <;> rfl
theorem call_entry {x : Fx} {σ : L2.St} {H : Hp} {env : Env} {T : List Ent} {vs : List V} {os : List Opn} {as : List Sl} (r : RelS x σ H env (tOps vs os ++ T)) (ok : okOps σ vs os) (nd : (slotsOf os).Nodup) (ha : argsOf env 0 os = some as) :
    Entry (calleeFx x σ H env (σ.zip env ++ (tOps vs os ++ T)) os) H as vs := by
  refine ⟨rfl, by rw [argsOf_len ha, okOps_len ok], fun b hb => r.rel.there hb, fun j b hj => ?_, fun i j b h1 h2 => ?_, fun j s v h1 h2 => ?_, fun j b hj => ?_⟩
  · obtain ⟨i, s, _, h2, h3, h4⟩ := callee_io hj
    exact .inr (mem_owned.mpr ⟨_, r.mem h2 h4, addr_ownd h3⟩)
  · obtain ⟨i1, s1, q1, q2, q3, q4⟩ := callee_io h1
    obtain ⟨i2, s2, w1, w2, w3, w4⟩ := callee_io h2
    have e1 : (σ.zip env ++ (tOps vs os ++ T))[i1]? = some (some (.ref b), s1) := by
      have := zip_get q4 q2
      rw [List.getElem?_append_left (List.getElem?_eq_some_iff.mp this).1]; exact this
    have e2 : (σ.zip env ++ (tOps vs os ++ T))[i2]? = some (some (.ref b), s2) := by
      have := zip_get w4 w2
      rw [List.getElem?_append_left (List.getElem?_eq_some_iff.mp this).1]; exact this
    have := nodup_addr r.rel.nd e1 e2 (addr_ownd q3) (addr_ownd w3)
    subst this
    -- the same slot at two places
    have key : ∀ (l : List Opn) (a b : Nat), (slotsOf l).Nodup → l[a]? = some (.s i1) → l[b]? = some (.s i1) → a = b := by
      intro l
      induction l with
      | nil => intro a b _ h; simp at h
      | cons o l ih =>
        intro a b nd ha hb
        cases o with
        | v d =>
          rw [slotsOf_v] at nd
          cases a with
          | zero => simp at ha
          | succ a => cases b with
            | zero => simp at hb
            | succ b => rw [ih a b nd (by simpa using ha) (by simpa using hb)]
        | s i =>
          rw [slotsOf_s] at nd
          obtain ⟨n1,
                n2⟩ := List.nodup_cons.mp nd
          have no : ∀ c : Nat, l[c]? = some (.s i) → False := fun c q => n1 (List.mem_filterMap.mpr ⟨.s i, List.mem_of_getElem? q, rfl⟩)
          cases a with
          | zero =>
            simp at ha; subst ha
            cases b with
            | zero => rfl
            | succ b => exact (no b (by simpa using hb)).elim
          | succ a => cases b with
            | zero => simp at hb; subst hb; exact (no a (by simpa using ha)).elim
            | succ b => rw [ih a b n2 (by simpa using ha) (by simpa using hb)]
    exact key os i j nd q1 w1
  · have hj : j < os.length := by rw [← argsOf_len ha]; exact (List.getElem?_eq_some_iff.mp h1).1
    obtain ⟨a, h3, h4⟩ := argsOf_get ha (List.getElem?_eq_getElem hj)
    rw [h1] at h3; cases h3
    rw [Nat.zero_add] at h4
    obtain ⟨okj, mj⟩ := okOps_get ok h2 (List.getElem?_eq_getElem hj)
    generalize ho : os[j] = o at h4 okj mj
    have ho' : os[j]? = some o := by rw [List.getElem?_eq_getElem hj, ho]
    cases o with
    | v d =>
      simp only [argOf, Option.some.injEq] at h4
      subst h4
      exact r.tmp (mem_left (mj _ (by simp [tOp1])))
    | s i =>
      simp only [okOp] at okj
      simp only [argOf] at h4
      split at h4
      · rename_i d hd
        cases h4
        obtain ⟨v', e', q⟩ := r.val hd
        rw [okj] at e'; cases e'
        exact q
      · rename_i m hm
        cases h4
        obtain ⟨p, e1, _, w⟩ := r.rel.ents _ (r.mem hm okj)
        simp only [Option.some.injEq] at e1
        subst e1
        refine ⟨rfl, p, rfl, ?_, w⟩
        simp only [calleeFx, ho', hm, okj]
        rfl
      · rename_i k m hm
        cases h4
        obtain ⟨p, e1, _, w⟩ := r.rel.ents _ (r.mem hm okj)
        simp only [Option.some.injEq] at e1
        subst e1
        refine ⟨rfl, p, rfl, ?_, w⟩
        simp only [calleeFx, ho', hm, okj]
        rfl
      · cases h4
  · obtain ⟨i, s, h1, h2, h3, h4⟩ := callee_io hj
    obtain ⟨a, q1, q2⟩ := argsOf_get ha h1
    rw [Nat.zero_add] at q2
    rcases h3 with ⟨m, rfl⟩ | ⟨k, m, rfl⟩
    · simp only [argOf, h2, Option.some.injEq] at q2
      subst q2
      exact ⟨m, q1⟩
    · simp only [argOf, h2, Option.some.injEq] at q2
      subst q2
      exact ⟨m, q1⟩
/-- behind the call -/
theorem call_done {x : Fx} {σ : L2.St} {H H' : Hp} {env : Env} {T' : List Ent} {os : List Opn} {as : List Sl} {R : Addr → Prop} (r : RelS x σ H env T') (nd : (slotsOf os).Nodup) (hR : ∀ b, R b → H b = none)
    (P : Post (calleeFx x σ H env (σ.zip env ++ T') os) H' R as) :
    owned (σ.zip (updE os as env) ++ T') = owned (σ.zip env ++ T') ∧ (∀ e ∈ σ.zip (updE os as env) ++ T', EntOk x H' (fun b => ownOf x (σ.zip env ++ T') b ∨ R b) e) ∧
      (∀ b o, x.H0 b = some o → (∀ j, x.ioA j ≠ some b) → H' b = some o) ∧ ∀ b o, x.H0 b = some o → ∃ o', H' b = some o' := by
  have hlen : (σ.zip (updE os as env)).length = (σ.zip env).length := by simp [updE_len]
  have owner : ∀ j p, (calleeFx x σ H env (σ.zip env ++ T') os).ioA j = some p → ∃ i s, os[j]? = some (.s i) ∧ env[i]? = some s ∧ Ownd s ∧ σ[i]? = some (some (.ref p)) ∧ (σ.zip env ++ T')[i]? = some (some (.ref p), s) := fun j p h => by
    obtain ⟨i, s, h1, h2, h3, h4⟩ := callee_io h
    refine ⟨i, s, h1, h2, h3, h4, ?_⟩
    have := zip_get h4 h2
    rw [List.getElem?_append_left (List.getElem?_eq_some_iff.mp this).1]; exact this
  refine r.rel.callX (P := fun b => ∃ j, (calleeFx x σ H env (σ.zip env ++ T') os).ioA j = some b) (R := R) (by simp [updE_len]) (fun b o hb hn => P.keep b o hb fun j q => hn ⟨j, q⟩) (fun b o hb => P.old b o hb) (fun b hb => ?_) hR fun k e e' h1 h2 => ?_
  · obtain ⟨j, hj⟩ := hb
    obtain ⟨i, s, q1, q2, q3, q4, q5⟩ := owner j b hj
    exact mem_owned.mpr ⟨_, List.mem_of_getElem? q5, addr_ownd q3⟩
  · by_cases hk : k < (σ.zip env).length
    · rw [List.getElem?_append_left hk] at h1
      rw [List.getElem?_append_left (by rw [hlen]; exact hk)] at h2
      obtain ⟨ov, s⟩ := e
      obtain ⟨ov', s'⟩ := e'
      rw [List.getElem?_zip_eq_some] at h1 h2
      obtain ⟨h1a, h1b⟩ := h1
      obtain ⟨h2a, h2b⟩ := h2
      simp only at h1a h1b h2a h2b
      rw [h1a] at h2a; cases h2a
      rcases updE_get os as env nd k s h1b with ⟨j, kk, m', q1, q2, q3⟩ | ⟨q1, q2⟩
      · right
        have hs : Ownd s := by
          rcases q3 with ⟨m, rfl, _⟩ | ⟨kk, m, rfl, _⟩
          · exact .inl ⟨m, rfl⟩
          · exact .inr ⟨kk, m, rfl⟩
        obtain ⟨p, rfl⟩ : ∃ p, ov = some (.ref p) := by
          rcases hs with ⟨m, rfl⟩ | ⟨kk, m, rfl⟩
          · obtain ⟨p, e1, _⟩ := r.rel.ents _ (r.mem h1b h1a); exact ⟨p, e1⟩
          · obtain ⟨p, e1, _⟩ := r.rel.ents _ (r.mem h1b h1a); exact ⟨p, e1⟩
        have hio : (calleeFx x σ H env (σ.zip env ++ T') os).ioA j = some p := by
          rcases hs with ⟨m, rfl⟩ | ⟨kk, m, rfl⟩ <;> (simp only [calleeFx, q1, h1b, h1a]; rfl)
        obtain ⟨m2, e2, w⟩ := P.io j p hio
        rw [q2] at e2
        simp only [Option.some.injEq, Sl.io.injEq] at e2
        obtain ⟨_, rfl⟩ := e2
        rcases q3 with ⟨m, rfl, e3⟩ | ⟨kk, m, rfl, e3⟩
        · rw [h2b] at e3; cases e3
          exact ⟨p, m, m', rfl, .inl ⟨rfl, rfl⟩, w⟩
        · rw [h2b] at e3; cases e3
          exact ⟨p, m, m', rfl, .inr ⟨kk, rfl, rfl⟩, w⟩
      · left
        rw [h2b] at q1; cases q1
        refine ⟨rfl, fun p hp ⟨j, hj⟩ => ?_⟩
        obtain ⟨i, s0, w1, w2, w3, w4, w5⟩ := owner j p hj
        have e0 : (σ.zip env ++ T')[k]? = some (ov, s) := by
          rw [List.getElem?_append_left hk]; exact zip_get h1a h1b
        have := nodup_addr r.rel.nd e0 w5 hp (addr_ownd w3)
        subst this
        rw [h1b] at w2; cases w2
        obtain ⟨m2, e2, _⟩ := P.io j p hj
        exact q2 j j m2 w1 e2 w3
    · left
      rw [List.getElem?_append_right (by omega)] at h1
      rw [List.getElem?_append_right (by omega), hlen, h1] at h2
      cases h2
      refine ⟨rfl, fun p hp ⟨j, hj⟩ => ?_⟩
      obtain ⟨i, s0, w1, w2, w3, w4, w5⟩ := owner j p hj
      have e0 : (σ.zip env ++ T')[k]? = some e := by
        rw [List.getElem?_append_right (by omega)]; exact h1
      have := nodup_addr r.rel.nd e0 w5 hp (addr_ownd w3)
      have hi := (List.getElem?_eq_some_iff.mp (zip_get w4 w2)).1
      omega
theorem call_res {x : Fx} {σ : L2.St} {H H' : Hp} {env : Env} {T' : List Ent} {os : List Opn} {as : List Sl} {v : V} {s : Sl} (r : RelS x σ H env T') (nd : (slotsOf os).Nodup)
    (P : Post (calleeFx x σ H env (σ.zip env ++ T') os) H' (resOwn v s) as) (rs : ResOk (calleeFx x σ H env (σ.zip env ++ T') os) H' s v) : RelS x σ H' (updE os as env) ((some v, s) :: T') := by
  have hlen : σ.length = (updE os as env).length := by rw [updE_len]; exact r.len
  cases s with
  | un => exact rs.elim
  | io j m => exact rs.elim
  | val d =>
    have nR : ∀ b, ¬ resOwn v (.val d) b := fun b z => by cases v <;> simp [resOwn, addrOf] at z
    obtain ⟨c1, c2, c3, c4⟩ := call_done r nd (fun b z => (nR b z).elim) P
    have r1 : RelS x σ H' (updE os as env) T' := ⟨hlen, ⟨by rw [c1]; exact r.rel.nd, fun e he => (c2 e he).keep (fun b o hb hn => ⟨hb, fun z => hn (.inl (z.imp id fun w => by rw [← c1]; exact w))⟩) fun _ _ => rfl, c3, c4, r.rel.fx, r.rel.fio⟩⟩
    refine r1.push ?_
    have rs' : Rp x.K H' (ownOf x (σ.zip env ++ T')) d v := rs
    exact rs'.keep fun b o hb hn => ⟨hb, fun z => hn (z.imp id fun w => by rw [← c1]; exact w)⟩
  | own m =>
    obtain ⟨p, rfl, h0, w⟩ := rs
    have eR : ∀ b, resOwn (.ref p) (.own m) b ↔ b = p := fun b => by
      simp only [resOwn, addrOf, Option.some.injEq]
      exact ⟨Eq.symm, Eq.symm⟩
    obtain ⟨c1, c2, c3, c4⟩ := call_done r nd (fun b z => by rw [(eR b).mp z]; exact h0) P
    have hnp : p ∉ owned (σ.zip env ++ T') := fun z => by
      obtain ⟨o, ho⟩ := r.rel.there (.inr z)
      have h0' : H p = none := h0
      rw [h0'] at ho; cases ho
    refine ⟨hlen, RelP.perm ?_ perm_mid⟩
    have ow : owned ((some (V.ref p), Sl.own m) :: (σ.zip (updE os as env) ++ T')) = p :: owned (σ.zip env ++ T') := by
      rw [← c1]; simp [owned, addrOf]
    have sub : ∀ b, x.F b ∨ b ∈ owned ((some (V.ref p), Sl.own m) :: (σ.zip (updE os as env) ++ T')) → ownOf x (σ.zip env ++ T') b ∨ b = p := fun b z => by
      rcases z with z | z
      · exact .inl (.inl z)
      · rw [ow] at z
        rcases List.mem_cons.mp z
              with z | z
        · exact .inr z
        · exact .inl (.inr z)
    refine ⟨by rw [ow]; exact List.nodup_cons.mpr ⟨hnp, r.rel.nd⟩, fun e he => ?_, c3, c4, r.rel.fx, r.rel.fio⟩
    rcases List.mem_cons.mp he
          with rfl | he
    · exact ⟨p, rfl, r.rel.h0none h0, w.keepC (fun b o hb hn => ⟨hb, fun z => hn (sub b z)⟩) rfl⟩
    · exact (c2 e he).keep (fun b o hb hn => ⟨hb, fun z => hn ((sub b z).imp id (eR b).mpr)⟩) fun _ _ => rfl

/-! ### f(..) -/
def dCall (sp : SpD) (ad : AD) : ED := fun env Q X => ad env (fun os e => (slotsOf os).Nodup ∧ ∃ as, argsOf e 0 os = some as ∧ sp as (fun s as' => Q s (updE os as' e)) fun C f d as' => X C f d (updE os as' e)) X
section
variable {X : Cx} {W : WX} {k : Nat} {f : Addr} {fd : FuncData} {ps : List Str} {sp : SpD} {x : Str} {p pos : Pos} {e : Expr} {es : List Expr} {t : TA} {ad : AD}
theorem sim_call {K : PySem.W.Frag} (h : SimA K W t ad) : SimE K W (tCallG (SpOf K sp) [] (WE W) t) (dCall sp ad) := fun x σ H env T Q Qd Xd hk r hx hq hh => by
  refine h x σ H env T _ _ Xd hk r hx (fun vs os H1 e1 r1 ok q => ?_) hh
  obtain ⟨nd, as, ha, q⟩ := q
  show SpOf K sp (vs ++ []) H1 Q _
  rw [List.append_nil]
  refine ⟨calleeFx x σ H1 e1 (σ.zip e1 ++ (tOps vs os ++ T)) os, as, _, _, hk, call_entry r1 ok nd ha, q, fun s as' v H' q' P rs => ?_, fun C f d as' v dd H' q' P rv hd => ?_⟩
  · refine hq v s H' _ ((call_res r1 nd P rs).drop ?_) q'
    exact List.Sublist.cons_cons _ (List.sublist_append_right _ _)
  · have rs : ResOk (calleeFx x σ H1 e1 (σ.zip e1 ++ (tOps vs os ++ T)) os) H' (.val d) v := by
      show Rp x.K H' _ d v
      rw [hk]; exact rv
    have P' : Post (calleeFx x σ H1 e1 (σ.zip e1 ++ (tOps vs os ++ T)) os) H' (resOwn v (.val d)) as' := by
      have e : resOwn v (.val d) = fun _ => False := by
        funext b
        cases v <;> simp [resOwn, addrOf]
      rw [e]; exact P
    exact hx C f d v dd σ H' _ ((call_res r1 nd P' rs).drop (List.Sublist.cons_cons _ (List.sublist_append_right _ _))) hd q'
theorem pd_call {rest : List Expr} (F : FnG X.prog X.w X.K X.mg X.base k f fd ps (SpOf X.K sp)) (hr : Room k X.A) (hgd : X.A.guards = some []) (hg : Gl X x) (hm : X.mg x = some (.ref f)) (hk : PySem.W.keepIn X.K (.ref f) = true) (hb : Binds X.K fd ps [])
    (tk : Takes X W) (ha : PAd X W (e :: es) t ad) (hdb : (x == ("__debug__" : Str)) = false := by decide) (he : starEach (e :: es) X.env = (false, eval e X.env) :: starEach es X.env := by rfl)
    (hpl : (backTo pos (starEach es X.env)).any (·.1) = false := by rfl) : PEd X W (.Call (.Name x p) (e :: es) [] pos) (tCallG (SpOf X.K sp) [] (WE W) t) (dCall sp ad) :=
  ⟨pe_callG F hr hgd hg hm hk hb .nil (fun σ => passAt tk σ) ha.pa hdb he hpl, sim_call ha.sim⟩
theorem pd_call0 (F : FnG X.prog X.w X.K X.mg X.base k f fd ps (SpOf X.K sp)) (hr : Room k X.A) (hgd : X.A.guards = some []) (hg : Gl X x) (hm : X.mg x = some (.ref f)) (hk : PySem.W.keepIn X.K (.ref f) = true) (hb : Binds X.K fd ps [])
    (tk : Takes X W) (hdb : (x == ("__debug__" : Str)) = false := by decide) : PEd X W (.Call (.Name x p) [] [] pos) (tCallG (SpOf X.K sp) [] (WE W) tNil) (dCall sp aNil) :=
  ⟨pe_callG0 F hr hgd hg hm hk hb .nil (fun σ => passAt tk σ) hdb, sim_call (pad_nil (X := X)).sim⟩
/-- within a comprehension, in an except suite: nothing may be raised -/
def WNo : WX := fun _ _ _ _ => False
theorem takesNo {X : Cx} : Takes X WNo := fun u s' ⟨_, _, _, _, _, _, _, _, _, _, _, _, _, _, _, _, w⟩ => w.elim
end

/-! ### the law's end -/
section
variable {P : Program} {w : World} {K : PySem.W.Frag} {mg mb : Str → Option Value} {k : Nat} {fa a : Addr} {fd : FuncData} {x : Str} {sp : Sp} {s₁ : Shared} {vs : List Value} {ns : List Int}
theorem lawG (KX : K.In s₁.heap) (hns : s₁.heap.Ns mainGlobals mg) (hb : s₁.heap.Ns builtinsNs mb) (hbb : ∀ x : Str, x ≠ "__name__" → mb x = bootBuiltins x) (hlim : s₁.heap.NoLimit) (hg : s₁.gens = #[])
    (ha : s₁.heap.get? a = some { cls := .type "list", data := .seq vs.toArray
          }) (hi : IntsAre vs ns) (hl : ns.length ≤ sizeLine) (hr : Room k callerA)
    (F : ∀ base : Heap, K.In base → base.Ns mainGlobals mg → FnG P w K mg base k fa fd [x] sp) (hbind : ∀ (s : Shared) (u : Value), BindsTo s fd ⟨[u], []⟩ [(x, u)])
    (hsp : ∀ H : Hp, Only H → SqL K H a (ns.map V.int) → sp [.ref a] H (fun v _ => v = .bl true) fun _ _ _ => False) :
    codeAny (model P w) callerA (.call (.ref fa) ⟨[.ref a], []⟩)
      (fun r s' => r = .ok (.ret (.bool true)) ∧ OldK s₁.heap s'.heap ∧ s'.os = s₁.os ∧ AllBare s'.gens) s₁ := by
  have rv := vals_ints hi
  have lenV := hi.length
  have core : ∀ H : Hp, Only H → SqL K H a (ns.map V.int) → HOk P w H s₁.heap → (∀ b, H b ≠ none → b = a ∧ K.lookup a = none) →
      codeAny (model P w) callerA (.call (.ref fa) ⟨[.ref a], []⟩)
        (fun r s' => r = .ok (.ret (.bool true)) ∧ OldK s₁.heap s'.heap ∧ s'.os = s₁.os ∧ AllBare s'.gens) s₁ := by
    intro H hO hS hok hA
    have free : ∀ {b : Addr} {o : Obj}, s₁.heap.get? b = some o → (∀ xs n, o.data ≠ .seq xs n) → H b = none := fun {b o} e d => by
      cases q : H b with
      | none => rfl
      | some u =>
        obtain ⟨rfl, _⟩ := hA b (by rw [q]; simp)
        rw [ha] at e
        cases e
        exact (d _ _ rfl).elim
    have nsK : ∀ {b : Addr} {m : Str → Option Value}, s₁.heap.Ns b m → (hidT s₁.heap H).Ns b m := by
      rintro b m ⟨o, es, ep, e, d, r⟩
      exact ⟨o, es, ep, hidT_get e (free e fun xs n z => by rw [d] at z; cases z), d, r⟩
    have hKb : K.In (hidT s₁.heap H) := by
      intro b o e
      refine hidT_get (KX b o e) ?_
      cases q : H b with
      | none => rfl
      | some u =>
        obtain ⟨rfl, hk⟩ := hA b (by rw [q]; simp)
        rw [hk] at e; cases e
    obtain ⟨mc, hm1, hm2⟩ := hlim
    have e0 : Env0 P w K mg (hidT s₁.heap H) callerA [] s₁ H :=
      { frames := rfl
        mod := ⟨hKb, nsK hns, ⟨mb, nsK hb, hbb⟩, ⟨mc, nsK hm1, hm2⟩⟩
        bs := fun b o e => of_hidT e
        bsz := Nat.le_of_eq (hidT_size _ _)
        funs := trivial
        frf := fun b hb => by simp [frs] at hb
        hok := hok
        bare := .of_eq hg }
    refine codeAny_mono ((F _ hKb (nsK hns)).run callerA [] s₁ H ⟨[.ref a], []⟩ [.ref a] [.ref a] _ _ hr rfl e0 (hbind s₁ _) (.cons rfl .nil) (hsp H hO hS)) ?_
    rintro (e | fl) s' h
    · obtain ⟨_, _, _, _, _, _, _, _, _, _, _, _, z⟩ := h
      exact z.elim
    · cases fl with
      | ret u =>
        obtain ⟨v, H', os, bare,
              un, hok', r', q⟩ := h
        have q' : v = .bl true := q
        subst q'
        obtain rfl : u = Value.bool true :=
              r'
        refine ⟨rfl, OldK.of_keep
              fun b o e => ?_, os, bare⟩
        rcases hO b with z | ⟨ob,
              xs, z⟩
        · exact un.keep b o e z (by simp [frs]) (by simp)
        · obtain ⟨e1, _⟩ := hok b _ z
          obtain ⟨e2, _⟩ := hok' b _ (un.frzs b ob _ z)
          rw [e] at e1; cases e1
          exact e2
      | _ => exact False.elim h
  cases hk : K.lookup a with
  | some o =>
    have e := KX a o hk
    rw [ha] at e
    cases e
    exact core (fun _ => none) (fun _ => .inl rfl)
      (.inr ⟨_, vs.toArray, _, hk, rfl, rfl, rfl, by rw [List.size_toArray, lenV]; exact hl, by simpa using rv⟩)
      (fun b u z => by cases z) fun b z => (z rfl).elim
  | none =>
    let ob : Obj := { cls := .type "list", data := .seq vs.toArray }
    refine core (fun b => if b = a then some (.frz ob (.lst (ns.map V.int))) else none) (fun b => ?_) (.inl (.inr ⟨ob, if_pos rfl⟩)) (fun b u z => ?_) fun b z => ?_
    · by_cases hb : b = a
      · exact .inr ⟨_,
            _, if_pos hb⟩
      · exact .inl (if_neg hb)
    · by_cases hb : b = a
      · have z' := (if_pos
            hb).symm.trans z
        cases z'
        subst hb
        exact ⟨ha, by
              rw [List.length_map]; exact hl, vs, _, rv, ha⟩
      · have z' := (if_neg
            hb).symm.trans z
        cases z'
    · by_cases hb : b = a
      · exact ⟨hb, hk⟩
      · exact (z (if_neg hb)).elim
end
/-- the goal that k_head leaves, from the law's promise on data -/
theorem walkG {l : PySem.W.OpenLaw} {n k : Nat} {q : Program} {loose : List Str} {XP : (Str → Option Value) → Heap → Prop} {YP : World → Heap → Prop} {d : DefRec} {K : Params → PySem.W.Frag} {sp : World → SpD} {x : Str}
    (hn : l.most = some n) (hn2 : n ≤ sizeLine) (hdf : d.params.defaults = []) (hr
          : Room k callerA) (hY : ∀ (w : World) (h : Heap), YP w h → (K w.params).In h)
    (F : ∀ (w : World) (mg : Str → Option Value) (fa : Addr) (h : Heap), (K w.params).In h → h.Ns mainGlobals mg → mg d.name = some (.ref fa) →
      ∃ fd : FuncData, (∀ (s : Shared) (u :
            Value), BindsTo s fd ⟨[u], []⟩ [(x, u)]) ∧
        ∀ base : Heap, (K w.params).In base → base.Ns mainGlobals mg → FnG l.prog w (K w.params) mg base k fa fd [x] (SpOf (K w.params) (sp w)))
    (hsp : ∀ (w : World) (ns : List Int), ns.length ≤ n → sp w [.val (.list (ns.map .int))] (fun s _ => s = .val (.bool true)) fun _ _ _ _ => False) :
    PySem.W.WalkO q loose XP YP l.row.toRowW d [] (fun
          f vs => PySem.call f vs) := by
  refine
        Att.attach_call hn hdf fun w s₀ s₁ mg mb fa o pm cd doc a vs ns G Y ho hd hcd hmg hobj hints hlen hg => ?_
  have KX := hY w _ Y
  obtain ⟨fd, hb,
        hF⟩ := F w mg fa _ KX G.T.g hmg
  refine lawG KX G.T.g G.T.b G.T.builtins G.T.nolimit hg hobj hints (Nat.le_trans hlen hn2) hr hF hb fun H hO hS => ?_
  have rints : ∀ (own : Addr → Prop) (l : List Int), RpL (K w.params) H own (l.map .int) (l.map V.int) := fun own l => by
    induction l with
    | nil => exact .nil
    | cons i l ih => exact .cons (by simp only [Rp]) ih
  refine ⟨⟨K w.params, H, fun _ => False, fun _ => none⟩, [.val (.list (ns.map .int))], _, _, rfl, ⟨rfl, rfl, fun b z => z.elim, fun j b z => by simp at z, fun i j b z => by simp at z, fun j s v h1 h2 => ?_, fun j b z => by simp at z⟩, hsp w ns hlen, fun s as' v H' q' P rs => ?_, fun C f d as' v dd H' q' _ _ _ => q'.elim⟩
  · cases j with
    | zero =>
      simp at h1 h2
      subst h1 h2
      show Rp _ _ _ _ _
      simp only [Rp]
      refine ⟨a, _, rfl, hS.imp (fun z => ⟨z, fun w => w⟩) id, rints _ _⟩
    | succ j => simp at h1
  · subst q'
    have : v = .bl true := by
      have rs' : Rp _ _ _ _ _ := rs
      simpa only [Rp] using rs'
    exact this
end PD
/-! Operations, built-in calls, methods that only read: told by what they make of data. -/
namespace PD
open PySem L2 PySem.Spec PyProof.Rows
/-- a result: a value that stands, a new tuple, a new list -/
def Out (K : PySem.W.Frag) (H : Hp) (own : Addr → Prop) (s : Sl) (v : V) (H' : Hp) : Prop :=
  (H' = H ∧ ∃ d, s = .val d ∧ Rp K H own d v) ∨
  (∃ p xs ds, H p = none ∧ v = .ref p ∧ RpL K H own ds xs ∧ ((s = .val (.tuple ds) ∧ H' = upd H p (.tup xs)) ∨ (s = .own (.lst ds) ∧ H' = upd H p (.lst xs))))
theorem RelS.out {x : Fx} {σ : L2.St} {H H' : Hp} {env : Env} {T : List Ent} {s : Sl} {v : V} (r : RelS x σ H env T) (o : Out x.K H (ownOf x (σ.zip env ++ T)) s v H') : RelS x σ H' env ((some v, s) :: T) := by
  rcases o with ⟨rfl, d, rfl, h⟩ | ⟨p, xs, ds, hp, rfl, h, ⟨rfl, rfl⟩ | ⟨rfl, rfl⟩⟩
  · exact r.push h
  · exact r.newT hp h
  · exact r.newL hp h
section
variable {K : PySem.W.Frag} {H : Hp} {own : Addr → Prop}
theorem Out.int {i : Int} : Out K H own (.val (.int i)) (.int i) H := .inl ⟨rfl, _, rfl, by simp only [Rp]⟩
theorem Out.bl {i : Bool} : Out K H own (.val (.bool i)) (.bl i) H := .inl ⟨rfl, _, rfl, by simp only [Rp]⟩
theorem Out.str {i : Str} : Out K H own (.val (.str i)) (.str i) H := .inl ⟨rfl, _, rfl, by simp only [Rp]⟩
theorem Out.non : Out K H own (.val .none) .non H := .inl ⟨rfl, _, rfl, by simp only [Rp]⟩
theorem Out.tup {p : Addr} {xs : List V} {ds : List PyData} (hp : H p = none) (h : RpL K H own ds xs) : Out K H own (.val (.tuple ds)) (.ref p) (upd H p (.tup xs)) := .inr ⟨p, xs, ds, hp, rfl, h, .inl ⟨rfl, rfl⟩⟩
theorem Out.lst {p : Addr} {xs : List V} {ds : List PyData} (hp : H p = none) (h : RpL K H own ds xs) : Out K H own (.own (.lst ds)) (.ref p) (upd H p (.lst xs)) := .inr ⟨p, xs, ds, hp, rfl, h, .inr ⟨rfl, rfl⟩⟩
theorem rcInt {i : Int} {v : V} (h : Rc K H own (.int i) v) : v = .int i := by simpa only [Rc, Rp] using h
theorem rcBl {i : Bool} {v : V} (h : Rc K H own (.bool i) v) : v = .bl i := by simpa only [Rc, Rp] using h
theorem rcStr {i : Str} {v : V} (h : Rc K H own (.str i) v) : v = .str i := by simpa only [Rc, Rp] using h
theorem rcNon {v : V} (h : Rc K H own .none v) : v = .non := by simpa only [Rc, Rp] using h
end
/-! ### two operands -/
def R2D (K : PySem.W.Frag) (r : R2) (f : PyData → PyData → Option Sl) : Prop := ∀ (H : Hp) (own : Addr → Prop) (v1 v2 : V) (d1 d2 : PyData) (s : Sl) (Q : VK), Rc K H own d1 v1 → Rc K H own d2 v2 → f d1 d2 = some s → (∀ v H', Out K H own s v H' → Q v H') → r v1 v2 H Q
def dOp (f : PyData → PyData → Option Sl) (oa ob : OD) : ED := fun env Q X => oa env (fun o1 e1 => ob e1 (fun o2 e2 => ∃ s, ((cont e2 o1).bind fun d1 => (cont e2 o2).bind fun d2 => f d1 d2) = some s ∧ Q s e2) X) X
def rOr (r r' : R2) : R2 := fun x y H Q => r x y H Q ∨ r' x y H Q
def fOr (f g : PyData → PyData → Option Sl) : PyData → PyData → Option Sl := fun a b => (f a b).or (g a b)
section
variable {X : Cx} {W : WX} {x y : Str} {pos p p2 : Pos} {e a b c : Expr} {es rest : List Expr} {te ta tb tc : TE} {tA tB' : TT} {td da db : ED} {oa ob oc od : OD} {K : PySem.W.Frag} {r r' : R2} {f g : PyData → PyData → Option Sl}
theorem opOr {h : Value → Value → Sem Value} (h1 : OpR X h r) (h2 : OpR X h r') : OpR X h (rOr r r') := fun pins s σ H x y v u Q I rx ry q => q.elim (h1 pins s σ H x y v u Q I rx ry) (h2 pins s σ H x y v u Q I rx ry)
theorem R2D.or (h1 : R2D K r f) (h2 : R2D K r' g) : R2D K (rOr r r') (fOr f g) := fun H own v1 v2 d1 d2 s Q c1 c2 e q => by
  unfold fOr at e
  cases e1 : f d1 d2 with
  | some s' =>
    rw [e1] at e
    cases e
    exact .inl (h1 H own v1 v2 d1 d2 s Q c1 c2 e1 q)
  | none =>
    rw [e1] at e
    exact .inr (h2 H own v1 v2 d1 d2 s Q c1 c2 e q)
theorem sim_op (hr : R2D K r f) (ha : SimO K W ta oa) (hb : SimO K W tb ob) : SimE K W (tOp r ta tb) (dOp f oa ob) := fun x σ H env T Q Qd Xd hk rr hx hq h => by
  refine SimO.two (R := fun y z H2 => r y z H2 Q) ha hb hk rr hx h fun v1 v2 o1 o2 H' env' r' ok1 ok2 q => ?_
  obtain ⟨d, e, q⟩ := q
  obtain ⟨d1, d2, e1, e2, e3⟩ := bind2 e
  have c1 := r'.rc (fun z hz => List.mem_append_right _ (List.mem_append_left _ hz)) ok1 e1
  have c2 := r'.rc (fun z hz => List.mem_append_left _ hz) ok2 e2
  rw [hk] at c1 c2
  refine hr H' _ v1 v2 d1 d2 d Q c1 c2 e3 fun v H2 o => ?_
  refine hq v _ H2 env' ((r'.out (by rw [hk]; exact o)).drop ?_) q
  exact List.Sublist.cons_cons _ ((List.sublist_append_right _ _).trans (List.sublist_append_right _ _))
theorem pd_op {op : Operator} (ho : OpR X (binaryOp op) r) (hr : R2D X.K r f) (ha : POd X W a ta oa) (hb : POd X W b tb ob) : PEd X W (.BinOp a op b pos) (tOp r ta tb) (dOp f oa ob) :=
  ⟨pe_op ho ha.pe hb.pe, sim_op hr ha.sim hb.sim⟩
theorem pd_cp {op : CmpOp} (ho : OpR X (compareOp op) r) (hr : R2D X.K r f) (ha : POd X W a ta oa) (hb : POd X W b tb ob) (hm : behindInMarks op b = false := by rfl) : PEd X W (.Compare a [op] [b] pos) (tOp r ta tb) (dOp f oa ob) :=
  ⟨pe_cmpR ho ha.pe hb.pe hm, sim_op hr ha.sim hb.sim⟩
theorem pt_cp {op : CmpOp} (ho : OpR X (compareOp op) r) (hr : R2D X.K r f) (ha : POd X W a ta oa) (hb : POd X W b tb ob) (hm : behindInMarks op b = false := by rfl) : PTd X W (.Compare a [op] [b] pos) (tTest (tOp r ta tb)) (bV (dOp f oa ob)) :=
  ⟨pt_cmpR ho ha.pe hb.pe hm, sim_tB (sim_op hr ha.sim hb.sim)⟩
theorem pd_ix (ho : IxR X r) (hr : R2D X.K r f) (ha : POd X W a ta oa) (hb : POd X W b tb ob) (hs : PlainIx b := by exact fun _ _ => rfl) : PEd X W (.Subscript a b pos) (tOp r ta tb) (dOp f oa ob) :=
  ⟨pe_ix ho ha.pe hb.pe hs, sim_op hr ha.sim hb.sim⟩
/-- a op b op' c of ints -/
def dChain (f g : PyData → PyData → Option Sl) (oa ob oc : OD) : ED := fun env Q X => oa env (fun o1 e1 => ob e1 (fun o2 e2 => ∃ k, ((cont e2 o1).bind fun d1 => (cont e2 o2).bind fun d2 => f d1 d2) = some (.val (.bool k)) ∧
  if k = true then oc e2 (fun o3 e3 => ∃ s, ((cont e3 o2).bind fun d1 => (cont e3 o3).bind fun d2 => g d1 d2) = some s ∧ Q s e3) X else Q (.val (.bool false)) e2) X) X
theorem sim_chain (hr : R2D K r f) (hr' : R2D K r' g) (ha : SimO K W ta oa) (hb : SimO K W tb ob) (hc : SimO K W tc oc) : SimE K W (tChain r r' ta tb tc) (dChain f g oa ob oc) := fun x σ H env T Q Qd Xd hk rr hx hq h => by
  refine SimO.two (R := fun y z H2 => r y z H2 fun z' H3 => ∃ k, z' = .bl k ∧ (if k = true then tc σ H3 fun w' H4 => r' z w' H4 Q else Q (.bl false) H3)) ha hb hk rr hx h fun v1 v2 o1 o2 H' env' r1 ok1 ok2 q => ?_
  obtain ⟨k, e, q⟩ := q
  obtain ⟨d1, d2, e1, e2, e3⟩ := bind2 e
  have c1 := r1.rc (fun z hz => List.mem_append_right _ (List.mem_append_left _ hz)) ok1 e1
  have c2 := r1.rc (fun z hz => List.mem_append_left _ hz) ok2 e2
  rw [hk] at c1 c2
  refine hr H' _ v1 v2 d1 d2 _ _ c1 c2 e3 fun v H2 o => ?_
  have hv : v = .bl k ∧ H2 = H' := by
    rcases o with ⟨rfl, d, hd, h⟩ | ⟨p, xs, ds, hp, rfl, h, ⟨hd, _⟩ | ⟨hd, _⟩⟩
    · cases hd; exact ⟨by simpa only [Rp] using h, rfl⟩
    · cases hd
    · cases hd
  obtain ⟨rfl, rfl⟩ := hv
  refine ⟨k, rfl, ?_⟩
  cases k with
  | false =>
    rw [if_neg Bool.false_ne_true] at q ⊢
    refine hq _ _ H2 env' (RelS.drop (r1.bl false) ?_) q
    exact List.Sublist.cons_cons _ ((List.sublist_append_right _ _).trans (List.sublist_append_right _ _))
  | true =>
    rw [if_pos rfl] at q ⊢
    refine hc x σ H2 env' _ _ _ Xd hk r1 (hx.more ((List.sublist_append_right _ _).trans (List.sublist_append_right _ _))) (fun v3 o3 H3 e4 r3 ok3 q3 => ?_) q
    obtain ⟨s, e5, q3⟩ := q3
    obtain ⟨d3, d4, e6, e7, e8⟩ := bind2 e5
    have c3 := r3.rc (fun z hz => List.mem_append_right _ (List.mem_append_left _ hz)) ok2 e6
    have c4 := r3.rc (fun z hz => List.mem_append_left _ hz) ok3 e7
    rw [hk] at c3 c4
    refine hr' H3 _ v2 v3 d3 d4 s Q c3 c4 e8 fun v H4 o => ?_
    refine hq v _ H4 e4 ((r3.out (by rw [hk]; exact o)).drop ?_) q3
    exact List.Sublist.cons_cons _ ((List.sublist_append_right _ _).trans ((List.sublist_append_right _ _).trans (List.sublist_append_right _ _)))
theorem pd_chain {op op' : CmpOp} (ho : OpR X (compareOp op) r) (hr : R2D X.K r f) (ho' : OpR X (compareOp op') r') (hr' : R2D X.K r' g) (ha : POd X W a ta oa) (hb : POd X W b tb ob) (hc : POd X W c tc oc)
    (hm : lastMarks [op, op'] [b, c] = false := by with_unfolding_all rfl) : PEd X W (.Compare a [op, op'] [b, c] pos) (tChain r r' ta tb tc) (dChain f g oa ob oc) := ⟨pe_chain ho ho' ha.pe hb.pe hc.pe hm, sim_chain hr hr' ha.sim hb.sim hc.sim⟩
theorem pt_chainD {op op' : CmpOp} (ho : OpR X (compareOp op) r) (hr : R2D X.K r f) (ho' : OpR X (compareOp op') r') (hr' : R2D X.K r' g) (ha : POd X W a ta oa) (hb : POd X W b tb ob) (hc : POd X W c tc oc)
    (hm : lastMarks [op, op'] [b, c] = false := by with_unfolding_all rfl) : PTd X W (.Compare a [op, op'] [b, c] pos) (tTest (tChain r r' ta tb tc)) (bV (dChain f g oa ob oc)) := ⟨pt_chain ho ho' ha.pe hb.pe hc.pe hm, sim_tB (sim_chain hr hr' ha.sim hb.sim hc.sim)⟩

/-! ### arithmetic -/
def fI2 (h : Int → Int → PyData) : PyData → PyData → Option Sl
  | .int i, .int j => some (.val (h i j))
  | _, _ => none
def fI2c (C : Int → Int → Bool) (h : Int → Int → PyData) : PyData → PyData → Option Sl
  | .int i, .int j => if C i j then some (.val (h i j)) else none
  | _, _ => none
theorem r2_ii {h : Int → Int → Int} : R2D K (rI0 fun i j => .int (h i j)) (fI2 fun i j => .int (h i j)) := fun H own v1 v2 d1 d2 s Q c1 c2 e q => by
  unfold fI2 at e
  split at e
  · cases e
    rw [rcInt c1, rcInt c2]
    exact ⟨_, _, rfl, rfl, q _ _ .int⟩
  · cases e
theorem r2_ib {h : Int → Int → Bool} : R2D K (rI0 fun i j => .bl (h i j)) (fI2 fun i j => .bool (h i j)) := fun H own v1 v2 d1 d2 s Q c1 c2 e q => by
  unfold fI2 at e
  split at e
  · cases e
    rw [rcInt c1, rcInt c2]
    exact ⟨_, _, rfl, rfl, q _ _ .bl⟩
  · cases e
theorem r2_ic {C : Int → Int → Bool} {C' : Int → Int → Prop} {h : Int → Int → Int} (hC : ∀ i j, C i j = true → C' i j) : R2D K (rI C' fun i j => .int (h i j)) (fI2c C fun i j => .int (h i j)) := fun H own v1 v2 d1 d2 s Q c1 c2 e q => by
  unfold fI2c at e
  split at e
  · split at e
    · rename_i hc
      cases e
      rw [rcInt c1, rcInt c2]
      exact ⟨_, _, rfl, rfl, hC _ _ hc, q _ _ .int⟩
    · cases e
  · cases e
def fAddS : PyData → PyData → Option Sl
  | .str i, .str j => if i.length + j.length ≤ 16777216 then some (.val (.str (i ++ j))) else none
  | _, _ => none
theorem r2_adds : R2D K (fun x y H Q => ∃ i j, x = .str i ∧ y = .str j ∧ i.length + j.length ≤ sizeLine ∧ Q (.str (i ++ j)) H) fAddS := fun H own v1 v2 d1 d2 s Q c1 c2 e q => by
  unfold fAddS at e
  split at e
  · split at e
    · rename_i hc
      cases e
      rw [rcStr c1, rcStr c2]
      exact ⟨_, _, rfl, rfl, by rw [sizeLine_eq]; exact hc, q _ _ .str⟩
    · cases e
  · cases e
/-- list + list, of any lists -/
def rCatD (K : PySem.W.Frag) : R2 := fun x y H Q => ∃ l b xs zs, x = .ref l ∧ y = .ref b ∧ SqL K H l xs ∧ SqL K H b zs ∧ xs.length + zs.length ≤ sizeLine ∧ ∀ p, H p = none → Q (.ref p) (upd H p (.lst (xs ++ zs)))
def fAddL : PyData → PyData → Option Sl
  | .list i, .list j => if i.length + j.length ≤ 16777216 then some (.own (.lst (i ++ j))) else none
  | _, _ => none
theorem r2_addl : R2D K (rCatD K) fAddL := fun H own v1 v2 d1 d2 s Q c1 c2 e q => by
  unfold fAddL at e
  split at e
  · split at e
    · rename_i hc
      cases e
      obtain ⟨a, xs, rfl, h1, h2⟩ := c1.lst
      obtain ⟨b, ys, rfl, h3, h4⟩ := c2.lst
      exact ⟨a, b, xs, ys, rfl, rfl, h1, h3, by rw [h2.len, h4.len, sizeLine_eq]; exact hc, fun p hp => q _ _ (.lst hp (h2.append h4))⟩
    · cases e
  · cases e
def fAddT : PyData → PyData → Option Sl
  | .tuple i, .tuple j => if i.length + j.length ≤ 16777216 then some (.val (.tuple (i ++ j))) else none
  | _, _ => none
theorem Rc.rp {H : Hp} {own : Addr → Prop} {ds : List PyData} {v : V} (h : Rc K H own (.tuple ds) v) : Rp K H own (.tuple ds) v := h
theorem r2_addt : R2D K (rCatA K) fAddT := fun H own v1 v2 d1 d2 s Q c1 c2 e q => by
  unfold fAddT at e
  split at e
  · split at e
    · rename_i i j hc
      cases e
      have b1 := c1.rp
      have b2 := c2.rp
      obtain ⟨a, xs, rfl, h1, h2⟩ := c1.tup
      obtain ⟨b, ys, rfl, h3, h4⟩ := c2.tup
      refine ⟨a, b, xs, ys, rfl, rfl, h1, h3, by rw [h2.len, h4.len, sizeLine_eq]; exact hc, fun e => ?_, fun _ e => ?_, fun _ _ p hp => q _ _ (.tup hp (h2.append h4))⟩
      · have : i = [] := by
          have := h2.len
          rw [e] at this
          exact List.length_eq_zero_iff.mp this.symm
        subst this
        exact q _ _ (.inl ⟨rfl, _, rfl, b2⟩)
      · have : j = [] := by
          have := h4.len
          rw [e] at this
          exact List.length_eq_zero_iff.mp this.symm
        subst this
        exact q _ _ (.inl ⟨rfl, _, by rw [List.append_nil], b1⟩)
    · cases e
  · cases e
theorem op_catD : OpR X (binaryOp .Add) (rCatD X.K) := by
  intro
        pins s σ H x y v u Q I rx ry h
  obtain ⟨l, b, xs, zs, rfl,
        rfl, hH, hB, hz, q⟩ := h
  cases rx
  cases ry
  obtain ⟨its, r, ⟨⟨oc, od, dt, sl⟩, n, e, hc, hd, he⟩, z⟩ := I.list hH
  obtain ⟨its2, r2, ⟨⟨oc2, od2, dt2, sl2⟩, n2, e2, hc2, hd2, he2⟩, z2⟩ := I.list hB
  simp only at hc hd he hc2 hd2 he2
  subst hc hd he hc2 hd2 he2
  have hl := r.length
  have hl2 := r2.length
  refine concat_meets ⟨_, e, rfl⟩ ⟨_, e2, rfl⟩ noFill_list_add seq_list_add PySem.F.slot_list_add PySem.F.entry_list_add (PySem.F.args_list_add_2 _ _) (list_addW l b its.toArray its2.toArray n n2 _ _ sl sl2 (by rw [List.size_toArray, List.size_toArray]; omega)) ⟨e, e2, ?_⟩
  have ea : its.toArray ++ its2.toArray = (its
        ++ its2).toArray := by simp
  rw [ea]
  exact ⟨.ref _, _, I.lnew (t' := s.toks) (r.append r2)
        (by rw [List.length_append]; omega), rfl, q _ I.fresh⟩
end
end PD
/-! Lists of any origin: times an int, extended by. -/
namespace PD
open PySem L2 PySem.Spec PyProof.Rows
open
      AutoSeq1 (wpAny_loadPart')
section
variable (l : Addr) (js : Array Value) (n : Nat) (dd : Option Addr) (sl : Array (Option Value))
theorem mulAny (z : Int) (u : Tok) (h0 : ¬(!Builtin.List.listFitsIndex z) = true) (h1 : ¬js.size * z.toNat > (2 ^ 63 - 1) / 8) (h2 : ¬Builtin.List.listTooLong (js.size * z.toNat) = true) :
    Meets (Builtin.«list.__mul__» ⟨[.ref l, .int z u], []⟩) (fun _ R s => s.heap.get? l = some ⟨.type "list", dd, .seq js n, sl⟩ ∧
      R (.ok (.ret (Value.ref s.heap.objs.size))) { s with heap := s.heap.push ⟨.type "list", none, .seq (List.foldl (fun x1 x2 => x1 ++ x2) #[] (List.replicate (if js.isEmpty = true then 0 else z.toNat) js)) 0, #[]⟩, toks := s.toks }) :=
  .of_wp fun P ww AA R s hh => by
    obtain ⟨hp, g,
          d, tk, os⟩ := s
    obtain ⟨hl, hh⟩ := hh
    have hsz := AutoListH.joined_fits h2
    wp_walk
          using wpAny_loadPart' hl
    refine wpAny_ite_false (decide_eq_false (Nat.not_lt.mpr hsz)) ?_
    wp_walk
          using wpAny_loadPart' hl
    exact ⟨_, rfl, hh⟩
theorem rmulAny (a : Int) (t : Tok) :
    Meets (Builtin.«int.__rmul__» ⟨[.int a t, .ref l], []⟩) (fun _ R s => s.heap.get? l = some ⟨.type "list", dd, .seq js n, sl⟩ ∧ R (.ok (.ret Value.notImplemented)) s) :=
  .of_wp fun P ww AA R s hh => by
    obtain ⟨hp, g,
          d, tk, os⟩ := s
    obtain ⟨hl, hh⟩ := hh
    wp_walk
          using wpAny_loadPart' hl
    exact ⟨_, rfl, hh⟩
theorem extAny (b : Addr) (ks : Array Value) (m : Nat) (hc0 : ¬(!js.isEmpty && Builtin.List.listTooLong (js.size + ks.size)) = true) (hc1 : js.size ≤ sizeLine) (hs2 : js.size + ks.size ≤ sizeLine + 1) :
    Meets (Builtin.«list.extend» ⟨[.ref l, .ref b], []⟩) (fun _ R s => s.heap.get? l = some ⟨.type "list", none, .seq js n, #[]⟩ ∧ s.heap.get? b = some ⟨.type "list", dd, .seq ks m, sl⟩ ∧
      R (.ok (.ret Value.none)) { s with heap := s.heap.update l (Obj.mapSeq fun x => x ++ ks), toks := s.toks }) :=
  .of_wp fun P ww AA R s hh => by
    obtain ⟨hp, g,
          d, tk, os⟩ := s
    obtain ⟨hl, hb, hh⟩ := hh
    have f1 := AutoSeq1.idx_int
    have f2 :=
          AutoSeq1.sub_tuple_tuple
    have f3 :=
          AutoSeq1.sub_list_list
    have f4 := AutoSeq1.sub_tuple_list
    have f5 := AutoSeq1.sub_list_tuple
    have hz' : (js ++ ks).size ≤ sizeLine + 1 := by rw [Array.size_append]; exact hs2
    wp_walk using (wpAny_updateSeq hl rfl (hz := hc1) (_hz' := hz')), wpAny_loadPart' hl, wpAny_loadPart' hb
    exact ⟨_, rfl, hh⟩
end
section
variable {X : Cx}
def rRepD (K : PySem.W.Frag) : R2 := fun x y H Q => ∃ l k xs, x = .ref l ∧ y = .int k ∧ SqL K H l xs ∧ -(2 ^ 63) ≤ k ∧ k < 2 ^ 63 ∧ xs.length * k.toNat ≤ sizeLine ∧
  ∀ p, H p = none → Q (.ref p) (upd H p
        (.lst (List.replicate k.toNat xs).flatten))
theorem op_repD : OpR X (binaryOp .Mult) (rRepD X.K) := by
  intro
        pins s σ H x y v u Q I rx ry h
  obtain ⟨l, k, xs, rfl, rfl,
        hH, h1, h2, hz, q⟩ := h
  cases rx
  obtain ⟨t, rfl⟩ := ry
  obtain ⟨its, r, ⟨⟨oc, od, dt, sl⟩, n, e, hc, hd, he⟩, z⟩ := I.list hH
  simp only at hc hd he
  subst hc hd he
  have hl := r.length
  have hlen : its.toArray.size * k.toNat ≤ sizeLine :=
        by rw [List.size_toArray, ← hl]; exact hz
  have hcap : ¬ its.toArray.size * k.toNat > (2
        ^ 63 - 1) / 8 := by
    have w9 : (sizeLine : Nat) ≤ (2 ^ 63 - 1) / 8 := by decide
    omega
  have hfit : ¬ (!Builtin.List.listFitsIndex
        k) = true := by
    rw [fitsIndex_both h1 h2]; exact Bool.false_ne_true
  have hlong : ¬ Builtin.List.listTooLong (its.toArray.size
        * k.toNat) = true := by
    rw [notLongL hlen]; exact Bool.false_ne_true
  have hnew : List.foldl (fun x1 x2 => x1 ++ x2) #[] (List.replicate (if its.toArray.isEmpty =
        true then 0 else k.toNat) its.toArray) = (List.replicate k.toNat its).flatten.toArray := by
    rw [size_rep]
    cases its with
    | nil => simp
    | cons a r' => rw [if_neg
          (by simp)]
  refine wpAny_binaryOp_repeat_ref (T := "list") (U := "int") (by
        decide) ⟨_, e, rfl⟩ (fun s' => typeIs_int s' k t) noFill_list_mul F.fills_int_mul F.slot_int_rmul repeat_list F.slot_int_index.lookup
    (call_meets F.slot_int_rmul (typeIs_int s k t) F.entry_int_rmul (F.args_int_rmul_2 _ _) (rmulAny l its.toArray n _ sl k t)
      ⟨e, rfl, ⟨_, e, rfl⟩, call_meets F.slot_list_mul ⟨_, e, rfl⟩ F.entry_list_mul (F.args_list_mul_2 _ _) (mulAny l its.toArray n _ sl k t hfit hcap hlong) ⟨e, ?_⟩⟩)
  rw [hnew]
  exact ⟨.ref _, _, I.lnew (t' := s.toks) (r.rep k.toNat) (by
        rw [PyProof.Rows.lm_len_rep_flat, Nat.mul_comm]; exact hz), rfl, q _ I.fresh⟩
def rExtD (K : PySem.W.Frag) : V → List V → Hp → VK → Prop := fun x vs H Q => ∃ l b xs zs, x = .ref l ∧ vs = [.ref b] ∧ H l = some (.lst xs) ∧ SqL K H b zs ∧ xs.length + zs.length ≤ sizeLine ∧ Q .non (upd H l (.lst (xs ++ zs)))
theorem mt_extD : MtM X "list.extend" (rExtD X.K) := by
  intro
        pins s σ H x vs v us Q I rx rv h
  obtain ⟨l, b, xs, zs, rfl,
        rfl, hH, hB, hz, q⟩ := h
  cases rx
  obtain ⟨u, rfl, ru⟩ := rv.one
  cases ru
  obtain ⟨z, its, n, r,
        hl, e⟩ := I.lstM hH
  obtain ⟨its2, r2, ⟨⟨oc2, od2, dt2, sl2⟩, n2, e2, hc2, hd2, he2⟩, z2⟩ := I.list hB
  simp only at hc2 hd2 he2
  subst hc2 hd2 he2
  have hl2 := r2.length
  have hsz : its.toArray.size + its2.toArray.size ≤ sizeLine :=
        by rw [List.size_toArray, List.size_toArray]; omega
  have hlong : ¬ (!its.toArray.isEmpty && Builtin.List.listTooLong
        (its.toArray.size + its2.toArray.size)) = true := by
    rw [notLongL hsz, Bool.and_false]; exact Bool.false_ne_true
  refine call_meets F.slot_list_extend ⟨_, e,
        rfl⟩ F.entry_list_extend (F.args_list_extend_2 _ _)
    (extAny l its.toArray n _ sl2 b its2.toArray n2 hlong (by rw [List.size_toArray]; omega) (by omega)) ⟨e, e2, ?_⟩
  refine ⟨.non, _, I.lset (its' := its ++ its2)
        hH e (by simp) (r.append r2) ?_, rfl, q⟩
  rw [List.length_append]; omega
end
end PD
/-! Operations of all kinds joined; subscripts, slices; built-in calls; methods of texts. -/
namespace PD
open PySem L2 PySem.Spec PyProof.Rows
section
variable {X : Cx} {W : WX} {x y : Str} {pos p p2 : Pos} {e a b c : Expr} {es rest : List Expr} {te ta tb tc : TE} {td da db : ED} {oa ob oc od : OD} {K : PySem.W.Frag} {r r' : R2} {f g : PyData → PyData → Option Sl}
/-! ### the joined operations -/
def fAdd : PyData → PyData → Option Sl := fOr (fI2 fun i j => .int (i + j)) (fOr fAddS (fOr fAddL fAddT))
def rAddA (K : PySem.W.Frag) : R2 := rOr (rI0 fun i j => .int (i + j)) (rOr (fun x y H Q => ∃ i j, x = .str i ∧ y = .str j ∧ i.length + j.length ≤ sizeLine ∧ Q (.str (i ++ j)) H) (rOr (rCatD K) (rCatA K)))
theorem o_add : OpR X (binaryOp .Add) (rAddA X.K) := opOr op_add (opOr op_add_str (opOr op_catD op_catA))
theorem r_add : R2D K (rAddA K) fAdd := r2_ii.or (r2_adds.or (r2_addl.or r2_addt))
def fSub : PyData → PyData → Option Sl := fI2 fun i j => .int (i - j)
theorem r_sub : R2D K (rI0 fun i j => .int (i - j)) fSub := r2_ii
def fMulI : PyData → PyData → Option Sl := fI2c (fun i j => decide (i.natAbs.log2 + j.natAbs.log2 < 1000000)) fun i j => .int (i * j)
def fMulL : PyData → PyData → Option Sl
  | .list ds, .int k => if k ≤ 16777216 ∧ -16777216 ≤ k ∧ ds.length * k.toNat ≤ 16777216 then some (.own (.lst (List.replicate k.toNat ds).flatten)) else none
  | _, _ => none
theorem RpL.rep {H : Hp} {own : Addr → Prop} {ds : List PyData} {xs : List V} (h : RpL K H own ds xs) : ∀ n : Nat, RpL K H own (List.replicate n ds).flatten (List.replicate n xs).flatten
  | 0 => by simp only [List.replicate_zero, List.flatten_nil]; exact .nil
  | n + 1 => by
    simp only [List.replicate_succ, List.flatten_cons]
    exact h.append (RpL.rep h n)
theorem r2_mull : R2D K (rRepD K) fMulL := fun H own v1 v2 d1 d2 s Q c1 c2 e q => by
  unfold fMulL at e
  split at e
  · split at e
    · rename_i hc
      cases e
      obtain ⟨a, xs, rfl, h1, h2⟩ := c1.lst
      rw [rcInt c2]
      refine ⟨a, _, xs, rfl, rfl, h1, by omega, by omega, by rw [h2.len, sizeLine_eq]; exact hc.2.2, fun p hp => q _ _ (.lst hp (h2.rep _))⟩
    · cases e
  · cases e
def fMulT : PyData → PyData → Option Sl
  | .tuple ds, .int k => if ds ≠ [] ∧ 2 ≤ k ∧ k ≤ 1000 ∧ ds.length ≤ 1000 then some (.val (.tuple (List.replicate k.toNat ds).flatten)) else none
  | _, _ => none
theorem r2_mult : R2D K (rRepT K) fMulT := fun H own v1 v2 d1 d2 s Q c1 c2 e q => by
  unfold fMulT at e
  split at e
  · split at e
    · rename_i ds k hc
      cases e
      obtain ⟨a, xs, rfl, h1, h2⟩ := c1.tup
      rw [rcInt c2]
      refine ⟨a, _, xs, rfl, rfl, h1, fun z => hc.1 ?_, hc.2.1, hc.2.2.1, by rw [h2.len]; exact hc.2.2.2, fun p hp => q _ _ (.tup hp (h2.rep _))⟩
      have := h2.len
      rw [z] at this
      exact List.length_eq_zero_iff.mp this.symm
    · cases e
  · cases e
def fMul : PyData → PyData → Option Sl := fOr fMulI (fOr fMulL fMulT)
def rMulA (K : PySem.W.Frag) : R2 := rOr (rI CMulW fun i j => .int (i * j)) (rOr (rRepD K) (rRepT K))
theorem o_mul : OpR X (binaryOp .Mult) (rMulA X.K) := opOr op_mulW (opOr op_repD op_repT)
theorem r_mul : R2D K (rMulA K) fMul := R2D.or (r2_ic (C' := CMulW) fun i j h => by unfold CMulW; exact of_decide_eq_true h) (r2_mull.or r2_mult)
def fMod : PyData → PyData → Option Sl := fI2c (fun _ j => decide (0 < j)) fun i j => .int (i % j)
theorem r_mod : R2D K (rI (fun _ j => 0 < j) fun i j => .int (i % j)) fMod := r2_ic fun _ _ h => of_decide_eq_true h
def fDiv : PyData → PyData → Option Sl := fI2c (fun _ j => decide (0 < j ∧ j.natAbs.log2 < 9000)) fun i j => .int (i / j)
theorem r_div : R2D K (rI CDivW fun i j => .int (i / j)) fDiv := r2_ic fun i j h => by unfold CDivW; exact of_decide_eq_true h
def fPow : PyData → PyData → Option Sl := fI2c (fun i j => decide (0 ≤ j ∧ j ≤ 1000000 ∧ i.natAbs < 2 ^ 64)) fun i j => .int (i ^ j.toNat)
theorem r_pow : R2D K (rI CPow fun i j => .int (i ^ j.toNat)) fPow := r2_ic fun i j h => by unfold CPow; exact of_decide_eq_true h
def fLt : PyData → PyData → Option Sl := fI2 fun i j => .bool (decide (i < j))
def fLe : PyData → PyData → Option Sl := fI2 fun i j => .bool (decide (i ≤ j))
def fGt : PyData → PyData → Option Sl := fI2 fun i j => .bool (decide (j < i))
def fGe : PyData → PyData → Option Sl := fI2 fun i j => .bool (decide (j ≤ i))
theorem r_lt : R2D K (rI0 fun i j => .bl (decide (i < j))) fLt := r2_ib
theorem r_le : R2D K (rI0 fun i j => .bl (decide (i ≤ j))) fLe := r2_ib
theorem r_gt : R2D K (rI0 fun i j => .bl (decide (j < i))) fGt := r2_ib
theorem r_ge : R2D K (rI0 fun i j => .bl (decide (j ≤ i))) fGe := r2_ib
theorem shaped_nd {d : PyData} (h : SeqAt.shaped d = true) : d.hasDict = false := PyData.hasDict_of_canLay d (SeqAt.canLay_of_shaped h)
def fEqD : PyData → PyData → Option Sl := fun d e => if SeqAt.shaped d = true ∧ SeqAt.shaped e = true then some (.val (.bool (PyData.eqv d e))) else none
def fNeD : PyData → PyData → Option Sl := fun d e => if SeqAt.shaped d = true ∧ SeqAt.shaped e = true then some (.val (.bool (!PyData.eqv d e))) else none
theorem r_eqD : R2D K (rEqD K) fEqD := fun H own v1 v2 d1 d2 s Q c1 c2 e q => by
  unfold fEqD at e
  split at e
  · rename_i hc
    cases e
    exact ⟨d1, d2, c1.dp (shaped_nd hc.1), c2.dp (shaped_nd hc.2), hc.1, hc.2, q _ _ .bl⟩
  · cases e
theorem r_neD : R2D K (rNeD K) fNeD := fun H own v1 v2 d1 d2 s Q c1 c2 e q => by
  unfold fNeD at e
  split at e
  · rename_i hc
    cases e
    exact ⟨d1, d2, c1.dp (shaped_nd hc.1), c2.dp (shaped_nd hc.2), hc.1, hc.2, q _ _ .bl⟩
  · cases e
def fEqS : PyData → PyData → Option Sl
  | .int i, .int j => some (.val (.bool (decide (i = j))))
  | .str i, .str j => some (.val (.bool (decide (i = j))))
  | _, _ => none
def fNeS : PyData → PyData → Option Sl
  | .int i, .int j => some (.val (.bool (!decide (i = j))))
  | .str i, .str j => some (.val (.bool (!decide (i = j))))
  | _, _ => none
theorem r_eqS : R2D K rEq fEqS := fun H own v1 v2 d1 d2 s Q c1 c2 e q => by
  unfold fEqS at e
  split at e
  · rename_i i j
    cases e
    rw [rcInt c1, rcInt c2]
    refine ⟨rfl, ?_⟩
    rw [show decide (V.int i = V.int j) = decide (i = j) from by simp]
    exact q _ _ .bl
  · rename_i i j
    cases e
    rw [rcStr c1, rcStr c2]
    refine ⟨rfl, ?_⟩
    rw [show decide (V.str i = V.str j) = decide (i = j) from by simp]
    exact q _ _ .bl
  · cases e
theorem r_neS : R2D K rNe fNeS := fun H own v1 v2 d1 d2 s Q c1 c2 e q => by
  unfold fNeS at e
  split at e
  · rename_i i j
    cases e
    rw [rcInt c1, rcInt c2]
    refine ⟨rfl, ?_⟩
    rw [show decide (V.int i = V.int j) = decide (i = j) from by simp]
    exact q _ _ .bl
  · rename_i i j
    cases e
    rw [rcStr c1, rcStr c2]
    refine ⟨rfl, ?_⟩
    rw [show decide (V.str i = V.str j) = decide (i = j) from by simp]
    exact q _ _ .bl
  · cases e
def fEq : PyData → PyData → Option Sl := fOr fEqS fEqD
def fNe : PyData → PyData → Option Sl := fOr fNeS fNeD
theorem o_eq {k : Nat} {X : Cx} (hr : Room k X.A) : OpR X (compareOp .Eq) (rOr rEq (rEqD X.K)) := opOr op_eq (op_eqD hr.units)
theorem o_ne {k : Nat} {X : Cx} (hr : Room k X.A) : OpR X (compareOp .NotEq) (rOr rNe (rNeD X.K)) := opOr op_ne (op_neD hr.units)
theorem r_eq : R2D K (rOr rEq (rEqD K)) fEq := r_eqS.or r_eqD
theorem r_ne : R2D K (rOr rNe (rNeD K)) fNe := r_neS.or r_neD
/-- is None -/
def isNo : PyData → Bool
  | .none => true
  | _ => false
def fIs : PyData → PyData → Option Sl
  | d, .none => some (.val (.bool (isNo d)))
  | _, _ => none
def fNot : PyData → PyData → Option Sl
  | d, .none => some (.val (.bool (!isNo d)))
  | _, _ => none
theorem isNo_v {H : Hp} {own : Addr → Prop} {d : PyData} {v : V} (h : Rc K H own d v) : decide (v = .non) = isNo d := by
  cases d with
  | none => rw [rcNon h]; rfl
  | bool b => rw [rcBl h]; rfl
  | int b => rw [rcInt h]; rfl
  | str b => rw [rcStr h]; rfl
  | list ds => obtain ⟨a, xs, rfl, _⟩ := h.lst; rfl
  | tuple ds => obtain ⟨a, xs, rfl, _⟩ := h.tup; rfl
  | dict ds =>
    have h' : Rp K H own (.dict ds) v := h
    simp only [Rp] at h'
    obtain ⟨a, kvs, rfl, _⟩ := h'
    rfl
theorem r_is : R2D K (fun x y H Q => y = .non ∧ Q (.bl (decide (x = .non))) H) fIs := fun H own v1 v2 d1 d2 s Q c1 c2 e q => by
  unfold fIs at e
  split at e
  · cases e
    refine ⟨rcNon c2, ?_⟩
    rw [isNo_v c1]
    exact q _ _ .bl
  · cases e
theorem r_isnot : R2D K (fun x y H Q => y = .non ∧ Q (.bl (!decide (x = .non))) H) fNot := fun H own v1 v2 d1 d2 s Q c1 c2 e q => by
  unfold fNot at e
  split at e
  · cases e
    refine ⟨rcNon c2, ?_⟩
    rw [isNo_v c1]
    exact q _ _ .bl
  · cases e
/-- x in: a sign in a text; a flat value in a list or tuple of such -/
def flatD : PyData → Bool
  | .none => true
  | .bool _ => true
  | .int _ => true
  | .str _ => true
  | _ => false
def eqF : PyData → PyData → Bool
  | .none, .none => true
  | .bool a, .bool b => a == b
  | .bool a, .int b => (if a then 1 else 0) == b
  | .int a, .bool b => a == (if b then 1 else 0)
  | .int a, .int b => a == b
  | .str a, .str b => a == b
  | _, _ => false
theorem flat_v {H : Hp} {own : Addr → Prop} {d : PyData} {v : V} (h : Rp K H own d v) (f : flatD d = true) : flatV v = true := by
  cases d with
  | list ds => cases f
  | tuple ds => cases f
  | dict ds => cases f
  | none => simp only [Rp] at h; subst h; rfl
  | bool _ => simp only [Rp] at h; subst h; rfl
  | int _ => simp only [Rp] at h; subst h; rfl
  | str _ => simp only [Rp] at h; subst h; rfl
theorem flat_all {H : Hp} {own : Addr → Prop} : ∀ {ds : List PyData} {xs : List V}, RpL K H own ds xs → ds.all flatD = true → xs.all flatV = true
  | [], xs, h, f => by simp only [RpL] at h; subst h; rfl
  | d :: ds, xs, h, f => by
    simp only [RpL] at h
    obtain ⟨x, r, rfl, h1, h2⟩ := h
    rw [List.all_cons,
          Bool.and_eq_true] at f
    rw [List.all_cons, flat_v h1 f.1, flat_all h2 f.2, Bool.and_self]
theorem eq_f {H : Hp} {own : Addr → Prop} {d d' : PyData} {v v' : V} (h : Rp K H own d v) (h' : Rp K H own d' v') (f : flatD d = true) (f' : flatD d' = true) : eqV v v' = eqF d d' := by
  cases d <;> first | (simp [flatD] at f; done) | (cases d' <;> first | (simp [flatD] at f'; done) | (simp only [Rp] at h h'; subst h; subst h'; rfl))
theorem in_f {H : Hp} {own : Addr → Prop} {d' : PyData} {v' : V} (h' : Rp K H own d' v') (f' : flatD d' = true) : ∀ {ds : List PyData} {xs : List V}, RpL K H own ds xs → ds.all flatD = true → inV v' xs = ds.any fun z => eqF z d'
  | [], xs, h, f => by simp only [RpL] at h; subst h; rfl
  | d :: ds, xs, h, f => by
    simp only [RpL] at h
    obtain ⟨x, r, rfl, h1, h2⟩ := h
    rw [List.all_cons,
          Bool.and_eq_true] at f
    have ih := in_f h' f' h2 f.2
    unfold inV at ih ⊢
    rw [List.any_cons, List.any_cons, ih, eq_f h1 h' f.1 f']
def seqOf : PyData → Option (List PyData)
  | .list ds => some ds
  | .tuple ds => some ds
  | _ => none
theorem Rc.rpF {H : Hp} {own : Addr → Prop} {d : PyData} {v : V} (h : Rc K H own d v) (f : flatD d = true) : Rp K H own d v := by
  cases d with
  | list ds => cases f
  | _ => exact h
theorem Rc.seq {H : Hp} {own : Addr → Prop} {d : PyData} {ds : List PyData} {v : V} (h : Rc K H own d v) (e : seqOf d = some ds) : ∃ p xs, v = .ref p ∧ (SqL K H p xs ∨ SqT K H p xs) ∧ RpL K H own ds xs := by
  cases d with
  | list es => cases e; obtain ⟨a, xs, rfl, h1, h2⟩ := h.lst; exact ⟨a, xs, rfl, .inl h1, h2⟩
  | tuple es => cases e; obtain ⟨a, xs, rfl, h1, h2⟩ := h.tup; exact ⟨a, xs, rfl, .inr h1, h2⟩
  | _ => cases e
def fInQ (neg : Bool) : PyData → PyData → Option Sl := fun d e => match seqOf e with
  | some ds => if flatD d = true ∧ ds.all flatD = true then some (.val (.bool (if neg then !ds.any fun z => eqF z d else ds.any fun z => eqF z d))) else none
  | none => none
theorem r2_inq {neg : Bool} : R2D K (rIn K neg) (fInQ neg) := fun H own v1 v2 d1 d2 s Q c1 c2 e q => by
  unfold fInQ at e
  split at e
  · rename_i ds es
    split at e
    · rename_i hc
      cases e
      obtain ⟨p, xs, rfl, h1, h2⟩ := c2.seq es
      have r1 := c1.rpF hc.1
      refine ⟨p, xs, rfl, h1, flat_v r1 hc.1, flat_all h2 hc.2, ?_⟩
      rw [in_f r1 hc.1 h2 hc.2]
      exact q _ _ .bl
    · cases e
  · cases e
def oneC (z : Str) : Option Nat := match z.cps.toList with
  | [c] => some c
  | _ => none
theorem oneC_eq {z : Str} {c : Nat} (h : oneC z = some c) : z = ⟨#[c]⟩ := by
  unfold oneC at h
  split at h
  · rename_i c' e
    cases h
    obtain ⟨a⟩ := z
    congr 1
    have := congrArg List.toArray e
    simpa using this
  · cases h
def fInS (neg : Bool) : PyData → PyData → Option Sl
  | .str a, .str z => (oneC a).map fun c => .val (.bool (if neg then !decide (c ∈ z.cps.toList) else decide (c ∈ z.cps.toList)))
  | _, _ => none
theorem r2_ins : R2D K (fun x y H Q => ∃ (c : Nat) (z : Str), x = .str ⟨#[c]⟩ ∧ y = .str z ∧ Q (.bl (decide (c ∈ z.cps.toList))) H) (fInS false) := fun H own v1 v2 d1 d2 s Q c1 c2 e q => by
  unfold fInS at e
  split at e
  · rw [Option.map_eq_some_iff] at e
    obtain ⟨c, h1, rfl⟩ := e
    rw [rcStr c1, rcStr c2, oneC_eq h1]
    exact ⟨c, _, rfl, rfl, q _ _ .bl⟩
  · cases e
theorem r2_nins : R2D K (fun x y H Q => ∃ (c : Nat) (z : Str), x = .str ⟨#[c]⟩ ∧ y = .str z ∧ Q (.bl (!decide (c ∈ z.cps.toList))) H) (fInS true) := fun H own v1 v2 d1 d2 s Q c1 c2 e q => by
  unfold fInS at e
  split at e
  · rw [Option.map_eq_some_iff] at e
    obtain ⟨c, h1, rfl⟩ := e
    rw [rcStr c1, rcStr c2, oneC_eq h1]
    exact ⟨c, _, rfl, rfl, q _ _ .bl⟩
  · cases e
def fIn : PyData → PyData → Option Sl := fOr (fInS false) (fInQ false)
def fNin : PyData → PyData → Option Sl := fOr (fInS true) (fInQ true)
def rInA (K : PySem.W.Frag) : R2 := rOr (fun x y H Q => ∃ (c : Nat) (z : Str), x = .str ⟨#[c]⟩ ∧ y = .str z ∧ Q (.bl (decide (c ∈ z.cps.toList))) H) (rIn K false)
def rNinA (K : PySem.W.Frag) : R2 := rOr (fun x y H Q => ∃ (c : Nat) (z : Str), x = .str ⟨#[c]⟩ ∧ y = .str z ∧ Q (.bl (!decide (c ∈ z.cps.toList))) H) (rIn K true)
theorem o_in : OpR X (compareOp .In) (rInA X.K) := opOr op_in_sign op_in_seq
theorem o_nin : OpR X (compareOp .NotIn) (rNinA X.K) := opOr op_notIn_sign op_notIn_seq
theorem r_in : R2D K (rInA K) fIn := r2_ins.or r2_inq
theorem r_nin : R2D K (rNinA K) fNin := r2_nins.or r2_inq
/-! ### a[b], a[lo:hi] -/
theorem RpL.at {H : Hp} {own : Addr → Prop} {ds : List PyData} {xs : List V} {i : Int} {d : PyData} (h : RpL K H own ds xs) (e : atI ds i = some d) : ∃ v, atI xs i = some v ∧ Rp K H own d v := by
  unfold atI at e ⊢
  rw [h.len]
  cases e1 : ixN ds.length i with
  | none => rw [e1] at e; cases e
  | some j =>
    rw [e1] at e
    exact h.get e
def fIx : PyData → PyData → Option Sl
  | .list ds, .int i => (atI ds i).map .val
  | .tuple ds, .int i => (atI ds i).map .val
  | .str z, .int i => if z.length ≤ 16777216 then (atI z.cps.toList i).map fun c => .val (.str ⟨#[c]⟩) else none
  | _, _ => none
theorem r_ix : R2D K (rIx K) fIx := fun H own v1 v2 d1 d2 s Q c1 c2 e q => by
  unfold fIx at e
  split at e
  · rw [Option.map_eq_some_iff] at e
    obtain ⟨d, h1, rfl⟩ := e
    obtain ⟨a, xs, rfl, h2, h3⟩ := c1.lst
    obtain ⟨v, e1, rv⟩ := h3.at h1
    exact .inl ⟨a, xs, _, v, rfl, rcInt c2, h2, e1, q _ _ (.inl ⟨rfl, _, rfl, rv⟩)⟩
  · rw [Option.map_eq_some_iff] at e
    obtain ⟨d, h1, rfl⟩ := e
    obtain ⟨a, xs, rfl, h2, h3⟩ := c1.tup
    obtain ⟨v, e1, rv⟩ := h3.at h1
    exact .inr (.inl ⟨a, xs, _, v, rfl, rcInt c2, h2, e1, q _ _ (.inl ⟨rfl, _, rfl, rv⟩)⟩)
  · split at e
    · rename_i hz
      rw [Option.map_eq_some_iff] at e
      obtain ⟨c, h1, rfl⟩ := e
      exact .inr (.inr ⟨_, _, c, rcStr c1, rcInt c2, by rw [sizeLine_eq]; exact hz, h1, q _ _ .str⟩)
    · cases e
  · cases e
abbrev QD := Env → (Option Int → Env → Prop) → XD → Prop
def SimQ (K : PySem.W.Frag) (W : WX) (to : TO) (qd : QD) : Prop := ∀ (x : Fx) (σ : L2.St) (H : Hp) (env : Env) (T : List Ent) (Q : Option Int → Hp → Prop) (Qd : Option Int → Env → Prop) (Xd : XD), x.K = K → RelS x σ H env T → XL x T W Xd →
  (∀ v H' env', RelS x σ H' env' T → Qd v env' → Q v H') → qd env Qd Xd → to σ H Q
structure PQd (X : Cx) (W : WX) (e : Option Expr) (to : TO) (qd : QD) : Prop where
  po : PO X e to
  sim : SimQ X.K W to qd
def qNo : QD := fun env Q _ => Q none env
def qSm (od : OD) : QD := fun env Q X => od env (fun o e => ∃ i, cont e o = some (.int i) ∧ Q (some i) e) X
theorem pq_none : PQd X W none tNoPart qNo := ⟨po_none, fun x σ H env T Q Qd Xd hk r hx hq h => hq none H env r h⟩
theorem pq_some (h : POd X W e te od) : PQd X W (some e) (tPart te) (qSm od) := ⟨po_some h.pe, fun x σ H env T Q Qd Xd hk r hx hq hh =>
  h.sim x σ H env T _ _ Xd hk r hx (fun v o H' env' r' ok q => by
    obtain ⟨i, e1, q⟩ := q
    have := rcInt (r'.rc (fun z hz => List.mem_append_left _ hz) ok e1)
    exact ⟨i, this, hq _ H' env' r'.tail q⟩) hh⟩
def cutD (ds : List PyData) (lo hi : Option Int) : List PyData := (ds.drop (HT.sIx ds.length 0 lo)).take (HT.sIx ds.length ds.length hi - HT.sIx ds.length 0 lo)
def fSl : PyData → Option Int → Option Int → Option Sl
  | .list ds, lo, hi => some (.own (.lst (cutD ds lo hi)))
  | .tuple ds, lo, hi => some (.val (.tuple (cutD ds lo hi)))
  | .str z, lo, hi => if z.length ≤ 16777216 then some (.val (.str (cutS z lo hi))) else none
  | _, _, _ => none
def rSlAll (K : PySem.W.Frag) : V → Option Int → Option Int → Hp → VK → Prop := fun x lo hi H Q => rSlL K x lo hi H Q ∨ (rSlA K x lo hi H Q ∨ rSlS x lo hi H Q)
theorem sl_all : L2.SlR X (rSlAll X.K) := L2.SlR.or sl_list (L2.SlR.or sl_tupA sl_str)
theorem RpL.cut {H : Hp} {own : Addr → Prop} {ds : List PyData} {xs : List V} (h : RpL K H own ds xs) (lo hi : Option Int) : RpL K H own (cutD ds lo hi) (cutV xs lo hi) := by
  unfold cutD cutV
  rw [h.len]
  exact (h.drop _).take _
theorem sl_data {H : Hp} {own : Addr → Prop} {d : PyData} {v : V} {lo hi : Option Int} {s : Sl} {Q : VK} (c : Rc K H own d v) (e : fSl d lo hi = some s) (q : ∀ v H', Out K H own s v H' → Q v H') : rSlAll K v lo hi H Q := by
  unfold fSl at e
  split at e
  · cases e
    obtain ⟨a, xs, rfl, h1, h2⟩ := c.lst
    exact .inl ⟨a, xs, rfl, h1, fun p hp => q _ _ (.lst hp (h2.cut lo hi))⟩
  · cases e
    have rp := c.rp
    rename_i ds
    obtain ⟨a, xs, rfl, h1, h2⟩ := c.tup
    refine .inr (.inl ⟨a, xs, rfl, h1, fun w => ?_, fun _ p hp => q _ _ (.tup hp (h2.cut lo hi))⟩)
    have : cutD ds lo hi = ds := by
      unfold cutD
      rw [h2.len] at w
      rw [w.1, w.2]; simp
    rw [this] at q
    exact q _ _ (.inl ⟨rfl, _, rfl, rp⟩)
  · split at e
    · rename_i hz
      cases e
      rw [rcStr c]
      exact .inr (.inr ⟨_, rfl, by rw [sizeLine_eq]; exact hz, q _ _ .str⟩)
    · cases e
  · cases e
def dSl (od : OD) (ql qu : QD) : ED := fun env Q X => od env (fun o e1 => ql e1 (fun lo e2 => qu e2 (fun hi e3 => ∃ s, ((cont e3 o).bind fun d => fSl d lo hi) = some s ∧ Q s e3) X) X) X
theorem pd_slice {lo hi : Option Expr} {tl th : TO} {ql qu : QD} (ho : POd X W e te od) (hl : PQd X W lo tl ql) (hu : PQd X W hi th qu) : PEd X W (.Subscript e (.Slice lo hi none p2) pos) (tSl (rSlAll X.K) te tl th) (dSl od ql qu) :=
  ⟨pe_slice sl_all ho.pe hl.po hu.po, fun x σ H env T Q Qd Xd hk r hx hq h => by
    refine ho.sim x σ H env T _ _ Xd hk r hx (fun v o H1 e1 r1 ok q => ?_) h
    have hx1 : XL x (tOp1 v o ++ T) W Xd := hx.more (List.sublist_append_right _ _)
    refine hl.sim x σ H1 e1 _ _ _ Xd hk r1 hx1 (fun l H2 e2 r2 q2 => ?_) q
    refine hu.sim x σ H2 e2 _ _ _ Xd hk r2 hx1 (fun u H3 e3 r3 q3 => ?_) q2
    obtain ⟨s, e4, q3⟩ := q3
    rw [Option.bind_eq_some_iff] at e4
    obtain ⟨d, e5, e6⟩ := e4
    have c := r3.rc (fun z hz => List.mem_append_left _ hz) ok e5
    rw [hk] at c
    refine sl_data c e6 fun v H4 o' => ?_
    refine hq v _ H4 e3 ((r3.out (by rw [hk]; exact o')).drop ?_) q3
    exact List.Sublist.cons_cons _ (List.sublist_append_right _ _)⟩
/-! ### built-in calls -/
def RcL (K : PySem.W.Frag) (H : Hp) (own : Addr → Prop) : List PyData → List V → Prop
  | [], vs => vs = []
  | d :: ds, vs => ∃ v r, vs = v :: r ∧ Rc K H own d v ∧ RcL K H own ds r
def conts (env : Env) : List Opn → Option (List PyData)
  | [] => some []
  | o :: os => (cont env o).bind fun d => (conts env os).map (d :: ·)
theorem RelS.rcL {x : Fx} {σ : L2.St} {H : Hp} {env : Env} {T : List Ent} : ∀ {os : List Opn} {vs : List V} {ds : List PyData}, RelS x σ H env T → (∀ e ∈ tOps vs os, e ∈ T) → okOps σ vs os → conts env os = some ds → RcL x.K H (ownOf x (σ.zip env ++ T)) ds vs
  | [], [], ds, r, hT, ok, h => by simp [conts] at h; subst h; rfl
  | [], v :: vs, ds, r, hT, ok, h => by simp [okOps] at ok
  | o :: os, [], ds, r, hT, ok, h => by cases o <;> simp [okOps] at ok
  | o :: os, v :: vs, ds, r, hT, ok, h => by
    simp only [conts, Option.bind_eq_some_iff, Option.map_eq_some_iff] at h
    obtain ⟨d, e1, ds', e2, rfl⟩ := h
    refine ⟨v, vs, rfl, r.rc (fun e he => hT _ ?_) ok.1 e1, RelS.rcL r (fun e he => hT e ?_) ok.2 e2⟩
    · simp only [tOps, List.mem_append]; exact .inl he
    · simp only [tOps, List.mem_append]; exact .inr he
def RnD (K : PySem.W.Frag) (r : List V → Hp → VK → Prop) (f : List PyData → Option Sl) : Prop := ∀ (H : Hp) (own : Addr → Prop) (vs : List V) (ds : List PyData) (s : Sl) (Q : VK), RcL K H own ds vs → f ds = some s → (∀ v H', Out K H own s v H' → Q v H') → r vs H Q
def dFn (f : List PyData → Option Sl) (ad : AD) : ED := fun env Q X => ad env (fun os e => ∃ s, (conts e os).bind f = some s ∧ Q s e) X
variable {rn rn' : List V → Hp → VK → Prop} {fn fn' : List PyData → Option Sl} {t : TA} {ad : AD} {id T : String}
theorem sim_fn (hr : RnD K rn fn) (ha : SimA K W t ad) : SimE K W (tCB rn t) (dFn fn ad) := fun x σ H env T Q Qd Xd hk r hx hq h => by
  refine ha x σ H env T _ _ Xd hk r hx (fun vs os H1 e1 r1 ok q => ?_) h
  obtain ⟨s, e, q⟩ := q
  rw [Option.bind_eq_some_iff] at e
  obtain ⟨ds, e1', e2⟩ := e
  have c := r1.rcL (fun e he => List.mem_append_left _ he) ok e1'
  rw [hk] at c
  refine hr H1 _ vs ds s Q c e2 fun v H2 o => ?_
  refine hq v _ H2 e1 ((r1.out (by rw [hk]; exact o)).drop ?_) q
  exact List.Sublist.cons_cons _ (List.sublist_append_right _ _)
def rnOr (r r' : List V → Hp → VK → Prop) : List V → Hp → VK → Prop := fun xs H Q => r xs H Q ∨ r' xs H Q
def fnOr (f g : List PyData → Option Sl) : List PyData → Option Sl := fun ds => (f ds).or (g ds)
theorem callOr {h : Value} (h1 : CallR X h rn) (h2 : CallR X h rn') : CallR X h (rnOr rn rn') := fun pins s σ H xs us Q I r q => q.elim (h1 pins s σ H xs us Q I r) (h2 pins s σ H xs us Q I r)
theorem RnD.or (h1 : RnD K rn fn) (h2 : RnD K rn' fn') : RnD K (rnOr rn rn') (fnOr fn fn') := fun H own vs ds s Q c e q => by
  unfold fnOr at e
  cases e1 : fn ds with
  | some s' => rw [e1] at e; cases e; exact .inl (h1 H own vs ds s Q c e1 q)
  | none => rw [e1] at e; exact .inr (h2 H own vs ds s Q c e q)
theorem pd_callB (hc : CallR X (.builtin id) rn) (hr : RnD X.K rn fn) (hg : Gl X x) (hm : X.mg x = none) (hv : bootBuiltins x = some (.builtin id)) (ha : PAd X W (e :: es) t ad) (hn : x ≠ "__name__" := by decide) (hdb : (x == ("__debug__" : Str)) = false := by decide)
    (he : starEach (e :: es) X.env = (false, eval e X.env) :: starEach es X.env := by rfl) (hpl : (backTo pos (starEach es X.env)).any (·.1) = false := by rfl) : PEd X W (.Call (.Name x p) (e :: es) [] pos) (tCB rn t) (dFn fn ad) :=
  ⟨pe_callB hc hg hm hv ha.pa hn hdb he hpl, sim_fn hr ha.sim⟩
theorem pd_callTy (hc : CallR X (.type T) rn) (hr : RnD X.K rn fn) (hg : Gl X x) (hm : X.mg x = none) (hv : bootBuiltins x = some (.type T)) (ha : PAd X W (e :: es) t ad) (hn : x ≠ "__name__" := by decide) (hdb : (x == ("__debug__" : Str)) = false := by decide)
    (he : starEach (e :: es) X.env = (false, eval e X.env) :: starEach es X.env := by rfl) (hpl : (backTo pos (starEach es X.env)).any (·.1) = false := by rfl) : PEd X W (.Call (.Name x p) (e :: es) [] pos) (tCB rn t) (dFn fn ad) :=
  ⟨pe_callTy hc hg hm hv ha.pa hn hdb he hpl, sim_fn hr ha.sim⟩
def fn1 (f : PyData → Option Sl) : List PyData → Option Sl
  | [d] => f d
  | _ => none
def fn2 (f : PyData → PyData → Option Sl) : List PyData → Option Sl
  | [d, e] => f d e
  | _ => none
theorem rn_1 {f : PyData → Option Sl} (h : ∀ (H : Hp) (own : Addr → Prop) (v : V) (d : PyData) (s : Sl) (Q : VK), Rc K H own d v → f d = some s → (∀ v H', Out K H own s v H' → Q v H') → rn [v] H Q) : RnD K rn (fn1 f) := fun H own vs ds s Q c e q => by
  unfold fn1 at e
  split at e
  · obtain ⟨v, r, rfl, c1, c2⟩ := c
    cases c2
    exact h H own v _ s Q c1 e q
  · cases e
theorem rn_2 {f : PyData → PyData → Option Sl} (h : ∀ (H : Hp) (own : Addr → Prop) (v v' : V) (d d' : PyData) (s : Sl) (Q : VK), Rc K H own d v → Rc K H own d' v' → f d d' = some s → (∀ v H', Out K H own s v H' → Q v H') → rn [v, v'] H Q) : RnD K rn (fn2 f) := fun H own vs ds s Q c e q => by
  unfold fn2 at e
  split at e
  · obtain ⟨v, r, rfl, c1, v', r', rfl, c2, c3⟩ := c
    cases c3
    exact h H own v v' _ _ s Q c1 c2 e q
  · cases e
/-- len -/
def fLen : PyData → Option Sl
  | .list ds => some (.val (.int ds.length))
  | .tuple ds => some (.val (.int ds.length))
  | .str z => if z.length ≤ 16777216 then some (.val (.int z.length)) else none
  | _ => none
theorem r_len : RnD K (fun xs H Q => ∃ x n, xs = [x] ∧ LenV K x H n ∧ Q (.int n) H) (fn1 fLen) := rn_1 fun H own v d s Q c e q => by
  unfold fLen at e
  split at e
  · cases e
    obtain ⟨a, xs, rfl, h1, h2⟩ := c.lst
    exact ⟨_, _, rfl, .inl ⟨xs, h1, h2.len.symm⟩, q _ _ .int⟩
  · cases e
    obtain ⟨a, xs, rfl, h1, h2⟩ := c.tup
    exact ⟨_, _, rfl, .inr ⟨xs, h1, h2.len.symm⟩, q _ _ .int⟩
  · split at e
    · rename_i hz
      cases e
      rw [rcStr c]
      exact ⟨_, _, rfl, ⟨by rw [sizeLine_eq]; exact hz, rfl⟩, q _ _ .int⟩
    · cases e
  · cases e
/-- abs, max, min of ints -/
def fAbs : PyData → Option Sl
  | .int i => some (.val (.int (if i < 0 then -i else i)))
  | _ => none
theorem r_abs : RnD K (fun xs H Q => ∃ i, xs = [.int i] ∧ Q (.int (if i < 0 then -i else i)) H) (fn1 fAbs) := rn_1 fun H own v d s Q c e q => by
  unfold fAbs at e
  split at e
  · cases e
    rw [rcInt c]
    exact ⟨_, rfl, q _ _ .int⟩
  · cases e
def fMax : PyData → PyData → Option Sl := fI2 fun i j => .int (if j > i then j else i)
def fMin : PyData → PyData → Option Sl := fI2 fun i j => .int (if j < i then j else i)
theorem r_max : RnD K (fun xs H Q => ∃ i j, xs = [.int i, .int j] ∧ Q (.int (if j > i then j else i)) H) (fn2 fMax) := rn_2 fun H own v v' d d' s Q c c' e q => by
  unfold fMax fI2 at e
  split at e
  · cases e
    rw [rcInt c, rcInt c']
    exact ⟨_, _, rfl, q _ _ .int⟩
  · cases e
theorem r_min : RnD K (fun xs H Q => ∃ i j, xs = [.int i, .int j] ∧ Q (.int (if j < i then j else i)) H) (fn2 fMin) := rn_2 fun H own v v' d d' s Q c c' e q => by
  unfold fMin fI2 at e
  split at e
  · cases e
    rw [rcInt c, rcInt c']
    exact ⟨_, _, rfl, q _ _ .int⟩
  · cases e
/-- divmod -/
def fDvm : PyData → PyData → Option Sl := fI2c (fun i j => decide (0 < j) && !Builtin.divisionGoesByPylong i j) fun i j => .tuple [.int (i / j), .int (i % j)]
theorem r_dvm : RnD K (fun xs H Q => ∃ i j, xs = [.int i, .int j] ∧ CDivP i j ∧ ∀ p, H p = none → Q (.ref p) (upd H p (.tup [.int (i / j), .int (i % j)]))) (fn2 fDvm) := rn_2 fun H own v v' d d' s Q c c' e q => by
  unfold fDvm fI2c at e
  split at e
  · split at e
    · rename_i hc
      cases e
      rw [rcInt c, rcInt c']
      rw [Bool.and_eq_true] at hc
      exact ⟨_, _, rfl, ⟨of_decide_eq_true hc.1, by simpa using hc.2⟩, fun p hp => q _ _ (.tup hp (.cons (by simp only [Rp]) (.cons (by simp only [Rp]) .nil)))⟩
    · cases e
  · cases e
/-- int -/
def fInt : PyData → Option Sl
  | .int i => some (.val (.int i))
  | .bool k => some (.val (.int (if k then 1 else 0)))
  | .str z => if z.length ≤ 640 then (PySem.intText? z).map fun n => .val (.int n) else none
  | _ => none
def rIntA : List V → Hp → VK → Prop := rnOr (fun xs H Q => (∃ i, xs = [.int i] ∧ Q (.int i) H) ∨ ∃ k, xs = [.bl k] ∧ Q (.int (if k then 1 else 0)) H) (fun xs H Q => ∃ a n, xs = [.str a] ∧ PySem.intText? a = some n ∧ a.length ≤ 640 ∧ Q (.int n) H)
theorem c_int : CallR X (.type "int") rIntA := callOr call_int1 call_int_str
theorem r_int : RnD K rIntA (fn1 fInt) := rn_1 fun H own v d s Q c e q => by
  unfold fInt at e
  split at e
  · cases e; rw [rcInt c]; exact .inl (.inl ⟨_, rfl, q _ _ .int⟩)
  · cases e; rw [rcBl c]; exact .inl (.inr ⟨_, rfl, q _ _ .int⟩)
  · split at e
    · rename_i hz
      rw [Option.map_eq_some_iff] at e
      obtain ⟨n, h1, rfl⟩ := e
      rw [rcStr c]
      exact .inr ⟨_, n, rfl, h1, hz, q _ _ .int⟩
    · cases e
  · cases e
/-- str -/
def fStr : PyData → Option Sl
  | .int i => if i.natAbs.log2 < 1920 then some (.val (.str (toString i))) else none
  | .str z => some (.val (.str z))
  | _ => none
def rStrA : List V → Hp → VK → Prop := rnOr (fun xs H Q => ∃ i, xs = [.int i] ∧ i.natAbs.log2 < 1920 ∧ Q (.str (toString i)) H) (fun xs H Q => ∃ a, xs = [.str a] ∧ Q (.str a) H)
theorem c_str : CallR X (.type "str") rStrA := callOr call_str_int SkE.call_str_str
theorem r_str : RnD K rStrA (fn1 fStr) := rn_1 fun H own v d s Q c e q => by
  unfold fStr at e
  split at e
  · split at e
    · rename_i hz
      cases e; rw [rcInt c]; exact .inl ⟨_, rfl, hz, q _ _ .str⟩
    · cases e
  · cases e; rw [rcStr c]; exact .inr ⟨_, rfl, q _ _ .str⟩
  · cases e
/-- list, tuple -/
def fList : PyData → Option Sl := fun d => (seqOf d).map fun ds => .own (.lst ds)
theorem r_list : RnD K (fun xs H Q => ∃ p ys, xs = [.ref p] ∧ (SqL K H p ys ∨ SqT K H p ys) ∧ ∀ l, H l = none → Q (.ref l) (upd H l (.lst ys))) (fn1 fList) := rn_1 fun H own v d s Q c e q => by
  unfold fList at e
  rw [Option.map_eq_some_iff] at e
  obtain ⟨ds, h1, rfl⟩ := e
  obtain ⟨p, xs, rfl, h2, h3⟩ := c.seq h1
  exact ⟨p, xs, rfl, h2, fun l hl => q _ _ (.lst hl h3)⟩
def fTup : PyData → Option Sl
  | .list ds => some (.val (.tuple ds))
  | .tuple ds => some (.val (.tuple ds))
  | _ => none
theorem r_tup : RnD K (fun xs H Q => ∃ p ys, xs = [.ref p] ∧ ((SqL K H p ys ∧ ∀ l, H l = none → Q (.ref l) (upd H l (.tup ys))) ∨ (SqT K H p ys ∧ Q (.ref p) H))) (fn1 fTup) := rn_1 fun H own v d s Q c e q => by
  unfold fTup at e
  split at e
  · cases e
    obtain ⟨a, xs, rfl, h1, h2⟩ := c.lst
    exact ⟨a, xs, rfl, .inl ⟨h1, fun l hl => q _ _ (.tup hl h2)⟩⟩
  · cases e
    have rp := c.rp
    obtain ⟨a, xs, rfl, h1, h2⟩ := c.tup
    exact ⟨a, xs, rfl, .inr ⟨h1, q _ _ (.inl ⟨rfl, _, rfl, rp⟩)⟩⟩
  · cases e
/-- all, any of bools -/
def bools : List PyData → Option (List Bool)
  | [] => some []
  | .bool b :: ds => (bools ds).map (b :: ·)
  | _ :: _ => none
theorem bools_v {H : Hp} {own : Addr → Prop} : ∀ {ds : List PyData} {bs : List Bool} {xs : List V}, RpL K H own ds xs → bools ds = some bs → xs = bs.map V.bl
  | [], bs, xs, h, e => by simp [bools] at e; subst e; simp only [RpL] at h; exact h
  | .bool b :: ds, bs, xs, h, e => by
    simp only [bools, Option.map_eq_some_iff] at e
    obtain ⟨cs, h1, rfl⟩ := e
    simp only [RpL] at h
    obtain ⟨x, r, rfl, h2, h3⟩ := h
    simp only [Rp] at h2
    subst h2
    rw [List.map_cons, bools_v h3 h1]
  | .none :: ds, bs, xs, h, e => by simp [bools] at e
  | .int _ :: ds, bs, xs, h, e => by simp [bools] at e
  | .str _ :: ds, bs, xs, h, e => by simp [bools] at e
  | .list _ :: ds, bs, xs, h, e => by simp [bools] at e
  | .tuple _ :: ds, bs, xs, h, e => by simp [bools] at e
  | .dict _ :: ds, bs, xs, h, e => by simp [bools] at e
def fAll : PyData → Option Sl
  | .list ds => (bools ds).map fun bs => .val (.bool (bs.all fun b => b))
  | _ => none
def fAny : PyData → Option Sl
  | .list ds => (bools ds).map fun bs => .val (.bool (bs.any fun b => b))
  | _ => none
theorem r_all : RnD K (rAll K) (fn1 fAll) := rn_1 fun H own v d s Q c e q => by
  unfold fAll at e
  split at e
  · rw [Option.map_eq_some_iff] at e
    obtain ⟨bs, h1, rfl⟩ := e
    obtain ⟨a, xs, rfl, h2, h3⟩ := c.lst
    rw [bools_v h3 h1] at h2
    exact ⟨a, bs, rfl, h2, q _ _ .bl⟩
  · cases e
theorem r_any : RnD K (rAny K) (fn1 fAny) := rn_1 fun H own v d s Q c e q => by
  unfold fAny at e
  split at e
  · rw [Option.map_eq_some_iff] at e
    obtain ⟨bs, h1, rfl⟩ := e
    obtain ⟨a, xs, rfl, h2, h3⟩ := c.lst
    rw [bools_v h3 h1] at h2
    exact ⟨a, bs, rfl, h2, q _ _ .bl⟩
  · cases e
/-- sum, max, min, sorted of a list of ints -/
def intsD : List PyData → Option (List Int)
  | [] => some []
  | .int b :: ds => (intsD ds).map (b :: ·)
  | _ :: _ => none
theorem ints_v {H : Hp} {own : Addr → Prop} : ∀ {ds : List PyData} {bs : List Int} {xs : List V}, RpL K H own ds xs → intsD ds = some bs → xs = bs.map V.int
  | [], bs, xs, h, e => by simp [intsD] at e; subst e; simp only [RpL] at h; exact h
  | .int b :: ds, bs, xs, h, e => by
    simp only [intsD, Option.map_eq_some_iff] at e
    obtain ⟨cs, h1, rfl⟩ := e
    simp only [RpL] at h
    obtain ⟨x, r, rfl, h2, h3⟩ := h
    simp only [Rp] at h2
    subst h2
    rw [List.map_cons, ints_v h3 h1]
  | .none :: ds, bs, xs, h, e => by simp [intsD] at e
  | .bool _ :: ds, bs, xs, h, e => by simp [intsD] at e
  | .str _ :: ds, bs, xs, h, e => by simp [intsD] at e
  | .list _ :: ds, bs, xs, h, e => by simp [intsD] at e
  | .tuple _ :: ds, bs, xs, h, e => by simp [intsD] at e
  | .dict _ :: ds, bs, xs, h, e => by simp [intsD] at e
theorem ints_back (l : List Int) : intsD (l.map PyData.int) = some l := by
  induction l with
  | nil => rfl
  | cons a l ih => simp [intsD, ih]
theorem rp_ints {H : Hp} {own : Addr → Prop} : ∀ l : List Int, RpL K H own (l.map PyData.int) (l.map V.int)
  | [] => .nil
  | a :: l => .cons (by simp only [Rp]) (rp_ints l)
def fSum : PyData → Option Sl
  | .list ds => (intsD ds).map fun ns => .val (.int ns.sum)
  | _ => none
theorem r_sum : RnD K (rSum K) (fn1 fSum) := rn_1 fun H own v d s Q c e q => by
  unfold fSum at e
  split at e
  · rw [Option.map_eq_some_iff] at e
    obtain ⟨bs, h1, rfl⟩ := e
    obtain ⟨a, xs, rfl, h2, h3⟩ := c.lst
    rw [ints_v h3 h1] at h2
    exact ⟨a, bs, rfl, h2, q _ _ .int⟩
  · cases e
/-- isinstance(x, T), T a built-in type -/
def tyD : PyData → String
  | .none
        => "NoneType" | .bool _ => "bool" | .int _ => "int" | .str _ => "str" | .list _ => "list" | .tuple _ => "tuple" | .dict _ => "dict"
theorem ty_x {H : Hp} {own : Addr → Prop} {d : PyData} {v : V} (c : Rc K H own d v) : TyX K H v (.type (tyD d)) := by
  cases d with
  | none => rw [rcNon c]; exact .base .non
  | bool b => rw [rcBl c]; exact .base (.bl b)
  | int b => rw [rcInt c]; exact .base (.int b)
  | str b => rw [rcStr c]; exact .base (.str b)
  | list ds =>
    obtain ⟨a, xs, rfl, h1, _⟩ := c.lst
    rcases h1 with (h | ⟨o, h⟩) | ⟨o, its, n, h, hc, _⟩
    · exact .base (.lst h)
    · exact .base (.frz h)
    · exact .kList h hc
  | tuple ds =>
    obtain ⟨a, xs, rfl, h1, _⟩ := c.tup
    rcases h1 with (h | ⟨o, h⟩) | ⟨o, its, n, h, hc, _⟩
    · exact .base (.tup h)
    · exact .fTuple h
    · exact .kTuple h hc
  | dict ds =>
    have h' : Rp K H own (.dict ds) v := c
    simp only [Rp] at h'
    obtain ⟨a, kvs, rfl, (h | ⟨o, h⟩), _⟩ := h'
    · exact .base (.dK h)
    · exact .fDict h
def fIsi (T : String) : PyData → Option Sl := fun d => (kitB (tyD d) T).map fun b => .val (.bool b)
def rIsi1 (K : PySem.W.Frag) (T : String) : List V → Hp → VK → Prop := fun xs H Q => ∃ x, xs = [x] ∧ rIsi K [x, .ty T] H Q
theorem r_isi : RnD K (rIsi1 K T) (fn1 (fIsi T)) := rn_1 fun H own v d s Q c e q => by
  unfold fIsi at e
  rw [Option.map_eq_some_iff] at e
  obtain ⟨b, h1, rfl⟩ := e
  exact ⟨v, rfl, v, .ty T, .type (tyD d), .type T, b, rfl, .ty T, ty_x c, kit_ty h1, q _ _ .bl⟩
def tIsi (K : PySem.W.Frag) (T : String) (te : TE) : TE := fun σ H Q => te σ H fun v H1 => rIsi K [v, .ty T] H1 Q
def dIsi (T : String) (od : OD) : ED := fun env Q X => od env (fun o e => ∃ s, (cont e o).bind (fIsi T) = some s ∧ Q s e) X
theorem pd_isi {z : Str} {ps : Pos} (hg : Gl X "isinstance") (hm : X.mg "isinstance" = none) (ho : POd X W e te od) (hgz : Gl X z) (hmz : X.mg z = none) (hvz : bootBuiltins z = some (.type T)) (hn : z ≠ "__name__" := by decide) (hdb : (z == ("__debug__" : Str)) = false := by decide)
    (he : starEach [e, .Name z ps] X.env = (false, eval e X.env) :: starEach [.Name z ps] X.env := by rfl) (he2 : starEach [.Name z ps] X.env = (false, eval (.Name z ps) X.env) :: starEach [] X.env := by rfl)
    (hpl : (backTo pos (starEach [.Name z ps] X.env)).any (·.1) = false := by rfl) : PEd X W (.Call (.Name "isinstance" p) [e, .Name z ps] [] pos) (tIsi X.K T te) (dIsi T od) :=
  ⟨pe_callB call_isi hg hm (by decide +kernel) (pa_cons ho.pe (pa_cons (pe_bltn hgz hmz hvz (v := .ty T) rfl hn hdb) pa_nil he2) he) (by decide) (by decide) he hpl, fun x σ H env T' Q Qd Xd hk r hx hq h => by
    refine ho.sim x σ H env T' _ _ Xd hk r hx (fun v o H1 e1 r1 ok q => ?_) h
    obtain ⟨s, e2, q⟩ := q
    rw [Option.bind_eq_some_iff] at e2
    obtain ⟨d, e3, e4⟩ := e2
    have c := r1.rc (fun z hz => List.mem_append_left _ hz) ok e3
    rw [hk] at c
    unfold fIsi at e4
    rw [Option.map_eq_some_iff] at e4
    obtain ⟨b, h1, rfl⟩ := e4
    refine ⟨v, .ty T, .type (tyD d), .type T, b, rfl, .ty T, ty_x c, kit_ty h1, ?_⟩
    exact hq _ _ H1 e1 (r1.tail.bl b) q⟩
end
end PD
/-! Methods of texts; changes of lists; repr; calls with keywords alone. -/
namespace PD
open PySem L2 PySem.Spec PyProof.Rows
section
variable {X : Cx} {W : WX} {x y : Str} {pos p p2 apos cpos : Pos} {e a b c o : Expr} {es rest : List Expr} {te ta tb tc to : TE} {td da db : ED} {oa ob oc od : OD} {K : PySem.W.Frag} {f g : PyData → PyData → Option Sl} {rm : V → List V → Hp → VK → Prop} {id : String} {name : Str}
/-! ### methods of texts -/
def isStr : PyData → Bool
  | .str _ => true
  | _ => false
def dM1 (f : PyData → PyData → Option Sl) (oa ob : OD) : ED := fun env Q X => oa env (fun o1 e1 => ((cont e1 o1).any isStr = true) ∧ ob e1 (fun o2 e2 => ∃ s, ((cont e2 o1).bind fun d1 => (cont e2 o2).bind fun d2 => f d1 d2) = some s ∧ Q s e2) X) X
theorem str_any {H : Hp} {own : Addr → Prop} {d : PyData} {v : V} (c : Rc K H own d v) (h : isStr d = true) : ∃ a, v = .str a := by
  cases d with
  | str z => exact ⟨z, rcStr c⟩
  | _ => cases h
theorem any_get {o : Option PyData} (h : o.any isStr = true) : ∃ d, o = some d ∧ isStr d = true := by
  cases o with
  | none => cases h
  | some d => exact ⟨d, rfl, h⟩
theorem sim_m1 (hr : R2D K (fun x y H Q => rm x [y] H Q) f) (ha : SimO K W ta oa) (hb : SimO K W tb ob) : SimE K W (tM1 rm ta tb) (dM1 f oa ob) := fun x σ H env T Q Qd Xd hk rr hx hq h => by
  refine ha x σ H env T _ _ Xd hk rr hx (fun v1 o1 H1 e1 r1 ok1 q1 => ?_) h
  obtain ⟨h1, q1⟩ := q1
  obtain ⟨d0, e0, s0⟩ := any_get h1
  refine ⟨str_any (r1.rc (fun z hz => List.mem_append_left _ hz) ok1 e0) s0, ?_⟩
  refine hb x σ H1 e1 _ _ _ Xd hk r1 (hx.more (List.sublist_append_right _ _)) (fun v2 o2 H2 e2 r2 ok2 q2 => ?_) q1
  obtain ⟨s, e, q⟩ := q2
  obtain ⟨d1, d2, e1', e2', e3⟩ := bind2 e
  have c1 := r2.rc (fun z hz => List.mem_append_right _ (List.mem_append_left _ hz)) ok1 e1'
  have c2 := r2.rc (fun z hz => List.mem_append_left _ hz) ok2 e2'
  rw [hk] at c1 c2
  refine hr H2 _ v1 v2 d1 d2 s Q c1 c2 e3 fun v H3 o => ?_
  refine hq v _ H3 e2 ((r2.out (by rw [hk]; exact o)).drop ?_) q
  exact List.Sublist.cons_cons _ ((List.sublist_append_right _ _).trans (List.sublist_append_right _ _))
theorem pd_m1 (slot : Slot "str" name id) (ty : typeOf (.builtin id) = pure (.type "method_descriptor")) (rule : MtR X id rm) (hr : R2D X.K (fun x y H Q => rm x [y] H Q) f) (ho : POd X W o to oa) (he : POd X W e te ob)
    (hs : starEach [e] X.env = [(false, eval e X.env)] := by
          rfl) (hbase : attributeBase o name X.env (eval o X.env) = eval o X.env := by rfl) (hline : (apos.endLine == pos.line) = true := by rfl) :
    PEd X W (.Call (.Attribute o name apos) [e] [] pos) (tM1 rm to te) (dM1 f oa ob) := ⟨pe_m1 slot ty rule ho.pe he.pe hs hbase hline, sim_m1 hr ho.sim he.sim⟩
def fSplit : PyData → PyData → Option Sl
  | .str a, .str b => if b.length ≠ 0 ∧ a.length + 2 ≤ 16777216 then some (.own (.lst ((Txt.split a b).map .str))) else none
  | _, _ => none
theorem rp_strs {H : Hp} {own : Addr → Prop} : ∀ l : List Str, RpL K H own (l.map PyData.str) (l.map V.str)
  | [] => .nil
  | a :: l => .cons (by simp only [Rp]) (rp_strs l)
abbrev rSplit : V → List V → Hp → VK → Prop := fun x xs H Q => ∃ a b, x = .str a ∧ xs = [.str b] ∧ (b.length == 0) = false ∧ a.length + 2 ≤ sizeLine ∧ rNewStrs (Txt.split a b) H Q
theorem r_split : R2D K (fun x y H Q => rSplit x [y] H Q) fSplit := fun H own v1 v2 d1 d2 s Q c1 c2 e q => by
  unfold fSplit at e
  split at e
  · split at e
    · rename_i hc
      cases e
      refine ⟨_, _, rcStr c1, by rw [rcStr c2], by simpa using hc.1, by rw [sizeLine_eq]; exact hc.2, fun p hp => q _ _ (.lst hp (rp_strs _))⟩
    · cases e
  · cases e
def strsD : List PyData → Option (List Str)
  | [] => some []
  | .str b :: ds => (strsD ds).map (b :: ·)
  | _ :: _ => none
theorem strs_v {H : Hp} {own : Addr → Prop} : ∀ {ds : List PyData} {bs : List Str} {xs : List V}, RpL K H own ds xs → strsD ds = some bs → xs = bs.map V.str
  | [], bs, xs, h, e => by simp [strsD] at e; subst e; simp only [RpL] at h; exact h
  | .str b :: ds, bs, xs, h, e => by
    simp only [strsD, Option.map_eq_some_iff] at e
    obtain ⟨cs, h1, rfl⟩ := e
    simp only [RpL] at h
    obtain ⟨x, r, rfl, h2, h3⟩ := h
    simp only [Rp] at h2
    subst h2
    rw [List.map_cons, strs_v h3 h1]
  | .none :: ds, bs, xs, h, e => by simp [strsD] at e
  | .bool _ :: ds, bs, xs, h, e => by simp [strsD] at e
  | .int _ :: ds, bs, xs, h, e => by simp [strsD] at e
  | .list _ :: ds, bs, xs, h, e => by simp [strsD] at e
  | .tuple _ :: ds, bs, xs, h, e => by simp [strsD] at e
  | .dict _ :: ds, bs, xs, h, e => by simp [strsD] at e
theorem strs_back (l : List Str) : strsD (l.map PyData.str) = some l := by
  induction l with
  | nil => rfl
  | cons a l ih => simp [strsD, ih]
def fJoin : PyData → PyData → Option Sl
  | .str a, d => ((seqOf d).bind strsD).bind fun ys => if (ys.map (·.length)).sum + ys.length * a.length ≤ 16777216 then some (.val (.str (Txt.join a ys))) else none
  | _, _ => none
abbrev rJoin (K : PySem.W.Frag) : V → List V → Hp → VK → Prop := fun x xs H Q => ∃ a p, ∃ ys : List Str, x = .str a ∧ xs = [.ref p] ∧ (SqL K H p (ys.map V.str) ∨ SqT K H p (ys.map V.str)) ∧ (ys.map (·.length)).sum + ys.length * a.length ≤ 16777216 ∧ Q (.str (Txt.join a ys)) H
theorem r_join : R2D K (fun x y H Q => rJoin K x [y] H Q) fJoin := fun H own v1 v2 d1 d2 s Q c1 c2 e q => by
  unfold fJoin at e
  split at e
  · rw [Option.bind_eq_some_iff] at e
    obtain ⟨ys, e1, e2⟩ := e
    rw [Option.bind_eq_some_iff] at e1
    obtain ⟨ds, e3, e4⟩ := e1
    split at e2
    · rename_i hc
      cases e2
      obtain ⟨p, xs, rfl, h1, h2⟩ := c2.seq e3
      have := strs_v h2 e4
      subst this
      exact ⟨_, p, ys, rcStr c1, rfl, h1, hc, q _ _ .str⟩
    · cases e2
  · cases e
def fIndex : PyData → PyData → Option Sl
  | .str a, .str b => match Builtin.Str.occurrences a b 0 a.length 1 with
    | i :: _ => some (.val (.int (i : Nat)))
    | [] => none
  | _, _ => none
abbrev rIndexS : V → List V → Hp → VK → Prop := fun x xs H Q => ∃ a b i rest, x = .str a ∧ xs = [.str b] ∧ Builtin.Str.occurrences a b 0 a.length 1 = i :: rest ∧ Q (.int (i : Nat)) H
theorem r_index : R2D K (fun x y H Q => rIndexS x [y] H Q) fIndex := fun H own v1 v2 d1 d2 s Q c1 c2 e q => by
  unfold fIndex at e
  split at e
  · split at e
    · rename_i i rest ho
      cases e
      exact ⟨_, _, i, rest, rcStr c1, by rw [rcStr c2], ho, q _ _ .int⟩
    · cases e
  · cases e
theorem pd_split (ho : POd X W o to oa) (he : POd X W e te ob) (hs : starEach [e] X.env = [(false, eval e X.env)] := by rfl) (hbase : attributeBase o "split" X.env (eval o X.env) = eval o X.env := by rfl) (hline : (apos.endLine == pos.line) = true := by rfl) :
    PEd X W (.Call (.Attribute o "split" apos) [e] [] pos) (tM1 rSplit to te) (dM1 fSplit oa ob) := pd_m1 F.slot_str_split F.type_str_split mt_split r_split ho he hs hbase hline
theorem pd_join (ho : POd X W o to oa) (he : POd X W e te ob) (hs : starEach [e] X.env = [(false, eval e X.env)] := by rfl) (hbase : attributeBase o "join" X.env (eval o X.env) = eval o X.env := by rfl) (hline : (apos.endLine == pos.line) = true := by rfl) :
    PEd X W (.Call (.Attribute o "join" apos) [e] [] pos) (tM1 (rJoin X.K) to te) (dM1 fJoin oa ob) := pd_m1 F.slot_str_join F.type_str_join mt_join r_join ho he hs hbase hline
theorem pd_index (ho : POd X W o to oa) (he : POd X W e te ob) (hs : starEach [e] X.env = [(false, eval e X.env)] := by rfl) (hbase : attributeBase o "index" X.env (eval o X.env) = eval o X.env := by rfl) (hline : (apos.endLine == pos.line) = true := by rfl) :
    PEd X W (.Call (.Attribute o "index" apos) [e] [] pos) (tM1 rIndexS to te) (dM1 fIndex oa ob) := pd_m1 F.slot_str_index F.type_str_index mt_sindex r_index ho he hs hbase hline
/-! ### lists are changed -/
def slotL (env : Env) (i : Nat) : Option (List PyData) := match env[i]? with
  | some (.own (.lst ds)) => some ds
  | some (.io _ (.lst ds)) => some ds
  | _ => none
def setL (env : Env) (i : Nat) (ds : List PyData) : Env := match env[i]? with
  | some (.own _) => env.set i (.own (.lst ds))
  | some (.io j _) => env.set i (.io j (.lst ds))
  | _ => env
theorem RelS.slotL {x : Fx} {σ : L2.St} {H : Hp} {env : Env} {T : List Ent} {i : Nat} {ds : List PyData} (r : RelS x σ H env T) (h : slotL env i = some ds) :
    ∃ p xs, σ[i]? = some (some (.ref p)) ∧ H p = some (.lst xs) ∧ RpL x.K H (ownOf x (σ.zip env ++ T)) ds xs ∧
      ∀ (ds' : List PyData) (xs' : List V), RpL x.K H (ownOf x (σ.zip env ++ T)) ds' xs' → RelS x σ (upd H p (.lst xs')) (setL env i ds') T := by
  unfold PD.slotL at h
  split at h
  · rename_i ds0 e
    cases h
    obtain ⟨p, xs, e1, h1, h2⟩ := r.ownL (.inl e)
    refine ⟨p, xs, e1, h1, h2, fun ds' xs' h' => ?_⟩
    unfold setL
    rw [e]
    exact r.writeS e e1 (.inl ⟨rfl, rfl⟩) h'
  · rename_i j ds0 e
    cases h
    obtain ⟨p, xs, e1, h1, h2⟩ := r.ownL (.inr ⟨j, e⟩)
    refine ⟨p, xs, e1, h1, h2, fun ds' xs' h' => ?_⟩
    unfold setL
    rw [e]
    exact r.writeS e e1 (.inr ⟨j, rfl, rfl⟩) h'
  · cases h
/-- xs.append(e) -/
def dApp (i : Nat) (td : ED) : ED := fun env Q X => (slotL env i).isSome = true ∧ td env (fun s e => ∃ d ds, frz s = some d ∧ slotL e i = some ds ∧ ds.length < 16777216 ∧ Q (.val .none) (setL e i (ds ++ [d]))) X
theorem RelS.frz {x : Fx} {σ : L2.St} {H : Hp} {env : Env} {T : List Ent} {v : V} {s : Sl} {d : PyData} (r : RelS x σ H env ((some v, s) :: T)) (h : frz s = some d) : RelS x σ H env ((some v, .val d) :: T) := by
  cases s with
  | un => cases h
  | val d' => cases h; exact r
  | own m =>
    cases m with
    | lst ds => cases h; exact r.freezeT
  | io j m => cases h
theorem slotL_is {x : Fx} {σ : L2.St} {H : Hp} {env : Env} {T : List Ent} {i : Nat} (r : RelS x σ H env T) (h : (slotL env i).isSome = true) : ∃ p xs, σ[i]? = some (some (.ref p)) ∧ H p = some (.lst xs) := by
  obtain ⟨ds, e⟩ := Option.isSome_iff_exists.mp h
  obtain ⟨p, xs, e1, h1, _⟩ := r.slotL e
  exact ⟨p, xs, e1, h1⟩
theorem sim_app {i : Nat} (he : SimE K W te td) : SimE K W (tBM K "list" rAppend (tVar i) (tCons te tNil)) (dApp i td) := fun x σ H env T Q Qd Xd hk r hx hq h => by
  obtain ⟨h0, h⟩ := h
  obtain ⟨p, xs, e1, h1⟩ := slotL_is r h0
  refine ⟨.ref p, e1, .inl ⟨rfl, xs, .of h1⟩, ?_⟩
  refine he x σ H env T _ _ Xd hk r hx (fun v s H1 e2 r1 q => ?_) h
  obtain ⟨d, ds, f1, f2, f3, q⟩ := q
  have r2 := r1.frz f1
  obtain ⟨p', ys, e3, h3, h4, h5⟩ := r2.slotL f2
  rw [e1] at e3; cases e3
  have rv := r2.tmp (List.mem_cons_self ..)
  refine ⟨p, ys, v, rfl, rfl, h3, by rw [h4.len, sizeLine_eq]; exact f3, ?_⟩
  exact hq _ _ _ _ (RelS.push (h5 _ _ (h4.append (.cons rv .nil))).pop (by simp only [Rp])) q
theorem pd_append (i : Nat) (hN : X.N[i]? = some x := by rfl) (he : PEd X W e te td) (hv : Vis X.env.scope x := by first | exact Or.inl rfl | exact Or.inr (Or.inl rfl) | exact Or.inr (Or.inr rfl)) (hd : (x == ("__debug__" : Str)) = false := by decide)
    (hcd : (x == ("__classdict__" : Str)) = false := by decide)
    (hbase : attributeBase (.Name x p) "append" X.env (eval (.Name x p) X.env) = eval (.Name x p) X.env := by rfl)
    (hfew : ((backTo cpos (starEach [e] X.env)).all (fun x => !x.1) &&
          (backToKw cpos (keywordEach [] X.env)).all (fun x => x.1.isSome)
      && decide ([e].length + ([] : List Keyword).length + (if ([] : List Keyword).isEmpty then 0 else 1) < 30)) = true := by rfl)
    (hline : (apos.endLine == cpos.line) = true := by
          rfl) (hs : starEach [e] X.env = (false, eval e X.env) :: starEach [] X.env := by rfl) (hplain : (backTo cpos (starEach [] X.env)).any (·.1) = false := by rfl) :
    PEd X W (.Call (.Attribute (.Name x p) "append" apos) [e] [] cpos) (tBM X.K "list" rAppend (tVar i) (tCons te tNil)) (dApp i td) :=
  ⟨pe_bm PySem.F.plainAttrs_list PySem.F.slot_list_append PySem.F.type_list_append mt_append (pe_var hN hv hd hcd) (pa_cons he.pe pa_nil hs) hbase hfew hline hs hplain, sim_app he.sim⟩
/-- xs.extend(ys), ys a list -/
def dExt (i : Nat) (td : ED) : ED := fun env Q X => (slotL env i).isSome = true ∧ td env (fun s e => ∃ es ds, frz s = some (.list es) ∧ slotL e i = some ds ∧ ds.length + es.length ≤ 16777216 ∧ Q (.val .none) (setL e i (ds ++ es))) X
theorem sim_ext {i : Nat} (he : SimE K W te td) : SimE K W (tBM K "list" (rExtD K) (tVar i) (tCons te tNil)) (dExt i td) := fun x σ H env T Q Qd Xd hk r hx hq h => by
  obtain ⟨h0, h⟩ := h
  obtain ⟨p, xs, e1, h1⟩ := slotL_is r h0
  refine ⟨.ref p, e1, .inl ⟨rfl, xs, .of h1⟩, ?_⟩
  refine he x σ H env T _ _ Xd hk r hx (fun v s H1 e2 r1 q => ?_) h
  obtain ⟨d, ds, f1, f2, f3, q⟩ := q
  have r2 := r1.frz f1
  obtain ⟨p', ys, e3, h3, h4, h5⟩ := r2.slotL f2
  rw [e1] at e3; cases e3
  obtain ⟨b, zs, rfl, h6, h7⟩ := ((r2.tmp (List.mem_cons_self ..)).rc).lst
  rw [hk] at h6
  refine ⟨p, b, ys, zs, rfl, rfl, h3, h6, by rw [h4.len, h7.len, sizeLine_eq]; exact f3, ?_⟩
  exact hq _ _ _ _ (RelS.push (h5 _ _ (h4.append h7)).pop (by simp only [Rp])) q
theorem pd_extend (i : Nat) (hN : X.N[i]? = some x := by rfl) (he : PEd X W e te td) (hv : Vis X.env.scope x := by first | exact Or.inl rfl | exact Or.inr (Or.inl rfl) | exact Or.inr (Or.inr rfl)) (hd : (x == ("__debug__" : Str)) = false := by decide)
    (hcd : (x == ("__classdict__" : Str)) = false := by decide)
    (hbase : attributeBase (.Name x p) "extend" X.env (eval (.Name x p) X.env) = eval (.Name x p) X.env := by rfl)
    (hfew : ((backTo cpos (starEach [e] X.env)).all (fun x => !x.1) &&
          (backToKw cpos (keywordEach [] X.env)).all (fun x => x.1.isSome)
      && decide ([e].length + ([] : List Keyword).length + (if ([] : List Keyword).isEmpty then 0 else 1) < 30)) = true := by rfl)
    (hline : (apos.endLine == cpos.line) = true := by
          rfl) (hs : starEach [e] X.env = (false, eval e X.env) :: starEach [] X.env := by rfl) (hplain : (backTo cpos (starEach [] X.env)).any (·.1) = false := by rfl) :
    PEd X W (.Call (.Attribute (.Name x p) "extend" apos) [e] [] cpos) (tBM X.K "list" (rExtD X.K) (tVar i) (tCons te tNil)) (dExt i td) :=
  ⟨pe_bm PySem.F.plainAttrs_list PySem.F.slot_list_extend PySem.F.type_list_extend mt_extD (pe_var hN hv hd hcd) (pa_cons he.pe pa_nil hs) hbase hfew hline hs hplain, sim_ext he.sim⟩
/-- xs[k] = .., xs in slot i -/
def gSet (i : Nat) (oi : OD) : GD := fun s env Q X => ∃ d, frz s = some d ∧ (slotL env i).isSome = true ∧ oi env (fun o e => ∃ k ds j, cont e o = some (.int k) ∧ slotL e i = some ds ∧ ixN ds.length k = some j ∧ Q (setL e i (ds.set j d))) X
theorem sim_gSet {i : Nat} (hi : SimO K W ta oa) : SimG K W (gSub (tVar i) ta rSetL) (gSet i oa) := fun x σ H env T v s Q Qd Xd hk r hx hq h => by
  obtain ⟨d, f1, h0, h⟩ := h
  have r0 := r.frz f1
  obtain ⟨p, xs, e1, h1⟩ := slotL_is r0 h0
  refine ⟨.ref p, e1, ?_⟩
  refine hi x σ H env _ _ _ Xd hk r0 hx.cons (fun w o H1 e2 r1 ok q => ?_) h
  obtain ⟨k, ds, j, f2, f3, f4, q⟩ := q
  have ei := rcInt (r1.rc (fun z hz => List.mem_append_left _ hz) ok f2)
  subst ei
  obtain ⟨p', ys, e3, h3, h4, h5⟩ := r1.slotL f3
  rw [e1] at e3; cases e3
  have rv := r1.tmp (v := v) (d := d) (List.mem_append_right _ (List.mem_cons_self ..))
  refine ⟨p, ys, k, j, rfl, rfl, h3, by rw [h4.len]; exact f4, ?_⟩
  exact hq σ _ _ ((h5 _ _ (h4.set j rv)).drop ((List.sublist_cons_self _ _).trans (List.sublist_append_right _ _))) q
theorem pgd_sub (i : Nat) {k : Expr} (hN : X.N[i]? = some x := by rfl) (hi : POd X W k ta oa) (hv : Vis X.env.scope x := by first | exact Or.inl rfl | exact Or.inr (Or.inl rfl) | exact Or.inr (Or.inr rfl)) (hd : (x == ("__debug__" : Str)) = false := by decide)
    (hcd : (x == ("__classdict__" : Str)) = false := by decide)
    (ha : ∀ v, assign (.Subscript (.Name x p) k pos) X.env v = (do
      let ov ← holding [v] (eval (.Name x p) X.env)
      let iv ← holding [v, ov] (eval k X.env)
      standAt pos
      holding [v, ov,
            iv] (setItem ov iv v)
      release [v, ov, iv] []) := by intro _; rfl) : PGd X W (.Subscript (.Name x p) k pos) (gSub (tVar i) ta rSetL) (gSet i oa) := ⟨pg_sub (pe_var hN hv hd hcd) hi.pe set_list ha, sim_gSet hi.sim⟩
/-! ### repr of a list or a tuple -/
def fRepr : PyData → Option Sl := fun d => if (seqOf d).isSome = true ∧ d.showable = true ∧ d.hasDict = false ∧ d.depth ≤ 60 ∧ d.shown.length ≤ 16777216 then some (.val (.str d.shown)) else none
def rReprD (K : PySem.W.Frag) : List V → Hp → VK → Prop := fun xs H Q => ∃ p d, xs = [.ref p] ∧ Dp K H (.ref p) d ∧ d.showable = true ∧ d.hasDict = false ∧ d.depth ≤ 60 ∧ d.shown.length ≤ 16777216 ∧ Q (.str d.shown) H
theorem c_repr {k : Nat} {X : Cx} (hr : Room k X.A) (hg : X.A.guards = some []) : CallR X (.builtin "repr") (rReprD X.K) := fun pins s σ H xs us Q I r h => by
  obtain ⟨p, d, rfl, hd, h1, h2, h3, h4, q⟩ := h
  obtain ⟨u, rfl,
        ru⟩ := vals1 r
  cases ru
  obtain ⟨as, rd⟩ := Dp.reads I d _ _ hd rfl
  have hu := hr.units
  refine repr_of_reads' rd h1 (PyData.noDict_hsm h2) hg (by omega) (fun _ _ e => e) (fun h' u tk hk => ?_) (by rw [sizeLine_eq]; exact h4)
  exact ⟨.str d.shown, H, I.kept (t' := tk) hk, ⟨u, rfl⟩, q⟩
theorem r_repr : RnD K (rReprD K) (fn1 fRepr) := rn_1 fun H own v d s Q c e q => by
  unfold fRepr at e
  split at e
  · rename_i hc
    cases e
    obtain ⟨ds, hs⟩ := Option.isSome_iff_exists.mp hc.1
    obtain ⟨p, xs, rfl, _, _⟩ := c.seq hs
    exact ⟨p, d, rfl, c.dp hc.2.2.1, hc.2.1, hc.2.2.1, hc.2.2.2.1, hc.2.2.2.2, q _ _ .str⟩
  · cases e
/-! ### f(k = v, ..), the keywords in the parameters' order turned round -/
structure PKd (X : Cx) (W : WX) (ks : List Keyword) (t : TA) (ad : AD) : Prop where
  pk : PK X ks t
  sim : SimA X.K W t ad
theorem pkd_nil : PKd X W [] tNil aNil := ⟨pk_nil, (pad_nil (X := X)).sim⟩
theorem pkd_cons {ks : List Keyword} {nm : Option Str} {kpos : Pos} {t : TA} {ad : AD} (ha : POd X W e te oa) (hr : PKd X W ks t ad) : PKd X W (⟨nm, e, kpos⟩ :: ks) (tCons te t) (aCons oa ad) :=
  ⟨pk_cons ha.pe hr.pk, fun x σ H env T Q Qd Xd hk r hx hq h => by
    refine ha.sim x σ H env T _ _ Xd hk r hx (fun v o H' env' r' ok q => ?_) h
    refine hr.sim x σ H' env' _ _ _ Xd hk r' (hx.more (List.sublist_append_right _ _)) (fun vs os H2 e2 r2 ok2 q2 => ?_) q
    refine hq (v :: vs) (o :: os) H2 e2 (r2.permT ?_) ⟨ok, ok2⟩ q2
    show (tOp1 v o ++ tOps vs os ++ T).Perm (tOps vs os ++ (tOp1 v o ++ T))
    rw [← List.append_assoc]
    exact List.Perm.append_right _ List.perm_append_comm⟩
theorem okOps_app {σ : L2.St} : ∀ {vs : List V} {os : List Opn} {v : V} {o : Opn}, okOps σ vs os → okOp σ v o → okOps σ (vs ++ [v]) (os ++ [o])
  | [], [], v, o, _, h => ⟨h, trivial⟩
  | v :: vs, o :: os, v', o', h, h' => ⟨h.1, okOps_app h.2 h'⟩
  | [], o :: os, _, _, h, _ => by simp [okOps] at h
  | v :: vs, [], _, _, h, _ => by simp [okOps] at h
theorem tOps_app : ∀ {vs : List V} {os : List Opn} {v : V} {o : Opn}, vs.length = os.length → tOps (vs ++ [v]) (os ++ [o]) = tOps vs os ++ tOp1 v o
  | [], [], v, o, _ => by simp [tOps]
  | v :: vs, o :: os, v', o', h => by
    simp only [List.cons_append, tOps, List.append_assoc]
    rw [tOps_app (by simpa using h)]
  | [], o :: os, _, _, h => by simp at h
  | v :: vs, [], _, _, h => by simp at h
theorem okOps_rev {σ : L2.St} : ∀ {vs : List V} {os : List Opn}, okOps σ vs os → okOps σ vs.reverse os.reverse
  | [], [], _ => trivial
  | v :: vs, o :: os, h => by
    rw [List.reverse_cons,
          List.reverse_cons]
    exact okOps_app (okOps_rev h.2) h.1
  | [], o :: os, h => by simp [okOps] at h
  | v :: vs, [], h => by simp [okOps] at h
theorem tOps_rev {σ : L2.St} : ∀ {vs : List V} {os : List Opn}, okOps σ vs os → (tOps vs.reverse os.reverse).Perm (tOps vs os)
  | [], [], _ => by simp [tOps]
  | v :: vs, o :: os, h => by
    rw [List.reverse_cons, List.reverse_cons, tOps_app (by simpa using okOps_len h.2)]
    show (tOps vs.reverse os.reverse ++ tOp1 v o).Perm (tOp1 v o ++ tOps vs os)
    exact List.perm_append_comm.trans (List.Perm.append_left _ (tOps_rev h.2))
  | [], o :: os, h => by simp [okOps] at h
  | v :: vs, [], h => by simp [okOps] at h
def tCallR (sp : Sp) (E : L2.St → XK) (t : TA) : TE := fun σ H Q => t σ H fun vs H1 => sp vs.reverse H1 Q (E σ)
def aRev (ad : AD) : AD := fun env Q X => ad env (fun os e => Q os.reverse e) X
theorem sim_rev {t : TA} {ad : AD} (h : SimA K W t ad) : SimA K W (fun σ H Q => t σ H fun vs H1 => Q vs.reverse H1) (aRev ad) := fun x σ H env T Q Qd Xd hk r hx hq hh =>
  h x σ H env T _ _ Xd hk r hx (fun vs os H1 e1 r1 ok q => hq _ _ H1 e1 (r1.permT ((tOps_rev ok).append_right T)) (okOps_rev ok) q) hh
/-- how the keywords (names ks, the parameters turned round) bind -/
structure RBinds (K : PySem.W.Frag) (fd : FuncData) (ps ks : List Str) : Prop where
  to : ∀ (s : Shared) (ws : List Value), K.In s.heap → ws.length = ps.length → BindsTo s fd ⟨[], ks.zip ws⟩ (ps.zip ws.reverse)
theorem vals_rev {vs : List V} {us : List Value} (h : Vals vs us) : Vals vs.reverse us.reverse := by
  induction h with
  | nil => exact .nil
  | cons r t ih =>
    rw [List.reverse_cons,
          List.reverse_cons]
    exact ih.append (.cons r .nil)
theorem pd_callR {k : Nat} {fa : Addr} {fd : FuncData} {ps ks : List Str} {sp : SpD} {kws : List Keyword} {t : TA} {ad : AD} (F : FnG X.prog X.w X.K X.mg X.base k fa fd ps (SpOf X.K sp)) (hr : Room k X.A) (hgd : X.A.guards = some []) (hg : Gl X x) (hm : X.mg x = some (.ref fa)) (hk : PySem.W.keepIn X.K (.ref fa) = true)
    (hb : RBinds X.K fd ps ks) (tk : Takes X W) (ha : PKd X W kws t ad) (hall : (backToKw pos (keywordEach kws X.env)).all (·.1.isSome) = true := by rfl) (hks : (backToKw pos (keywordEach kws X.env)).filterMap (·.1) = ks := by rfl)
    (hdb : (x == ("__debug__" : Str)) = false := by decide) (hpl : ((backTo pos (starEach [] X.env)).any (·.1) || (backToKw pos (keywordEach kws X.env)).any (·.1.isNone)) = false := by rfl) :
    PEd X W (.Call (.Name x p) [] kws pos) (tCallG (SpOf X.K sp) [] (WE W) (fun σ H Q => t σ H fun vs H1 => Q vs.reverse H1)) (dCall sp (aRev ad)) := by
  refine ⟨⟨fun pins s σ H Q I h => wpAny_Call_Name_kw (ld_glob I hg hm ?_ hdb)⟩, sim_call (sim_rev ha.sim)⟩
  refine PySem.W.callWith_KW0 (h₀ := X.base) I.ok.mod.kin hk hall ?_ hpl
  refine thn (ha.pk.run pos pins s σ H _ I h) fun ws s2 ⟨zs, H2, I2, rz, q2⟩ => ⟨I2.kIn, ?_⟩
  rw [hks]
  have q3 : SpOf X.K sp zs.reverse H2 Q (WE W σ) := by
    have q4 : SpOf X.K sp (zs.reverse ++ []) H2 Q (WE W σ) := q2
    rwa [List.append_nil] at q4
  have r2 := vals_rev rz
  have hl : ws.length = ps.length := by
    have := F.len _ _ _ _ q3
    have := rz.length
    simp at *
    omega
  refine wpAny_call (codeAny_mono (F.run X.A X.stack s2 H2 ⟨[], ks.zip ws⟩ ws.reverse zs.reverse Q (WE W σ) hr hgd I2.env0 (hb.to s2 ws I2.kIn hl) r2 q3) ?_)
  rintro (e | fl) s' hq
  · exact passAt tk σ pins H2 s2 e s' I2 hq
  · cases fl with
    | ret u => exact I2.after hq
    | _ => exact False.elim hq
/-! ### {'k': n} -/
def dDict1 (k : Str) (n : Int) : ED := fun env Q _ => Q (.val (.dict [(.str k, .int n)])) env
theorem pd_dict1 {k : Str} {n : Int} {j j' : Nat} {p1 p2 : Pos} : PEd X W (.Dict [some (.Constant (.str k) j p1)] [.Constant (.int n) j' p2] pos) (tDisp [(tC (.str k), tC (.int n))]) (dDict1 k n) :=
  ⟨pe_disp (pps_cons pe_str pe_int pps_nil) rfl rfl (by simp) (by simp), fun x σ H env T Q Qd Xd hk r hx hq h => by
    intro q hqn
    refine ⟨upd_same, [(Sum.inr k, V.int n)], rfl, by simp, ?_⟩
    have e : upd (upd H q (.dK [])) q (.dK (mergeK [] [(Sum.inr k, V.int n)])) = upd H q (.dK (mergeK [] [(Sum.inr k, V.int n)])) := by
      funext b
      by_cases hb : b = q
      · subst hb; rw [upd_same, upd_same]
      · rw [upd_ne hb, upd_ne hb, upd_ne hb]
    rw [e]
    have r1 := r.new (o := .dK (mergeK [] [(Sum.inr k, V.int n)])) hqn
    refine hq _ _ _ env (r1.push ?_) h
    simp only [Rp]
    refine ⟨q, _, rfl, .of upd_same, fun z => ?_⟩
    obtain ⟨ob, ho⟩ := r.rel.there z
    rw [hqn] at ho; cases ho⟩
end
end PD
/-! An own error with one field: raised, caught, told. -/
namespace PySem
namespace LowX
open PySem.W PySem.Calls PyProof.Rows PySem.HandSPX
/-! ### the text of __init__ -/
def iA (p1 p2 : Pos) : Arguments := { posonlyargs := [], args := [{ arg := "self", annotation := none, pos := p1 }, { arg := "position", annotation := none, pos := p2 }], vararg := none, kwonlyargs := [], kw_defaults := [], kwarg := none, defaults := [] }
def iB (q1 q2 q3 q4 : Pos) : List Stmt := [.Assign [.Attribute (.Name "self" q1) "position" q2] (.Name "position" q3) q4]
def iS : Scope := { kind := .function, names := [(PySem.Str.ofString "self", .local), (PySem.Str.ofString "position", .local)], isGenerator := false, isCoroutine := false, more := [] }
/-- what the written part says of Low, at C, and of its __init__, at fI -/
structure LowTxt (K : Frag) (mg : Str → Option Value) (C fI : Addr) : Prop where
  gC : mg "BadText" = some (.ref C)
  cls : ∃ nm q N bs bm sn sub ab col dd k0 k1 k2 k3 k5, K.lookup C = some (excClassObj nm q C N bs bm true sn sub ab col dd k0 k1 k2 k3 k5 "ValueError.__new__") ∧ refsVE bm = true
  sa : findIn K (.ref C) "__setattr__" = some (some (.builtin "object.__setattr__"))
  ga : findIn K (.ref C) "__getattribute__" = some (some (.builtin "BaseException.__getattribute__"))
  gg : findIn K (.ref C) "__getattr__" = some none
  noN : findIn K (.ref C) "position" = some none
  iC : findIn K (.ref C) "__init__" = some (some (.ref fI))
  tC : typeIn K (.ref fI) = some (.type "function")
  kC : keepIn K (.ref C) = true
  exC : subIn K (.ref C) (.type "BaseException") = some true
  tyC : typeIn K (.ref C) = some (.type "type")
  hdC : hasDictIn K C = true
  te : exmOne K (.ref C) (.ref C) = some true
  fn : ∃ (oc : Value) (od : Option Addr) (doc pm : Value) (an : Option Addr) (cdv ct : Value) (osl : Array (Option Value)) (p1 p2 q1 q2 q3 q4 : Pos),
    K.lookup fI = some ⟨oc, od, .func (fnOf "__init__" "BadText.__init__" (iA p1 p2) (iB q1 q2 q3 q4) iS .none .none doc pm an cdv ct), osl⟩ ∧ codeIn K cdv "BadText.__init__" = true
theorem one_size (v : Value) : [v].length ≤ sizeLine := by
  rw [sizeLine_eq]
  exact (by decide : 1 ≤ 16777216)
theorem kept_but {K : Frag} {h h' : Heap} {x : Addr} (X : K.In h) (hx : K.lookup x = none) (k : ∀ b o, b ≠ x → h.get? b = some o → h'.get? b = some o) : K.In h' := fun a o e =>
  k a o (fun z => by rw [z, hx] at e; cases e) (X a o e)
theorem ldC {M : Model} {s : Shared} {name : Str} {scope : Scope} {L a : Addr} {cd : Value} {m : Str → Option Value} {x : Str} {pos : Pos} {v : Value} {Q : Value → Shared → Prop} {A : Around} {E : Value → Shared → Prop} (hn : s.heap.Ns L m) (hv : m x = some v) (h : Q v s)
    (hk : scope.kind = .function := by rfl) (hl : (envOfC name scope L a cd).kindOf x = some .local := by rfl) (hd : (x == ("__debug__" : Str)) = false := by decide) :
    wpAny M A (eval (.Name x pos) (envOfC name scope L a cd)) Q E s := wpAny_Name (wpAny_loadName_local hk hl hn hv h) hd
/-- what __init__ leaves of a fresh exception at x -/
structure InitEnd (h h' : Heap) (x C dx t1 : Addr) (v : Value) : Prop where
  keep : ∀ b o, b ≠ x → h.get? b = some o → h'.get? b = some o
  obj : h'.get? x = some { cls := .ref C, dict := some dx, data := .fields #[.ref t1, .none, .none, .none, .bool false, .none] }
  dbig : h.objs.size ≤ dx
  dne : dx ≠ x
  ns : h'.Ns1 dx (fun y => if y = "position" then some v else none)
/-- a made Low -/
structure OwnMade (h h' : Heap) (e C d : Addr) (v : Value) : Prop where
  keep : ∀ b o, h.get? b = some o → h'.get? b = some o
  new : h.objs.size ≤ e
  obj : ∃ oe vs, h'.get? e = some oe ∧ oe.cls = .ref C ∧ oe.dict = some d ∧ oe.data = .fields vs ∧ vs[1]? = some .none
  dbig : h.objs.size ≤ d
  dne : d ≠ e
  ns : h'.Ns1 d (fun y => if y = "position" then some v else none)
section
variable {prog : Program} {w : World} {A : Around} {E : Value → Shared → Prop} {R : Result → Shared → Prop} {s : Shared} {K : Frag} {mg : Str → Option Value} {C fI : Addr}
theorem low_init (T : LowTxt K mg C fI) {x t0 : Addr} {v : Value} (X : K.In s.heap) (hlim : s.heap.NoLimit) (hx : s.heap.get? x = some (excO C t0)) (hnx : K.lookup x = none) (hroom : A.depth < recursionLimit)
    (hq : ∀ h' tk dx, InitEnd s.heap h' x C dx t0 v → R (.ok (.ret .none)) { s with heap := h', toks := tk }) :
    codeAny (model prog w) A (.call (.ref fI) ⟨[.ref x, v], []⟩) R s := by
  obtain ⟨oc, od, doc, pm, an, cdv, ct, osl, p1, p2, q1, q2, q3, q4, ho, hcd⟩ := T.fn
  obtain ⟨nm, q, N, bs, bm, sn, sub, ab, col, dd, k0, k1, k2, k3, k5, hC, hbm⟩ := T.cls
  have hcl : clsIn K C = some { name := nm, bases := bs, mro := .ref C :: bm, ns := N, qualname := q, hasDict := true, slotNames := sn, subclasses := sub, abstract := ab, collection := col, hasDel := false } := by unfold clsIn; rw [hC] <;> rfl
  refine Att.call_fn (binds := [("self", .ref x), ("position", v)]) X hlim ho hcd hroom (BindsTo.of_eq (by first | rfl | with_unfolding_all rfl)) (by first | rfl | decide | with_unfolding_all rfl) (fun s₁ IC => ?_) rfl rfl rfl
  obtain ⟨h₁, tk₁, rfl⟩ := IC.toInCall.same
  have k : ∀ b o, s.heap.get? b = some o → h₁.get? b = some o := IC.toInCall.keep
  have hn := IC.toInCall.ns
  have hxL : s.heap.objs.size ≠ x := Nat.ne_of_gt (Heap.lt_size hx)
  have X₁ : K.In h₁ := X.keeps k
  have hx₁ := k _ _ hx
  -- self.by = by
  show wpAny _ _ (execs _ _) _ _ _
  refine wpAny_execs_cons (plainObj_wpAny_Assign_Attribute ?_)
  refine ldC (v := v) hn (by first | rfl | with_unfolding_all rfl | kernel_rfl) (ldC (v := .ref x) hn (by first | rfl | with_unfolding_all rfl | kernel_rfl) ?_)
  refine set_plain X₁ (ox := excO C t0) (od := none) ⟨hx₁, rfl, rfl, trivial⟩ T.sa ?_
  refine exc_osa X₁ hx₁ hcl (show refsVE (.ref C :: bm) = true from hbm) rfl T.noN (fun h₃ tk₃ dx k₃ dn dne hx₃ hn₃ => ?_)
  show wpAny _ _ (execs _ _) _ _ _
  have z : s.heap.objs.size < h₁.objs.size := hn.lt
  exact wpAny_execs_nil (hq h₃ tk₃ dx ⟨fun b o hb e => k₃ b o hb (k b o e), hx₃, Nat.le_of_lt (Nat.lt_of_lt_of_le z dn), dne, hn₃⟩)
theorem low_made (T : LowTxt K mg C fI) {v : Value} (X : K.In s.heap) (hlim : s.heap.NoLimit) (hroom : A.depth + 1 < recursionLimit)
    (hq : ∀ h' tk e d, OwnMade s.heap h' e C d v → R (.ok (.ret (.ref e))) { s with heap := h', toks := tk }) :
    codeAny (model prog w) A (.call (.ref C) ⟨[v], []⟩) R s := by
  obtain ⟨nm, q, N, bs, bm, sn, sub, ab, col, dd, k0, k1, k2, k3, k5, hC, hbm⟩ := T.cls
  obtain ⟨hp, g, dr, tk, os⟩ := s
  have k : ∀ b o, hp.get? b = some o → ((hp.push (kdv_tup [v])).push (excO C hp.objs.size)).get? b = some o := fun b o e => Heap.get?_push_of_some _ (Heap.get?_push_of_some _ e)
  have hget : ((hp.push (kdv_tup [v])).push (excO C hp.objs.size)).get? (hp.objs.size + 1) = some (excO C hp.objs.size) := by heap_get
  have hnx : K.lookup (hp.objs.size + 1) = none := by
    cases e : K.lookup (hp.objs.size + 1) with
    | none => rfl
    | some o =>
      have z : hp.get? (hp.objs.size + 1) = some o := X _ _ e
      exact absurd (Nat.lt_of_succ_lt (Heap.lt_size z)) (Nat.lt_irrefl _)
  refine call_own F.excBase_ValueError (fun X => refsVE_contains X bm hbm) (X _ _ hC) (looks_findIn X T.iC) (fun self => bind_fn X self T.tC) (one_size v) ?_
  refine low_init (s := ⟨(hp.push (kdv_tup [v])).push (excO C hp.objs.size), g, dr, tk, os⟩) T (X.keeps k) (hlim.keeps k) hget hnx ?_ fun h' tk' dx ⟨k', hx, dn, dne, hns⟩ => ?_
  · show A.depth + 1 < recursionLimit
    exact hroom
  · have old : ∀ b o, hp.get? b = some o → h'.get? b = some o := fun b o e => k' b o (Nat.ne_of_lt (Nat.lt_succ_of_lt (Heap.lt_size e))) (k b o e)
    have z : hp.objs.size + 1 + 1 ≤ dx := by
      first
        | (simpa only [Heap.size_push] using dn)
        | exact dn
        | (have q := dn; rw [Heap.size_push, Heap.size_push] at q; exact q)
    exact ⟨rfl, hq h' tk' (hp.objs.size + 1) dx ⟨old, Nat.le_succ _, ⟨_, _, hx, rfl, rfl, rfl, rfl⟩, Nat.le_trans (Nat.le_trans (Nat.le_succ _) (Nat.le_succ _)) z, dne, hns⟩⟩
end
end LowX
end PySem
namespace L2
open PySem PySem.Spec PyProof.Rows
theorem relO_low {v : V} {v' : Value} (r : RelV v v') (f : Str) : RelO (List.lookup f [(("position" : Str), v)]) (if f = "position" then some v' else none) := by
  by_cases hw : f = "position"
  · subst hw
    rw [if_pos rfl]
    have q : List.lookup ("position" : Str) [(("position" : Str), v)] = some v := by simp [List.lookup]
    rw [q]
    exact r
  · rw [if_neg hw]
    have qw : (f == ("position" : Str)) = false := by simpa using hw
    have q2 : List.lookup f [(("position" : Str), v)] = none := by simp [List.lookup, qw]
    rw [q2]
    trivial
section
variable {X : Cx} {C fI : Addr}
/-- Low(e) -/
def tMkLow (C : Addr) (ta : TA) : St → Hp → XK → Prop := fun σ H Q => ta σ H fun vs H1 => ∃ v, vs = [v] ∧ ∀ d, H1 d = none → Q (.ref C) (some d) (upd H1 d (.xd [(("position" : Str), v)]))
theorem pmk_low {a : Expr} {ta : TA} {p pos : Pos} {k : Nat} (T : PySem.LowX.LowTxt X.K X.mg C fI) (hr : Room k X.A) (ha : PA X [a] ta) (hg : Gl X "BadText" := by rfl)
    (he : starEach (a :: []) X.env = (false, eval a X.env) :: starEach [] X.env := by rfl) (hpl : (backTo pos (starEach [] X.env)).any (·.1) = false := by rfl) :
    PMk X (.Call (.Name "BadText" p) [a] [] pos) (tMkLow C ta) := by
  intro pins s σ H Q I h
  refine wpAny_Call_Name_kw (ld_glob I hg T.gC ?_)
  refine PySem.W.callWith_K (h₀ := X.base) I.ok.mod.kin T.kC (thn (ha.run pos pins s σ H _ I h) fun us s1 hh => ?_) he hpl
  obtain ⟨vs, H1, I1, r1, v, ev, q1⟩ := hh
  subst ev
  refine ⟨I1.kIn, ?_⟩
  cases r1 with
  | cons rv rn =>
    rename_i v' us'
    cases rn
    show wpAny _ _ (call (.ref C) [v']) _ _ _
    have hlim := I1.nolimit
    obtain ⟨hp, g, dr, tk, os⟩ := s1
    refine wpAny_call (PySem.LowX.low_made T I1.kIn hlim (by have := hr.dp; omega) fun h' tk' e d M => ?_)
    show MkP X pins σ Q (.ref e) ⟨h', g, dr, tk', os⟩
    obtain ⟨oe, fv, hoe, hc, hd, hdat, h1⟩ := M.obj
    have hns := M.ns
    obtain ⟨G', g1, g2⟩ := restrict h' fun b => decide (b ≠ e)
    have gk : ∀ b, b ≠ e → G'.get? b = h'.get? b := fun b hb => g1 b (decide_eq_true hb)
    have ge : G'.get? e = none := g2 e (by simp)
    have old : ∀ b o, hp.get? b = some o → G'.get? b = some o := fun b o q => (gk b (Nat.ne_of_lt (Nat.lt_of_lt_of_le (Heap.lt_size q) M.new))).trans (M.keep b o q)
    have ob : ObjOk X.prog X.w (upd H1 d (.xd [(("position" : Str), v)])) G' d (.xd [(("position" : Str), v)]) :=
      ⟨_, hns.at (fun o q => (gk d M.dne).trans q), fun f => relO_low rv f⟩
    have J : Inv X pins σ (upd H1 d (.xd [(("position" : Str), v)])) ⟨G', g, dr, tk', os⟩ := I1.laid (t' := tk') old M.dbig ob
    refine ⟨e, oe, fv, ⟨G', g, dr, tk', os⟩, _, .ref C, some d, rfl, J, fun b o q => ?_, ge, hoe, ⟨hc, hd⟩, hdat, h1, ?_, rfl, I1.bare, raises_own T.exC T.tyC, q1 d (I1.hok.fresh M.dbig)⟩
    · by_cases hb : b = e
      · have q' : G'.get? b = some o := q
        rw [hb, ge] at q'; cases q'
      · exact (gk b hb).symm.trans q
    · rw [upd_ne (Ne.symm M.dne)]
      exact I1.hok.fresh M.new
/-- raise Low(e) -/
def tRaiseLow (C : Addr) (W : WX) (ta : TA) : TS := fun _ σ H => tMkLow C ta σ H fun cls d H' => W cls d σ H'
theorem ps_raiseLow {a : Expr} {ta : TA} {W : WX} {p pos pos2 : Pos} {k : Nat} (hc : X.calm = true) (T : PySem.LowX.LowTxt X.K X.mg C fI) (hr : Room k X.A) (tk : Takes X W) (ha : PA X [a] ta) (hg : Gl X "BadText" := by rfl)
    (he : starEach (a :: []) X.env = (false, eval a X.env) :: starEach [] X.env := by rfl) (hpl : (backTo pos (starEach [] X.env)).any (·.1) = false := by rfl) :
    PS X (.Raise (some (.Call (.Name "BadText" p) [a] [] pos)) none pos2) (tRaiseLow C W ta) := ps_raise hc tk (pmk_low T hr ha hg he hpl)
/-- low.by, low the exception that the suite holds (at a; its class cls, its dict d) -/
def tByLow (C : Addr) (a : Addr) (cls : Value) (d : Option Addr) (te : TE) : TE := fun σ H Q => te σ H fun x H1 => x = .ref a ∧ cls = .ref C ∧ ∃ (dd : Addr) (v : V), d = some dd ∧ H1 dd = some (.xd [(("position" : Str), v)]) ∧ Q v H1
theorem pe_byLow {a : Addr} {oe : Obj} {cls : Value} {d : Option Addr} {pn : List (Addr × Obj)} {e : Expr} {te : TE} {pos : Pos} (T : PySem.LowX.LowTxt X.K X.mg C fI) (hz : Zc cls d oe) (hf : ∃ vs, oe.data = .fields vs) (he : PE (X.suite a ((a, oe) :: pn)) e te)
    (hb : attributeBase e "position" X.env (eval e X.env) = eval e X.env := by rfl) :
    PE (X.suite a ((a, oe) :: pn)) (.Attribute e "position" pos) (tByLow C a cls d te) := by
  refine ⟨fun pins s σ H Q I h => ?_⟩
  refine attr_of hb (thn (he.run pins s σ H _ I h) fun u s1 hh => ?_)
  obtain ⟨x, H1, I1, rx, ex, ec, dd, v, ed, ea, q⟩ := hh
  subst ex
  obtain rfl : u = Value.ref a := rx
  subst ec
  subst ed
  obtain ⟨ha, _⟩ := I1.pin (a, oe) (List.mem_append_left _ List.mem_cons_self)
  obtain ⟨vs, hd⟩ := hf
  have hx : ObjOk X.prog X.w H1 s1.heap dd (.xd [(("position" : Str), v)]) := I1.hok dd _ ea
  obtain ⟨mA, hns, hr⟩ := hx
  obtain ⟨od, ho, hl⟩ := lookIn_ns hns
  have l : List.lookup ("position" : Str) [(("position" : Str), v)] = some v := by simp [List.lookup]
  obtain ⟨u, hu, ru⟩ := RelO.some_of (v := v) (o := mA "position") (by rw [← l]; exact hr "position")
  have J : PySem.W.InstAt s1.heap a oe C (some od) := ⟨ha, hz.1, by unfold PySem.W.notCls; rw [hd] <;> rfl, by rw [hz.2]; exact ho⟩
  exact HandSPX.exc_get I1.kIn J T.ga T.gg T.exC (PySem.W.findObj_own T.hdC T.noN rfl (by rw [hl, hu])) (handed_of ru) ⟨v, H1, I1.tok _, ru, q⟩
end
end L2


namespace PD
open PySem L2 PySem.Spec PyProof.Rows
section
variable {X : Cx} {W : WX} {C fI : Addr} {a : Expr} {ta te : TE} {td : ED} {oa : OD} {p pos pos2 : Pos} {k : Nat} {K : PySem.W.Frag}
def sRaise (C : Addr) (f : Str) (od : OD) : SD := fun D env => od env (fun o e => ∃ d, o = .v d ∧ D.ex C f d e) D.ex
theorem psd_raise (hc : X.calm = true) (T : PySem.LowX.LowTxt X.K X.mg C fI) (hr : Room k X.A) (tk : Takes X W) (ha : POd X W a ta oa) (hg : Gl X "BadText" := by rfl)
    (he : starEach (a :: []) X.env = (false, eval a X.env) :: starEach [] X.env := by rfl) (hpl : (backTo pos (starEach [] X.env)).any (·.1) = false := by rfl) :
    PSd X W (.Raise (some (.Call (.Name "BadText" p) [a] [] pos)) none pos2) (tRaiseLow C W (tCons ta tNil)) (sRaise C "position" oa) :=
  ⟨ps_raiseLow hc T hr tk (pa_cons ha.pe pa_nil he) hg he hpl, fun x σ H env T' D Dd hk r l h => by
    refine ha.sim x σ H env T' _ _ _ hk r l.ex (fun v o H1 e1 r1 ok q => ?_) h
    obtain ⟨d, rfl, q⟩ := q
    refine ⟨v, rfl, fun q' hq' => ?_⟩
    exact l.ex C _ d v q' σ _ e1 (r1.new hq') upd_same q⟩
/-- try: told = ['told', ..] .. except C as e: told = [z, e.position]; e in slot i, told in slot j -/
def sTell (i j : Nat) (z : Str) (d : PyData) : SD := fun D env => D.nx (env.set j (.own (.lst [.str z, d])))
def sTry (C : Addr) (f : Str) (i : Nat) (sb : SD) (su : PyData → SD) : SD := fun D env =>
  sb { D with ex := fun C' f' d e => C' = C ∧ f' = f ∧ i < e.length ∧ su d { D with nx := fun e' => D.nx (e'.set i .un), rt := D.rt, bk := fun e' => D.bk (e'.set i .un), ct := fun e' => D.ct (e'.set i .un) } (e.set i .un) } env
theorem psd_try {n : Str} {c : Value} {i : Nat} {body suite : List Stmt} {b₀ : Stmt} {np pos' : Pos} {x : Str} {tb : WX → TS} {ts : Addr → Value → Option Addr → TS} {Wout : WX} {sb : SD} {su : PyData → SD} {f : Str}
    (hs : X.stack = X.env :: X.outer) (hf : X.env.frame = some X.env.locals) (hN : X.N.Nodup) (hi : X.N[i]? = some n) (hln : X.env.kindOf n = some .local) (hc : Names X x c) (tk : Takes X Wout) (hcC : c = .ref C) (te1 : PySem.W.exmOne X.K (.ref C) (.ref C) = some true)
    (hb : ∀ (W : WX) (pn : List (Addr × Obj)) (xe : Value → Shared → Prop), Takes (X.tr pn xe) W → PSsd (X.tr pn xe) W body (tb W) sb)
    (hsu : ∀ (a : Addr) (oe : Obj) (cls : Value) (d : Option Addr) (pn : List (Addr × Obj)), Zc cls d oe → (∃ vs, oe.data = .fields vs) → PSs (X.suite a ((a, oe) :: pn)) (b₀ :: suite) (ts a cls d))
    (hsim : ∀ (a dd : Addr) (x : Fx) (σ : L2.St) (H : Hp) (env : Env) (T : List Ent) (D : Ends) (Dd : EndD) (v : V) (d : PyData), x.K = X.K → RelS x σ H env ((some v, .val d) :: T) → H dd = some (.xd [(f, v)]) → σ[i]? = some (some (.ref a)) → LinkS x T Wout D Dd → su d Dd env → ts a (.ref C) (some dd) D σ H) :
    PSd X Wout (.Try body [.ExceptHandler (some (.Name x np)) (some n) (b₀ :: suite) pos'] [] [] pos) (fun D σ H => tb (wAs X.K c i ts Wout D) D σ H) (sTry C f i sb su) := by
  refine ⟨ps_try_as hs hf hN hi hln hc tk (fun W pn xe tk' _ => (hb W pn xe tk').ps) hsu, fun x σ H env T D Dd hk r l h => ?_⟩
  have sim := (hb (wAs X.K c i ts Wout D) [] (fun _ _ => True) (fun _ _ _ => trivial)).sim
  refine sim x σ H env T D { Dd with ex := fun C' f' d e => C' = C ∧ f' = f ∧ i < e.length ∧ su d { Dd with nx := fun e' => Dd.nx (e'.set i .un), rt := Dd.rt, bk := fun e' => Dd.bk (e'.set i .un), ct := fun e' => Dd.ct (e'.set i .un) } (e.set i .un) } hk r ⟨l.nx, l.bk, l.ct, l.rt, fun C' f' d v dd σ' H' e' r' hd q => ?_⟩ h
  obtain ⟨rfl, rfl, hil, q⟩ := q
  subst hcC
  refine ⟨true, te1, fun _ a' ha' => ?_, fun z => Bool.noConfusion z⟩
  have r2 : RelS x (σ'.set i (some (.ref a'))) H' (e'.set i .un) ((some v, .val d) :: T) := r'.wipe1 i _
  rw [← r'.len] at hil
  refine hsim a' dd x _ H' _ T _ { Dd with nx := fun e' => Dd.nx (e'.set i .un), rt := Dd.rt, bk := fun e' => Dd.bk (e'.set i .un), ct := fun e' => Dd.ct (e'.set i .un) } v d hk r2 hd (by rw [List.getElem?_set_self hil]) ⟨fun σ3 H3 e3 r3 q3 => ?_, fun σ3 H3 e3 r3 q3 => ?_, fun σ3 H3 e3 r3 q3 => ?_, l.rt, fun C3 f3 d3 v3 dd3 σ3 H3 e3 r3 hd3 q3 => ?_⟩ q
  · exact l.nx _ _ _ (r3.wipe1 i none) q3
  · exact l.bk _ _ _ (r3.wipe1 i none) q3
  · exact l.ct _ _ _ (r3.wipe1 i none) q3
  · exact l.ex C3 f3 d3 v3 dd3 σ3 H3 e3 r3 hd3 q3
theorem sim_tell {z : Str} {i j : Nat} {Wout : WX} (a dd : Addr) (x : Fx) (σ : L2.St) (H : Hp) (env : Env) (T : List Ent) (D : Ends) (Dd : EndD) (v : V) (d : PyData) (hk : x.K = K) (r : RelS x σ H env ((some v, .val d) :: T)) (hd : H dd = some (.xd [("position", v)])) (hi : σ[i]? = some (some (.ref a)))
    (l : LinkS x T Wout D Dd) (h : Dd.nx (env.set j (.own (.lst [.str z, d])))) : tAsg (tLst (tCons (tC (.str z)) (tCons (tByLow C a (.ref C) (some dd) (tVar i)) tNil))) (gName j) D σ H := by
  refine ⟨.ref a, hi, rfl, rfl, dd, v, rfl, hd, ?_⟩
  refine ⟨by
        show 2 ≤ sizeLine; decide, fun p hp => ?_⟩
  have rv := r.tmp (List.mem_cons_self ..)
  have r2 := (r.newL (xs := [.str z, v]) (ds := [.str z, d]) hp (.cons (by simp only [Rp]) (.cons rv .nil))).drop (T' := (some (.ref p), .own (.lst [.str z, d])) :: T) (List.Sublist.cons_cons _ (List.sublist_cons_self _ _))
  exact l.nx _ _ _ r2.store h
theorem pss_tell {z : Str} {i j : Nat} {cls : Value} {dc : Option Addr} {a0 : Addr} {oe : Obj} {pn : List (Addr × Obj)} {y n : Str} {p1 p2 p3 p4 p5 p6 : Pos} {kk : Nat} (T : PySem.LowX.LowTxt X.K X.mg C fI) (hz : Zc cls dc oe) (hf : ∃ vs, oe.data = .fields vs)
    (h1 : PS (X.suite a0 ((a0, oe) :: pn)) (.Assign [.Name y p1] (.List [.Constant (.str z) kk p2, .Attribute (.Name n p3) "position" p4] p5) p6) (tAsg (tLst (tCons (tC (.str z)) (tCons (tByLow C a0 cls dc (tVar i)) tNil))) (gName j))) :
    PSs (X.suite a0 ((a0, oe) :: pn)) [.Assign [.Name y p1] (.List [.Constant (.str z) kk p2, .Attribute (.Name n p3) "position" p4] p5) p6] (tAsg (tLst (tCons (tC (.str z)) (tCons (tByLow C a0 cls dc (tVar i)) tNil))) (gName j)) := pss_one h1
end
end PD
/-! Several names at once; a sign ahead; walks over anything that can be walked; a module's constants. -/
namespace PD
open PySem L2 PySem.Spec PyProof.Rows
section
variable {X : Cx} {W : WX} {x y z : Str} {pos p px py pz pt pt2 : Pos} {e a b c o tg iter : Expr} {es rest : List Expr} {te ta tb tc to : TE} {td da db dc : ED} {oa ob oc od : OD} {K : PySem.W.Frag} {kt k2 : Nat}
def sPar (i j : Nat) (da db : ED) : SD := fun D env => da env (fun s1 e1 => db e1 (fun s2 e2 => D.nx ((e2.set i s1).set j s2)) D.ex) D.ex
theorem psd_par {i j : Nat} (hc : X.calm = true) (hN : X.N.Nodup) (hi : X.N[i]? = some x) (hj : X.N[j]? = some y) (hij : i ≠ j) (hx : X.env.scope.names.lookup x = some .local) (hy : X.env.scope.names.lookup y = some .local) (ha : PEd X W a ta da) (hb : PEd X W b tb db)
    (hw : swappedStores [.Tuple [.Name x px, .Name y py] kt
          pt] (.Tuple [a, b] k2 pt2) X.env = pure (some [x, y]))
    (hs1 : starEach [a, b] X.env = (false, eval a X.env) :: starEach [b] X.env := by rfl) (hs2 : starEach [b] X.env = (false, eval b X.env) :: starEach [] X.env := by rfl)
    (hs : swapsWithSole [.Tuple [.Name x px, .Name y py] kt pt]
          (.Tuple [a, b] k2 pt2) pos.line X.env = pure false := by rfl) :
    PSd X W (.Assign [.Tuple [.Name x px, .Name y py] kt pt] (.Tuple [a, b] k2 pt2) pos) (tPar i j (tCons ta (tCons tb tNil))) (sPar i j da db) :=
  ⟨ps_par hc hN hi hj hij hx hy (pa_cons ha.pe (pa_cons hb.pe pa_nil hs2) hs1) hw hs, fun x' σ H env T D Dd hk r lk h => by
    refine ha.sim x' σ H env T _ _ _ hk r lk.ex (fun v1 s1 H1 e1 r1 q1 => ?_) h
    refine hb.sim x' σ H1 e1 _ _ _ _ hk r1 lk.ex.cons (fun v2 s2 H2 e2 r2 q2 => ?_) q1
    exact ⟨v1, v2, rfl, lk.nx _ _ _ (RelS.store (RelS.store (r2.permT (List.Perm.swap _ _ _)))) q2⟩⟩
def sPar3 (i j l : Nat) (da db dc : ED) : SD := fun D env => da env (fun s1 e1 => db e1 (fun s2 e2 => dc e2 (fun s3 e3 => D.nx (((e3.set i s1).set j s2).set l s3)) D.ex) D.ex) D.ex
theorem psd_par3 {i j l : Nat} (hc : X.calm = true) (hN : X.N.Nodup) (hi : X.N[i]? = some x) (hj : X.N[j]? = some y) (hl : X.N[l]? = some z) (hij : i ≠ j) (hil : i ≠ l) (hjl : j ≠ l) (hx : X.env.scope.names.lookup x = some .local) (hy : X.env.scope.names.lookup y = some .local) (hz : X.env.scope.names.lookup z = some .local)
    (ha : PEd X W a ta da) (hb : PEd X W b tb db) (hcc : PEd X W c tc dc)
    (hw : swappedStores [.Tuple [.Name x px, .Name y py, .Name z pz]
          kt pt] (.Tuple [a, b, c] k2 pt2) X.env = pure (some [x, y, z]))
    (hs1 : starEach [a, b, c] X.env = (false, eval a X.env) :: starEach [b, c] X.env := by rfl) (hs2 : starEach [b, c] X.env = (false, eval b X.env) :: starEach [c] X.env := by rfl) (hs3 : starEach [c] X.env = (false, eval c X.env) :: starEach [] X.env := by rfl)
    (hs : swapsWithSole [.Tuple [.Name x px, .Name y py, .Name z pz] kt
          pt] (.Tuple [a, b, c] k2 pt2) pos.line X.env = pure false := by rfl) :
    PSd X W (.Assign [.Tuple [.Name x px, .Name y py, .Name z pz] kt pt] (.Tuple [a, b, c] k2 pt2) pos) (tPar3 i j l (tCons ta (tCons tb (tCons tc tNil)))) (sPar3 i j l da db dc) :=
  ⟨ps_par3 hc hN hi hj hl hij hil hjl hx hy hz (pa_cons ha.pe (pa_cons hb.pe (pa_cons hcc.pe pa_nil hs3) hs2) hs1) hw hs, fun x' σ H env T D Dd hk r lk h => by
    refine ha.sim x' σ H env T _ _ _ hk r lk.ex (fun v1 s1 H1 e1 r1 q1 => ?_) h
    refine hb.sim x' σ H1 e1 _ _ _ _ hk r1 lk.ex.cons (fun v2 s2 H2 e2 r2 q2 => ?_) q1
    refine hcc.sim x' σ H2 e2 _ _ _ _ hk r2 lk.ex.cons.cons (fun v3 s3 H3 e3 r3 q3 => ?_) q2
    have pp : ((some v1, s1) :: (some v2, s2) :: (some v3, s3) :: T).Perm ((some v3, s3) :: (some v2, s2) :: (some v1, s1) :: T) :=
      (List.Perm.swap _ _ _).trans ((List.Perm.cons _ (List.Perm.swap _ _ _)).trans (List.Perm.swap _ _ _))
    have r4 := r3.permT pp
    have r5 := RelS.store (i := i) r4
    have r6 := RelS.store (i := j) r5
    exact ⟨v1, v2, v3, rfl, lk.nx _ _ _ (RelS.store (i := l) r6) q3⟩⟩
/-- -e -/
def dNeg (oa : OD) : ED := fun env Q X => oa env (fun o e => ∃ i, cont e o = some (.int i) ∧ Q (.val (.int (-i))) e) X
theorem pd_neg (ha : POd X W a ta oa) : PEd X W (.UnaryOp .USub a pos) (tUn (rU fun i => .int (-i)) ta) (dNeg oa) := ⟨pe_un un_neg ha.pe, fun x σ H env T Q Qd Xd hk r hx hq h =>
  ha.sim x σ H env T _ _ Xd hk r hx (fun v o H1 e1 r1 ok q => by
    obtain ⟨i, e, q⟩ := q
    have := rcInt (r1.rc (fun z hz => List.mem_append_left _ hz) ok e)
    refine ⟨i, this, hq _ _ H1 e1 ((r1.push (d := .int (-i)) (v := .int (-i)) (by simp only [Rp])).drop ?_) q⟩
    exact List.Sublist.cons_cons _ (List.sublist_append_right _ _)) h⟩
/-- a module's constant -/
theorem pd_globE {v : V} {d : PyData} (hg : Gl X x) (hm : ∃ u, X.mg x = some u ∧ RelV v u) (h : ∀ H own, Rp X.K H own d v) (hd : (x == ("__debug__" : Str)) = false := by decide) : PEd X W (.Name x pos) (tC v) (dC d) := by
  obtain ⟨u, h1, h2⟩ := hm
  exact pd_glob hg h1 h2 h hd
theorem pd_gStr {z : Str} (hg : Gl X x) (hm : ∃ u, X.mg x = some u ∧ RelV (.str z) u) (hd : (x == ("__debug__" : Str)) = false := by decide) : PEd X W (.Name x pos) (tC (.str z)) (dC (.str z)) := pd_globE hg hm (fun _ _ => by simp only [Rp]) hd
theorem pd_gInt {i : Int} (hg : Gl X x) (hm : ∃ u, X.mg x = some u ∧ RelV (.int i) u) (hd : (x == ("__debug__" : Str)) = false := by decide) : PEd X W (.Name x pos) (tC (.int i)) (dC (.int i)) := pd_globE hg hm (fun _ _ => by simp only [Rp]) hd
/-- for x in whatever can be walked -/
def iAnyT (K : PySem.W.Frag) (tl : TE) : TI := fun σ H R => tl σ H fun v H1 => (∃ a, v = .ref a ∧ (∃ xs, SqL K H1 a xs) ∧ R (Itl K a) H1) ∨ (∃ a, v = .ref a ∧ (∃ xs, SqT K H1 a xs) ∧ R (Itt K a) H1) ∨ ∃ z, v = .str z ∧ R (Its z) H1
theorem pi_any {l : Expr} {tl : TE} (hl : PE X l tl) : PI X tg l (iAnyT X.K tl) := by
  refine ⟨fun pins
        s σ H R I h => ?_⟩
  refine thn (hl.run pins s σ H _ I h) fun v s1 ⟨x0, H1, I1, r1, q1⟩ => ?_
  rcases q1 with ⟨a, rfl, ⟨xs, hq⟩, q⟩ | ⟨a, rfl, ⟨xs, hq⟩, q⟩ | ⟨z, rfl, q⟩
  · cases r1
    obtain ⟨its, rv, pl, hz⟩ := I1.list hq
    refine wpAny_pyIter_list pl.isList ⟨s1.heap.objs.size, [s1.heap.objs.size], _, _, H1, rfl, I1.kept (t' := s1.toks) fun b o e => Heap.get?_push_of_some _ e, turn_list a _, ⟨_, Heap.get?_push_size _ rfl, rfl, rfl⟩, fun b hb => ?_, q⟩
    cases (by simpa using hb : b = s1.heap.objs.size)
    exact I1.fpOk (Nat.le_refl
          _) (I1.hok.fresh (Nat.le_refl _))
  · cases r1
    obtain ⟨its, rv, pl, hz⟩ := I1.tuple hq
    refine wpAny_pyIter_tuple (show s1.heap.IsTuple a its.toArray from pl) ⟨s1.heap.objs.size, [s1.heap.objs.size], _, _, H1, rfl, I1.kept (t' := s1.toks) fun b o e => Heap.get?_push_of_some _ e, turn_tuple a _, ⟨_, Heap.get?_push_size _ rfl, rfl, rfl⟩, fun b hb => ?_, q⟩
    cases (by simpa using hb : b = s1.heap.objs.size)
    exact I1.fpOk (Nat.le_refl
          _) (I1.hok.fresh (Nat.le_refl _))
  · obtain ⟨t, rfl⟩ := r1
    cases ha : z.cps.all (· < 128)
    · exact wpAny_pyIter_wide ha (pi_one (tk := s1.toks) I1 _ (turn_str _ z t "str_iterator" (.inr rfl)) ⟨_, Heap.get?_push_size _ rfl, rfl, rfl⟩ q)
    · exact wpAny_pyIter_ascii ha (pi_one (tk := s1.toks) I1 _ (turn_str _ z t "str_ascii_iterator" (.inl rfl)) ⟨_, Heap.get?_push_size _ rfl, rfl, rfl⟩ q)
def walkOf : PyData → Option (List PyData)
  | .list ds => if ds.length ≤ 16777216 then some ds else none
  | .tuple ds => if ds.length ≤ 16777216 then some ds else none
  | .str z => if z.length ≤ 16777216 then some (signsD z) else none
  | _ => none
def iAny (od : OD) : ID := fun env Q X => od env (fun o e => ∃ d ds, o = .v d ∧ walkOf d = some ds ∧ Q ds e) X
theorem pid_any (ho : POd X W iter te od) : PId X W tg iter (iAnyT X.K te) (iAny od) := ⟨pi_any ho.pe, fun x σ H env T R Qd Xd hk r hx hq h => by
  refine ho.sim x σ H env T _ _ Xd hk r hx (fun v o H1 e1 r1 ok q => ?_) h
  obtain ⟨d, ds, rfl, hw, q⟩ := q
  have rv := r1.tmp (v := v) (d := d) (List.mem_cons_self ..)
  unfold walkOf at hw
  split at hw
  · split at hw
    · rename_i ds0 hl
      cases hw
      obtain ⟨a, xs, rfl, h1, h2⟩ := rv.rc.lst
      rw [hk] at h1
      refine .inl ⟨a, rfl, ⟨xs, h1⟩, ?_⟩
      rw [show Itl X.K a = Itl x.K a from by rw [hk]]
      exact hq _ [(some (.ref a), .val (.list ds))] ds H1 e1 r1 (wk_list (by rw [sizeLine_eq]; exact hl)) q
    · cases hw
  · split at hw
    · rename_i ds0 hl
      cases hw
      obtain ⟨a, xs, rfl, h1, h2⟩ := rv.rc.tup
      rw [hk] at h1
      refine .inr (.inl ⟨a, rfl, ⟨xs, h1⟩, ?_⟩)
      rw [show Itt X.K a = Itt x.K a from by rw [hk]]
      exact hq _ [(some (.ref a), .val (.tuple ds))] ds H1 e1 r1 (wk_tup (by rw [sizeLine_eq]; exact hl)) q
    · cases hw
  · split at hw
    · rename_i z hl
      cases hw
      have ez := rcStr rv.rc
      subst ez
      exact .inr (.inr ⟨z, rfl, hq _ [] _ H1 e1 r1.tail (wk_str (by rw [sizeLine_eq]; exact hl)) q⟩)
    · cases hw
  · cases hw⟩
end
end PD
/-! A def of the module that holds its promise on data, ready to be called. -/
namespace PD
open PySem L2 PySem.Spec PyProof.Rows
structure OkD (P : Program) (w : World) (K : PySem.W.Frag) (mg : Str → Option Value) (base : Heap) (k : Nat) (x : Str) (ps ks : List Str) (sp : SpD) : Prop where
  ex : ∃ (a : Addr) (fd : FuncData), FnG P w K mg base k a fd ps (SpOf K sp) ∧ Binds K fd ps [] ∧ (ks = [] ∨ RBinds K fd ps ks) ∧ mg x = some (.ref a) ∧ PySem.W.keepIn K (.ref a) = true
/-- the def x stands in the module -/
def Def (K : PySem.W.Frag) (mg : Str → Option Value) (x : Str) (st : Stmt) : Prop := ∃ (a : Addr) (fd : FuncData), Fun K x x st a fd ∧ mg x = some (.ref a)
theorem okD {P : Program} {w : World} {K : PySem.W.Frag} {mg : Str → Option Value} {base : Heap} {x : Str} {st : Stmt} {N ps ks : List Str} {k : Nat} {sp : SpD} (D : Def K mg x st) (S : FnScope N ps (defScope st)) (hNp : ps.length ≤ N.length)
    (len : ∀ as Q X, sp as Q X → as.length = ps.length)
    (hb : ∀ (kV doc pm : Value) (an : Option Addr) (cdv ct : Value) (us : List Value), us.length = ps.length → bindArgs (PySem.W.fnOf x x (defArgs st) (defBody st) (defScope st) .none kV doc pm an cdv ct) ⟨us, []⟩ = pure (ps.zip us))
    (hk : ks = [] ∨ ∀ (kV doc pm : Value) (an : Option Addr) (cdv ct : Value) (ws : List Value), ws.length = ps.length → bindArgs (PySem.W.fnOf x x (defArgs st) (defBody st) (defScope st) .none kV doc pm an cdv ct) ⟨[], ks.zip ws⟩ = pure (ps.zip ws.reverse))
    {sd : SD}
    (hbody : ∀ (f : Addr) (cdv : Value) (A : Around) (outer : List PySem.Env) (s : Shared) (H : Hp) (E : XK), Room k (A.deeper (envOfC x (defScope st) s.heap.objs.size f cdv)) → A.guards = some [] →
      ∃ ts, PSsd (cxOf (L2.CX P w) P w K mg base N x (defScope st) f cdv A outer s H E) (fun cls d _ H => E cls d H) (defBody st) ts sd)
    (hd : ∀ as Q X, sp as Q X → sd { nx := fun e => IoIn as e ∧ Q (.val .none) (e.take ps.length), rt := fun s e => okRes s ∧ IoIn as e ∧ Q s (e.take ps.length), ex := fun C f d e => IoIn as e ∧ X C f d (e.take ps.length) } (as ++ List.replicate (N.length - as.length) .un)) :
    OkD P w K mg base (k + 1) x ps ks sp := by
  obtain ⟨a, fd, F, m⟩ := D
  refine ⟨a, fd, fnD F S hNp len fun cdv A outer s H E hr hg => ?_, F.binds hb, hk.imp id fun h => ?_, m, F.kp⟩
  · obtain ⟨ts, D⟩ := hbody a cdv A outer s H E hr hg
    exact ⟨ts, sd, D, hd⟩
  · obtain ⟨oc, od, kV, doc, pm, an, cdv, ct, osl, rfl, lk, hcd⟩ := F.ex
    exact ⟨fun s ws _ hl => .of_eq (h kV doc pm an cdv ct ws hl)⟩
section
variable {X : Cx} {W : WX} {k j : Nat} {x : Str} {ps ks : List Str} {sp : SpD} {p pos : Pos} {e : Expr} {es : List Expr} {t : TA} {ad : AD} {kws : List Keyword}
theorem pd_fn (G : OkD X.prog X.w X.K X.mg X.base k x ps ks sp) (hr : Room j X.A) (hj : k ≤ j) (hgd : X.A.guards = some []) (hg : Gl X x) (tk : Takes X W) (ha : PAd X W (e :: es) t ad) (hdb : (x == ("__debug__" : Str)) = false := by decide) (he : starEach (e :: es) X.env = (false, eval e X.env) :: starEach es X.env := by rfl)
    (hpl : (backTo pos (starEach es X.env)).any (·.1) = false := by rfl) : PEd X W (.Call (.Name x p) (e :: es) [] pos) (tCallG (SpOf X.K sp) [] (WE W) t) (dCall sp ad) := by
  obtain ⟨a, fd, F, b, _, m, kp⟩ := G.ex
  exact pd_call (rest := []) F (hr.mono hj) hgd hg m kp b tk ha hdb he hpl
theorem pd_fn0 (G : OkD X.prog X.w X.K X.mg X.base k x ps ks sp) (hr : Room j X.A) (hj : k ≤ j) (hgd : X.A.guards = some []) (hg : Gl X x) (tk : Takes X W) (hdb : (x == ("__debug__" : Str)) = false := by decide) : PEd X W (.Call (.Name x p) [] [] pos) (tCallG (SpOf X.K sp) [] (WE W) tNil) (dCall sp aNil) := by
  obtain ⟨a, fd, F, b, _, m, kp⟩ := G.ex
  exact pd_call0 F (hr.mono hj) hgd hg m kp b tk hdb
theorem pd_fnR (G : OkD X.prog X.w X.K X.mg X.base k x ps ks sp) (hk0 : ks ≠ []) (hr : Room j X.A) (hj : k ≤ j) (hgd : X.A.guards = some []) (hg : Gl X x) (tk : Takes X W) (ha : PKd X W kws t ad) (hall : (backToKw pos (keywordEach kws X.env)).all (·.1.isSome) = true := by rfl) (hks : (backToKw pos (keywordEach kws X.env)).filterMap (·.1) = ks := by rfl)
    (hdb : (x == ("__debug__" : Str)) = false := by decide) (hpl : ((backTo pos (starEach [] X.env)).any (·.1) || (backToKw pos (keywordEach kws X.env)).any (·.1.isNone)) = false := by rfl) :
    PEd X W (.Call (.Name x p) [] kws pos) (tCallG (SpOf X.K sp) [] (WE W) (fun σ H Q => t σ H fun vs H1 => Q vs.reverse H1)) (dCall sp (aRev ad)) := by
  obtain ⟨a, fd, F, _, b, m, kp⟩ := G.ex
  exact pd_callR F (hr.mono hj) hgd hg m kp (b.resolve_left hk0) tk ha hall hks hdb hpl
end
end PD
/-! f(g(..)): the def changes an object that nobody else holds. -/
namespace PD
open PySem L2 PySem.Spec PyProof.Rows
def dCallT (sp : SpD) (td : ED) : ED := fun env Q X => td env (fun s e => ∃ m, s = .own m ∧ sp [.io 0 m] (fun s as' => Q s e) fun C f d as' => X C f d e) X
theorem zip_app1 {α β : Type} {l : List α} {m : List β} {a : α} {b : β} (h : l.length = m.length) : (l ++ [a]).zip (m ++ [b]) = l.zip m ++ [(a, b)] := by
  rw [List.zip_append h]; rfl
/-- the object on top goes into a slot behind all others -/
theorem RelS.behind {x : Fx} {σ : L2.St} {H : Hp} {env : Env} {T : List Ent} {v : V} {s : Sl} (r : RelS x σ H env ((some v, s) :: T)) : RelS x (σ ++ [some v]) H (env ++ [s]) T := by
  refine ⟨by simp [r.len], ?_⟩
  rw [zip_app1 r.len, List.append_assoc]
  exact r.rel
theorem RelS.ahead {x : Fx} {σ : L2.St} {H : Hp} {env : Env} {T : List Ent} {v : V} {s : Sl} (hl : σ.length = env.length) (r : RelS x (σ ++ [some v]) H (env ++ [s]) T) : RelS x σ H env T := by
  refine ⟨hl, ?_⟩
  have q := r.rel
  rw [zip_app1 hl, List.append_assoc] at q
  exact q.sublist (List.Sublist.append (List.Sublist.refl _) (List.sublist_cons_self _ _))
theorem updE_last {env : Env} {s : Sl} {as : List Sl} : ∃ s', updE [.s env.length] as (env ++ [s]) = env ++ [s'] := by
  have key : ∀ z : Sl, (env ++ [s]).set env.length z = env ++ [z] := fun z => by simp
  match as with
  | [] => exact ⟨s, by simp [updE]⟩
  | .un :: as => exact ⟨s, by simp [updE]⟩
  | .val d :: as => exact ⟨s, by simp [updE]⟩
  | .own m :: as => exact ⟨s, by simp [updE]⟩
  | .io j m :: as =>
    simp only [updE, List.getElem?_concat_length]
    cases s with
    | own m0 => exact ⟨.own m, key _⟩
    | io k m0 => exact ⟨.io k m, key _⟩
    | un => exact ⟨.un, rfl⟩
    | val d => exact ⟨.val d, rfl⟩
section
variable {X : Cx} {W : WX} {k j : Nat} {x : Str} {ps ks : List Str} {sp : SpD} {p pos : Pos} {e : Expr} {te : TE} {td : ED}
theorem sim_callT {K : PySem.W.Frag} (h : SimE K W te td) : SimE K W (tCallG (SpOf K sp) [] (WE W) (tCons te tNil)) (dCallT sp td) := fun x σ H env T Q Qd Xd hk r hx hq hh => by
  refine h x σ H env T _ _ Xd hk r hx (fun v s H1 e1 r1 q => ?_) hh
  obtain ⟨m, rfl, q⟩ := q
  show SpOf K sp ([v] ++ []) H1 Q _
  rw [List.append_nil]
  have hl := r1.len
  have r2 := r1.behind
  have ok : okOps (σ ++ [some v]) [v] [.s e1.length] := ⟨by show (σ ++ [some v])[e1.length]? = _; rw [← hl]; simp, trivial⟩
  have ha : argsOf (e1 ++ [.own m]) 0 [.s e1.length] = some [.io 0 m] := by
    simp [argsOf, argOf]
  have nd : (slotsOf [Opn.s e1.length]).Nodup := by simp [slotsOf]
  have r3 : RelS x (σ ++ [some v]) H1 (e1 ++ [.own m]) (tOps [v] [.s e1.length] ++ T) := r2
  refine ⟨calleeFx x (σ ++ [some v]) H1 (e1 ++ [.own m]) ((σ ++ [some v]).zip (e1 ++ [.own m]) ++ (tOps [v] [.s e1.length] ++ T)) [.s e1.length], [.io 0 m], _, _, hk, call_entry r3 ok nd ha, q, fun s as' w H' q' P rs => ?_, fun C f d as' w dd H' q' P rv hd => ?_⟩
  · have r4 := call_res r3 nd P rs
    obtain ⟨s', e⟩ := updE_last (env := e1) (s := .own m) (as := as')
    rw [e] at r4
    exact hq w s H' _ (RelS.ahead hl r4) q'
  · have rs : ResOk (calleeFx x (σ ++ [some v]) H1 (e1 ++ [.own m]) ((σ ++ [some v]).zip (e1 ++ [.own m]) ++ (tOps [v] [.s e1.length] ++ T)) [.s e1.length]) H' (.val d) w := by
      show Rp x.K H' _ d w
      rw [hk]; exact rv
    have P' : Post (calleeFx x (σ ++ [some v]) H1 (e1 ++ [.own m]) ((σ ++ [some v]).zip (e1 ++ [.own m]) ++ (tOps [v] [.s e1.length] ++ T)) [.s e1.length]) H' (resOwn w (.val d)) as' := by
      have e : resOwn w (.val d) = fun _ => False := by
        funext b
        cases w <;> simp [resOwn, addrOf]
      rw [e]; exact P
    have r4 := call_res r3 nd P' rs
    obtain ⟨s', e⟩ := updE_last (env := e1) (s := .own m) (as := as')
    rw [e] at r4
    exact hx C f d w dd σ H' _ (RelS.ahead hl r4) hd q'
theorem pd_fnT (G : OkD X.prog X.w X.K X.mg X.base k x ps ks sp) (hr : Room j X.A) (hj : k ≤ j) (hgd : X.A.guards = some []) (hg : Gl X x) (tk : Takes X W) (ha : PEd X W e te td) (hdb : (x == ("__debug__" : Str)) = false := by decide) (he : starEach (e :: []) X.env = (false, eval e X.env) :: starEach [] X.env := by rfl)
    (hpl : (backTo pos (starEach [] X.env)).any (·.1) = false := by rfl) : PEd X W (.Call (.Name x p) [e] [] pos) (tCallG (SpOf X.K sp) [] (WE W) (tCons te tNil)) (dCallT sp td) := by
  obtain ⟨a, fd, F, b, _, m, kp⟩ := G.ex
  exact ⟨pe_callG F (hr.mono hj) hgd hg m kp b .nil (fun σ => passAt tk σ) (pa_cons ha.pe pa_nil he) hdb he hpl, sim_callT ha.sim⟩
end
end PD
/-! Blocks whose hand readings may depend on where they stand. -/
namespace PD
open PySem L2 PySem.Spec PyProof.Rows
section
variable {X : Cx} {W W' : WX} {x y : Str} {pos p : Pos} {tg iter elt : Expr} {ifs : List Expr} {scope : Scope} {own : List (Str × Nat)} {wi : TI} {id : ID} {gd : GD} {bd : BD} {td : ED}
abbrev GAll (X : Cx) (scope : Scope) (vs : List Nat) (tg : Expr) (gd : GD) : Prop := ∀ (s : Shared) (H : Hp) (C : Addr) (cl : List (Str × Addr)) (fp : List Addr), ∃ g, PGc (X.blk s H scope (compEnvC scope cl C X.env) fp) vs tg g gd
abbrev TAll (X : Cx) (W : WX) (scope : Scope) (ifs : List Expr) (bd : BD) : Prop := ∀ (s : Shared) (H : Hp) (C : Addr) (cl : List (Str × Addr)) (fp : List Addr), ∃ t, PTsd (X.blk s H scope (compEnvC scope cl C X.env) fp) W ifs t bd
abbrev EAll (X : Cx) (W : WX) (scope : Scope) (e : Expr) (td : ED) : Prop := ∀ (s : Shared) (H : Hp) (C : Addr) (cl : List (Str × Addr)) (fp : List Addr), ∃ te, PEd (X.blk s H scope (compEnvC scope cl C X.env) fp) W e te td
noncomputable def uG {vs : List Nat} (h : GAll X scope vs tg gd) : TG := fun v σ H Q => ∀ s H0 C cl fp, (h s H0 C cl fp).choose v σ H Q
noncomputable def uT (h : TAll X W scope ifs bd) : TT := fun σ H Q => ∀ s H0 C cl fp, (h s H0 C cl fp).choose σ H Q
noncomputable def uE (h : EAll X W scope elt td) : TE := fun σ H Q => ∀ s H0 C cl fp, (h s H0 C cl fp).choose σ H Q
theorem uG_ok {vs : List Nat} (h : GAll X scope vs tg gd) (s : Shared) (H : Hp) (C : Addr) (cl : List (Str × Addr)) (fp : List Addr) : PGc (X.blk s H scope (compEnvC scope cl C X.env) fp) vs tg (uG h) gd :=
  ⟨⟨fun pins s1 σ H1 v u Q I r q => (h s H C cl fp).choose_spec.pg.run pins s1 σ H1 v u Q I r (q s H C cl fp)⟩, fun x σ H1 env T v sl Q Qd hk r hq hh s' H' C' cl' fp' => (h s' H' C' cl' fp').choose_spec.sim x σ H1 env T v sl Q Qd hk r hq hh⟩
theorem uT_ok (h : TAll X W scope ifs bd) (s : Shared) (H : Hp) (C : Addr) (cl : List (Str × Addr)) (fp : List Addr) : PTsd (X.blk s H scope (compEnvC scope cl C X.env) fp) W ifs (uT h) bd :=
  ⟨⟨fun pins s1 σ H1 Q I q => (h s H C cl fp).choose_spec.pt.run pins s1 σ H1 Q I (q s H C cl fp)⟩, fun x σ H1 env T Q Qd Xd hk r hx hq hh s' H' C' cl' fp' => (h s' H' C' cl' fp').choose_spec.sim x σ H1 env T Q Qd Xd hk r hx hq hh⟩
theorem uE_ok (h : EAll X W scope elt td) (s : Shared) (H : Hp) (C : Addr) (cl : List (Str × Addr)) (fp : List Addr) : PEd (X.blk s H scope (compEnvC scope cl C X.env) fp) W elt (uE h) td :=
  ⟨⟨fun pins s1 σ H1 Q I q => (h s H C cl fp).choose_spec.pe.run pins s1 σ H1 Q I (q s H C cl fp)⟩, fun x σ H1 env T Q Qd Xd hk r hx hq hh s' H' C' cl' fp' => (h s' H' C' cl' fp').choose_spec.sim x σ H1 env T Q Qd Xd hk r hx hq hh⟩
theorem pd_lcU (hc : X.calm = true) (hN : X.N.Nodup) (hi : PId X W tg iter wi id) (ok : BlkOk X.N X.env.scope scope own) (hg : GAll X scope (own.map (·.2)) tg gd) (ht : TAll X W' scope ifs bd) (he : EAll X W' scope elt td)
    (hs : ∀ x, foldedSetIterable iter X.env x = pure x := by intro _; rfl) : PEd X W (.ListComp elt [⟨tg, iter, ifs, 0⟩] scope pos) (tLc wi (uG hg) (uT ht) (uE he) (own.map (·.2))) (dLc id gd bd td (own.map (·.2))) :=
  pd_lc hc hN hi ok (fun s H C cl fp => uG_ok hg s H C cl fp) (fun s H C cl fp => uT_ok ht s H C cl fp) (fun s H C cl fp => uE_ok he s H C cl fp) hs
theorem psd_setLcU {i : Nat} {py spos : Pos} (hc : X.calm = true) (hN : X.N.Nodup) (hy : X.N[i]? = some y) (hyl : X.env.scope.names.lookup y = some .local)
    (hsw : swapsWith (.ListComp elt [⟨tg, iter, ifs, 0⟩] scope pos) (some (.Name y py)) spos.line X.env = pure true) (hi : PId X W tg iter wi id) (ok : BlkOk X.N X.env.scope scope own) (hg : GAll X scope (own.map (·.2)) tg gd) (ht : TAll X W' scope ifs bd) (he : EAll X W' scope elt td)
    (hs : ∀ x, foldedSetIterable iter X.env x = pure x := by intro _; rfl) :
    PSd X W (.Assign [.Name y py] (.ListComp elt [⟨tg, iter, ifs, 0⟩] scope pos) spos) (tAsg (tLc wi (uG hg) (uT ht) (uE he) (own.map (·.2))) (gName i)) (sAsg (dLc id gd bd td (own.map (·.2))) (gN i)) :=
  psd_setLc hc hN hy hyl hsw hi ok (fun s H C cl fp => uG_ok hg s H C cl fp) (fun s H C cl fp => uT_ok ht s H C cl fp) (fun s H C cl fp => uE_ok he s H C cl fp) hs
/-- try, the body's hand reading may depend on where it stands -/
abbrev BAll (X : Cx) (body : List Stmt) (sb : SD) : Prop := ∀ (W : WX) (pn : List (Addr × Obj)) (xe : Value → Shared → Prop), Takes (X.tr pn xe) W → ∃ t, PSsd (X.tr pn xe) W body t sb
noncomputable def uB {body : List Stmt} {sb : SD} (h : BAll X body sb) (W : WX) : TS := fun D σ H => ∀ pn xe tk, (h W pn xe tk).choose D σ H
theorem uB_ok {body : List Stmt} {sb : SD} (h : BAll X body sb) (W : WX) (pn : List (Addr × Obj)) (xe : Value → Shared → Prop) (tk : Takes (X.tr pn xe) W) : PSsd (X.tr pn xe) W body (uB h W) sb :=
  ⟨⟨fun pins s σ H D I q => (h W pn xe tk).choose_spec.ps.run pins s σ H D I (q pn xe tk)⟩, fun x σ H env T D Dd hk r l hh pn' xe' tk' => (h W pn' xe' tk').choose_spec.sim x σ H env T D Dd hk r l hh⟩
end
end PD
/-! What helps to open a reading on data. -/
namespace PD
open PySem L2
def IoF : Nat → List Sl → Env → Prop
  | _, [], _ => True
  | k, .io _ _ :: as, .io j _ :: e => j = k ∧ IoF (k + 1) as e
  | k, .io _ _ :: as, _ => False
  | k, _ :: as, _ :: e => IoF (k + 1) as e
  | k, _ :: as, [] => IoF (k + 1) as []
theorem ioF_in : ∀ {as : List Sl} {e : Env} {k : Nat}, IoF k as e → ∀ (j : Nat) (i : Nat) (m : MO), as[j]? = some (.io i m) → ∃ m', e[j]? = some (.io (k + j) m')
  | [], e, k, h, j, i, m, hj => by simp at hj
  | .io i0 m0 :: as, [], k, h, j, i, m, hj => by simp [IoF] at h
  | .io i0 m0 :: as, .un :: e, k, h, j, i, m, hj => by simp [IoF] at h
  | .io i0 m0 :: as, .val d :: e, k, h, j, i, m, hj => by simp [IoF] at h
  | .io i0 m0 :: as, .own d :: e, k, h, j, i, m, hj => by simp [IoF] at h
  | .io i0 m0 :: as, .io j0 m1 :: e, k, h, 0, i, m, hj => by
    simp only [IoF] at h
    exact ⟨m1, by rw [h.1]; rfl⟩
  | .io i0 m0 :: as, .io j0 m1 :: e, k, h, j + 1, i, m, hj => by
    simp only [IoF] at h
    obtain ⟨m', q⟩ := ioF_in h.2 j i m (by simpa using hj)
    exact ⟨m', by rw [show k + (j + 1) = k + 1 + j from by omega]; simpa using q⟩
  | .un :: as, s :: e, k, h, 0, i, m, hj => by simp at hj
  | .val d :: as, s :: e, k, h, 0, i, m, hj => by simp at hj
  | .own d :: as, s :: e, k, h, 0, i, m, hj => by simp at hj
  | .un :: as, s :: e, k, h, j + 1, i, m, hj => by
    obtain ⟨m', q⟩ := ioF_in (e := e) (k := k + 1) (by simpa only [IoF] using h) j i m (by simpa using hj)
    exact ⟨m', by rw [show k + (j + 1) = k + 1 + j from by omega]; simpa using q⟩
  | .val d :: as, s :: e, k, h, j + 1, i, m, hj => by
    obtain ⟨m', q⟩ := ioF_in (e := e) (k := k + 1) (by simpa only [IoF] using h) j i m (by simpa using hj)
    exact ⟨m', by rw [show k + (j + 1) = k + 1 + j from by omega]; simpa using q⟩
  | .own d :: as, s :: e, k, h, j + 1, i, m, hj => by
    obtain ⟨m', q⟩ := ioF_in (e := e) (k := k + 1) (by simpa only [IoF] using h) j i m (by simpa using hj)
    exact ⟨m', by rw [show k + (j + 1) = k + 1 + j from by omega]; simpa using q⟩
  | .un :: as, [], k, h, 0, i, m, hj => by simp at hj
  | .val d :: as, [], k, h, 0, i, m, hj => by simp at hj
  | .own d :: as, [], k, h, 0, i, m, hj => by simp at hj
  | .un :: as, [], k, h, j + 1, i, m, hj => by
    obtain ⟨m', q⟩ := ioF_in (e := []) (k := k + 1) (by simpa only [IoF] using h) j i m (by simpa using hj)
    simp at q
  | .val d :: as, [], k, h, j + 1, i, m, hj => by
    obtain ⟨m', q⟩ := ioF_in (e := []) (k := k + 1) (by simpa only [IoF] using h) j i m (by simpa using hj)
    simp at q
  | .own d :: as, [], k, h, j + 1, i, m, hj => by
    obtain ⟨m', q⟩ := ioF_in (e := []) (k := k + 1) (by simpa only [IoF] using h) j i m (by simpa using hj)
    simp at q
theorem ioIn_of {as : List Sl} {e : Env} (h : IoF 0 as e) : IoIn as e := fun j i m hj => by
  obtain ⟨m', q⟩ := ioF_in h j i m hj
  exact ⟨m', by rw [Nat.zero_add] at q; exact q⟩
section
variable {i j : Int} {a b : Str} {ds es : List PyData} {d : PyData}
theorem fAdd_i : fAdd (.int i) (.int j) = some (.val (.int (i + j))) := rfl
theorem fAdd_s (h : a.length + b.length ≤ 16777216) : fAdd (.str a) (.str b) = some (.val (.str (a ++ b))) := by
  show ((if a.length + b.length ≤ 16777216 then some (Sl.val (.str (a ++ b))) else none).or _) = _
  rw [if_pos h]; rfl
theorem fAdd_l (h : ds.length + es.length ≤ 16777216) : fAdd (.list ds) (.list es) = some (.own (.lst (ds ++ es))) := by
  show ((if ds.length + es.length ≤ 16777216 then some (Sl.own (.lst (ds ++ es))) else none).or _) = _
  rw [if_pos h]; rfl
theorem fAdd_t (h : ds.length + es.length ≤ 16777216) : fAdd (.tuple ds) (.tuple es) = some (.val (.tuple (ds ++ es))) := by
  show (if ds.length + es.length ≤ 16777216 then some (Sl.val (.tuple (ds ++ es))) else none) = _
  rw [if_pos h]
theorem fSub_i : fSub (.int i) (.int j) = some (.val (.int (i - j))) := rfl
theorem fMul_i (h : i.natAbs.log2 + j.natAbs.log2 < 1000000) : fMul (.int i) (.int j) = some (.val (.int (i * j))) := by
  show ((if decide (i.natAbs.log2 + j.natAbs.log2 < 1000000) = true then some (Sl.val (.int (i * j))) else none).or _) = _
  rw [if_pos (decide_eq_true h)]; rfl
theorem fMul_l (h : j ≤ 16777216 ∧ -16777216 ≤ j ∧ ds.length * j.toNat ≤ 16777216) : fMul (.list ds) (.int j) = some (.own (.lst (List.replicate j.toNat ds).flatten)) := by
  show ((if j ≤ 16777216 ∧ -16777216 ≤ j ∧ ds.length * j.toNat ≤ 16777216 then some (Sl.own (.lst (List.replicate j.toNat ds).flatten)) else none).or _) = _
  rw [if_pos h]; rfl
theorem fMod_i (h : 0 < j) : fMod (.int i) (.int j) = some (.val (.int (i % j))) := if_pos (decide_eq_true h)
theorem fDiv_i (h : 0 < j ∧ j.natAbs.log2 < 9000) : fDiv (.int i) (.int j) = some (.val (.int (i / j))) := if_pos (decide_eq_true h)
theorem fPow_i (h : 0 ≤ j ∧ j ≤ 1000000 ∧ i.natAbs < 2 ^ 64) : fPow (.int i) (.int j) = some (.val (.int (i ^ j.toNat))) := if_pos (decide_eq_true h)
theorem fLt_i : fLt (.int i) (.int j) = some (.val (.bool (decide (i < j)))) := rfl
theorem fLe_i : fLe (.int i) (.int j) = some (.val (.bool (decide (i ≤ j)))) := rfl
theorem fGt_i : fGt (.int i) (.int j) = some (.val (.bool (decide (j < i)))) := rfl
theorem fGe_i : fGe (.int i) (.int j) = some (.val (.bool (decide (j ≤ i)))) := rfl
theorem fEq_i : fEq (.int i) (.int j) = some (.val (.bool (decide (i = j)))) := rfl
theorem fEq_s : fEq (.str a) (.str b) = some (.val (.bool (decide (a = b)))) := rfl
theorem fNe_i : fNe (.int i) (.int j) = some (.val (.bool (!decide (i = j)))) := rfl
theorem fNe_s : fNe (.str a) (.str b) = some (.val (.bool (!decide (a = b)))) := rfl
theorem fEq_l (h : SeqAt.shaped (.list ds) = true) (h' : SeqAt.shaped (.list es) = true) : fEq (.list ds) (.list es) = some (.val (.bool (PyData.eqv (.list ds) (.list es)))) := if_pos ⟨h, h'⟩
theorem fNe_l (h : SeqAt.shaped (.list ds) = true) (h' : SeqAt.shaped (.list es) = true) : fNe (.list ds) (.list es) = some (.val (.bool (!PyData.eqv (.list ds) (.list es)))) := if_pos ⟨h, h'⟩
theorem fIs_n : fIs d .none = some (.val (.bool (isNo d))) := by cases d <;> rfl
theorem fNot_n : fNot d .none = some (.val (.bool (!isNo d))) := by cases d <;> rfl
theorem fIx_l : fIx (.list ds) (.int i) = (atI ds i).map .val := rfl
theorem fIx_t : fIx (.tuple ds) (.int i) = (atI ds i).map .val := rfl
theorem fIx_s (h : a.length ≤ 16777216) : fIx (.str a) (.int i) = (atI a.cps.toList i).map fun c => .val (.str ⟨#[c]⟩) := if_pos h
theorem fLen_l : fLen (.list ds) = some (.val (.int ds.length)) := rfl
theorem fLen_t : fLen (.tuple ds) = some (.val (.int ds.length)) := rfl
theorem fLen_s (h : a.length ≤ 16777216) : fLen (.str a) = some (.val (.int a.length)) := if_pos h
theorem fInt_i : fInt (.int i) = some (.val (.int i)) := rfl
theorem fStr_i (h : i.natAbs.log2 < 1920) : fStr (.int i) = some (.val (.str (toString i))) := if_pos h
theorem fSl_s {lo hi : Option Int} (h : a.length ≤ 16777216) : fSl (.str a) lo hi = some (.val (.str (cutS a lo hi))) := if_pos h
theorem fSl_l {lo hi : Option Int} : fSl (.list ds) lo hi = some (.own (.lst (cutD ds lo hi))) := rfl
theorem fSl_t {lo hi : Option Int} : fSl (.tuple ds) lo hi = some (.val (.tuple (cutD ds lo hi))) := rfl
theorem fSplit_s (h : b.length ≠ 0 ∧ a.length + 2 ≤ 16777216) : fSplit (.str a) (.str b) = some (.own (.lst ((Txt.split a b).map .str))) := if_pos h
theorem fJoin_l {ys : List Str} (h : (ys.map (·.length)).sum + ys.length * a.length ≤ 16777216) : fJoin (.str a) (.list (ys.map .str)) = some (.val (.str (Txt.join a ys))) := by
  show ((strsD (ys.map .str)).bind _) = _
  rw [strs_back]
  exact if_pos h
theorem fMax_i : fMax (.int i) (.int j) = some (.val (.int (if j > i then j else i))) := rfl
theorem fMin_i : fMin (.int i) (.int j) = some (.val (.int (if j < i then j else i))) := rfl
theorem fAbs_i : fAbs (.int i) = some (.val (.int (if i < 0 then -i else i))) := rfl
theorem fTup_l : fTup (.list ds) = some (.val (.tuple ds)) := rfl
theorem fTup_t : fTup (.tuple ds) = some (.val (.tuple ds)) := rfl
theorem fList_l : fList (.list ds) = some (.own (.lst ds)) := rfl
theorem fList_t : fList (.tuple ds) = some (.own (.lst ds)) := rfl
theorem walk_l (h : ds.length ≤ 16777216) : walkOf (.list ds) = some ds := if_pos h
theorem walk_t (h : ds.length ≤ 16777216) : walkOf (.tuple ds) = some ds := if_pos h
theorem walk_s (h : a.length ≤ 16777216) : walkOf (.str a) = some (signsD a) := if_pos h
theorem bools_back (l : List Bool) : bools (l.map PyData.bool) = some l := by
  induction l with
  | nil => rfl
  | cons a l ih => simp [bools, ih]
end
theorem ite_intro {c : Prop} [Decidable c] {A B : Prop} (h1 : c → A) (h2 : ¬ c → B) : if c then A else B := by
  by_cases h : c
  · rw [if_pos h]; exact h1 h
  · rw [if_neg h]; exact h2 h
theorem slotsOf_nil : slotsOf [] = [] := rfl
theorem map_take_succ {α β : Type} {l : List α} {i : Nat} {a : α} (f : α → β) (h : l[i]? = some a) : (l.take i).map f ++ [f a] = (l.take (i + 1)).map f := by
  rw [List.take_add_one, h]; simp
theorem take_succ_get {α : Type} {l : List α} {i : Nat} {a : α} (h : l[i]? = some a) : l.take i ++ [a] = l.take (i + 1) := by
  rw [List.take_add_one, h]; simp
/-- a comprehension over known items, without tests, whose parts change nothing -/
theorem lc_gen {id : ID} {i : Nat} {td : ED} {env : Env} {Q : Sl → Env → Prop} {X : XD} (ds : List PyData) (f : PyData → PyData) (e1 : Env)
    (hid : ∀ R : List PyData → Env → Prop, R ds e1 → id env R X)
    (hel : ∀ d ∈ ds, ∀ R : Sl → Env → Prop, (∀ s, frz s = some (f d) → R s (e1.set i (.val d))) → td (e1.set i (.val d)) R NoX)
    (hq : Q (.own (.lst (ds.map f))) (e1.set i .un)) : dLc id (gN i) bYes td [i] env Q X := by
  refine hid _ ⟨fun k acc e => acc = (ds.take k).map f ∧ e = e1.set i .un, ⟨by simp, by simp [wipeD]⟩, fun k acc e d hd _ ⟨ha, he⟩ => ?_, fun acc e _ ⟨ha, he⟩ => ?_⟩
  · subst ha he
    show td ((wipeD (e1.set i .un) [i]).set i (.val d)) _ NoX
    have e2 : (wipeD (e1.set i .un) [i]).set i (.val d) = e1.set i (.val d) := by simp [wipeD]
    rw [e2]
    refine hel d (List.mem_of_getElem? hd) _ fun s hs => ⟨f d, hs, map_take_succ f hd, by simp [wipeD]⟩
  · subst ha he
    rw [List.take_length, show wipeD (e1.set i .un) [i] = e1.set i .un from by simp [wipeD]]
    exact hq
/-- .. whose parts may change the slots within what fin says, each item giving something that P allows -/
theorem lc_rel {id : ID} {i : Nat} {td : ED} {env : Env} {Q : Sl → Env → Prop} {X : XD} (ds : List PyData) (P : PyData → Prop) (fin : Env → Prop) (e1 : Env)
    (hid : ∀ R : List PyData → Env → Prop, R ds e1 → id env R X) (hf : fin (e1.set i .un))
    (hel : ∀ d ∈ ds, ∀ e, fin e → ∀ R : Sl → Env → Prop, (∀ s y e', frz s = some y → P y → fin (e'.set i .un) → R s e') → td ((e.set i .un).set i (.val d)) R NoX)
    (hq : ∀ ys e, ys.length = ds.length → (∀ y ∈ ys, P y) → fin e → Q (.own (.lst ys)) (e.set i .un)) : dLc id (gN i) bYes td [i] env Q X := by
  refine hid _ ⟨fun k acc e => acc.length = k ∧ (∀ y ∈ acc, P y) ∧ fin e, ⟨rfl, by simp, hf⟩, fun k acc e d hd _ ⟨ha, hP, he⟩ => ?_, fun acc e _ ⟨ha, hP, he⟩ => hq acc e ha hP he⟩
  show td ((wipeD e [i]).set i (.val d)) _ NoX
  refine hel d (List.mem_of_getElem? hd) e he _ fun s y e' hs hy he' => ⟨y, hs, by simp [ha], fun z hz => ?_, he'⟩
  rcases List.mem_append.mp hz with hz | hz
  · exact hP z hz
  · rw [List.mem_singleton.mp hz]; exact hy
theorem range_mem {lo : Int} {n : Nat} {d : PyData} (h : d ∈ rangeD lo n) : ∃ k : Nat, k < n ∧ d = .int (lo + k) := by
  simp only [rangeD, List.mem_map, List.mem_range] at h
  obtain ⟨k, hk, rfl⟩ := h
  exact ⟨k, hk, rfl⟩
end PD
namespace PD
open PySem L2 PySem.Spec PyProof.Rows
theorem okF {P : Program} {w : World} {K : PySem.W.Frag} {mg : Str → Option Value} {base : Heap} {x : Str} {st : Stmt} {a : Addr} {fd : FuncData} {N ps : List Str} {k : Nat} {sp : SpD} (F : Fun K x x st a fd) (S : FnScope N ps (defScope st)) (hNp : ps.length ≤ N.length)
    (len : ∀ as Q X, sp as Q X → as.length = ps.length) {sd : SD}
    (hbody : ∀ (f : Addr) (cdv : Value) (A : Around) (outer : List PySem.Env) (s : Shared) (H : Hp) (E : XK), Room k (A.deeper (envOfC x (defScope st) s.heap.objs.size f cdv)) → A.guards = some [] →
      ∃ ts, PSsd (cxOf (L2.CX P w) P w K mg base N x (defScope st) f cdv A outer s H E) (fun cls d _ H => E cls d H) (defBody st) ts sd)
    (hd : ∀ as Q X, sp as Q X → sd { nx := fun e => IoIn as e ∧ Q (.val .none) (e.take ps.length), rt := fun s e => okRes s ∧ IoIn as e ∧ Q s (e.take ps.length), ex := fun C f d e => IoIn as e ∧ X C f d (e.take ps.length) } (as ++ List.replicate (N.length - as.length) .un)) :
    FnG P w K mg base (k + 1) a fd ps (SpOf K sp) :=
  fnD F S hNp len fun cdv A outer s H E hr hg => by
    obtain ⟨ts, D⟩ := hbody a cdv A outer s H E hr hg
    exact ⟨ts, sd, D, hd⟩
/-- a value of the module that stands written -/
theorem con_mk {K : PySem.W.Frag} {h : Heap} {mg : Str → Option Value} {x : Str} {u : Value} {v : V} (X : K.In h) (G : h.Ns mainGlobals mg) (a : PySem.W.nsIn K mainGlobals x = some (some u)) (r : RelV v u) : ∃ u, mg x = some u ∧ RelV v u := ⟨u, PySem.W.mg_of X G a, r⟩
theorem def_mk {K : PySem.W.Frag} {h : Heap} {mg : Str → Option Value} {x : Str} {st : Stmt} {f : Addr} {oc : Value} {od an : Option Addr} {osl : Array (Option Value)} {kV doc pm cdv ct : Value} (X : K.In h) (G : h.Ns mainGlobals mg) (a : PySem.W.nsIn K mainGlobals x = some (some (.ref f)))
    (l : K.lookup f = some ⟨oc, od, .func (PySem.W.fnOf x x (defArgs st) (defBody st) (defScope st) .none kV doc pm an cdv ct), osl⟩) (c : PySem.W.codeIn K cdv x = true) (k : PySem.W.keepIn K (.ref f) = true) : Def K mg x st :=
  ⟨f, _, fun_mk l c k, PySem.W.mg_of X G a⟩
theorem exm_self {K : PySem.W.Frag} {S : Addr} (h1 : PySem.W.subIn K (.ref S) (.type "BaseException") = some true) (h2 : PySem.W.isClsIn K S = true) (h3 : PySem.W.typeIn K (.ref S) = some (.type "type")) (h4 : PySem.W.subIn K (.ref S) (.ref S) = some true) :
    PySem.W.exmOne K (.ref S) (.ref S) = some true := by
  have e1 : (PySem.W.subIn K (.ref S) (.type "BaseException") == some true) = true := by rw [h1] <;> rfl
  have e2 : ((PySem.W.clsIn K S).isSome && PySem.W.typeIn K (.ref S) == some (.type "type")) = true := by
    have h2' : (PySem.W.clsIn K S).isSome = true := h2
    rw [h2', h3] <;> rfl
  show (if (PySem.W.subIn K (.ref S) (.type "BaseException") == some true) = true then (if ((PySem.W.clsIn K S).isSome && PySem.W.typeIn K (.ref S) == some (.type "type")) = true then PySem.W.subIn K (.ref S) (.ref S) else none) else none) = some true
  rw [if_pos e1, if_pos e2]
  exact h4
end PD
namespace K35
open PySem L2 PySem.Spec PyProof.Rows PD
/-! ### what the defs compute -/
def potOk (a b : Int) : Prop := 0 ≤ a ∧ 0 ≤ b ∧ b ≤ 2147483600
abbrev potS (a b : Int) : Sl := .io 0 (.lst [.int a, .int b])
def iDs (ns : List Int) : List PyData := ns.map .int
def inD (ns : List Int) (rs : List (List Int)) : PyData := .tuple [.tuple (iDs ns), .tuple (rs.map fun r => .tuple (iDs r))]
def inL (ns : List Int) (rs : List (List Int)) : PyData := .tuple [.list (iDs ns), .list (rs.map fun r => .list (iDs r))]
def small (ns : List Int) : Prop := ns.length ≤ 40 ∧ ∀ n ∈ ns, n.natAbs ≤ 1000000000000000000
def Good (ns : List Int) (rs : List (List Int)) : Prop := ns.length ≤ 5 ∧ small ns ∧ rs.length ≤ 3 ∧ ∀ r ∈ rs, small r
def numT (n : Int) : Str := toString n
def rowT (ns : List Int) : Str := if ns.length > 0 then Txt.join " " (ns.map numT) else "-"
def inT (ns : List Int) (rs : List (List Int)) : Str := Txt.join "; " (rowT ns :: rs.map rowT)
def figs (w : Str) : Str := if cutS w none (some 1) = "-" then cutS w (some 1) none else w
def isFig (c : Nat) : Bool := decide (c ∈ ("0123456789" : Str).cps.toList)
def figsOk (w : Str) : Bool := decide (1 ≤ (figs w).length ∧ (figs w).length ≤ 19) && (figs w).cps.toList.all isFig
def readW (w : Str) : Option Int := if figsOk w then (PySem.intText? w).bind fun n => if (toString n : Str) = w ∧ n.natAbs ≤ 1000000000000000000 then some n else none else none
def figV (cs : List Nat) : Int := cs.foldl (fun (n : Int) (c : Nat) => n * 10 + ((c : Int) - 48)) 0
def lawW (w : Str) : Option Int := if figsOk w then (if (figs w).cps.toList.head? = some 48 ∧ w ≠ "0" then none else if figV (figs w).cps.toList > 1000000000000000000 then none else some (if cutS w none (some 1) = "-" then 0 - figV (figs w).cps.toList else figV (figs w).cps.toList)) else none
def optI : Option Int → PyData
  | none => .none
  | some n => .int n
def optT : Option (List Int) → PyData
  | none => .none
  | some ns => .tuple (iDs ns)
def allS (l : List (Option Int)) : Option (List Int) := l.foldr (fun o r => o.bind fun n => r.map (n :: ·)) (some [])
def partBy (rd : Str → Option Int) (p : Str) : Option (List Int) := if p = "-" then some [] else allS ((Txt.split p " ").map rd)
def okI (rd : Str → Option Int) (numbers rows : Int) (i : Nat) (p : Str) : Option (List Int) := (partBy rd p).bind fun l => if (i : Int) ≤ rows ∧ (if i = 0 then (l.length : Int) = numbers else l.length ≤ 40) then some l else none
def scan (f : Nat → Str → Option (List Int)) : Nat → List Str → Nat ⊕ List (List Int)
  | _, [] => .inr []
  | i, p :: ps => match f i p with
    | none => .inl i
    | some l => match scan f (i + 1) ps with
      | .inl j => .inl j
      | .inr ls => .inr (l :: ls)
def due (rd : Str → Option Int) (text : Str) (numbers rows : Int) : Nat ⊕ List (List Int) := match scan (okI rd numbers rows) 0 (Txt.split text "; ") with
  | .inl i => .inl i
  | .inr ls => if (ls.length : Int) = rows + 1 then .inr ls else .inl ls.length
def lsD (ls : List (List Int)) : PyData := .tuple [.tuple (iDs ls.head!), .tuple (ls.tail.map fun r => .tuple (iDs r))]
def toldD : Nat ⊕ List (List Int) → PyData
  | .inl i => .list [.str "bad", .int i]
  | .inr ls => .list [.str "told", lsD ls]
def isS : PyData → Bool
  | .str _ => true
  | _ => false
/-! ### the promises -/
def sp_number_text : SpD := fun as Q X => ∃ n : Int, as = [.val (.int n)] ∧ n.natAbs ≤ 1000000000000000000 ∧ Q (.val (.str (numT n))) as
def sp_numbers_text : SpD := fun as Q X => ∃ (ns : List Int) (d : PyData), as = [.val d] ∧ (d = .tuple (iDs ns) ∨ d = .list (iDs ns)) ∧ small ns ∧ Q (.val (.str (rowT ns))) as
def sp_inputs_text : SpD := fun as Q X => ∃ (ns : List Int) (rs : List (List Int)) (d : PyData), as = [.val d] ∧ (d = inD ns rs ∨ d = inL ns rs) ∧ Good ns rs ∧ Q (.val (.str (inT ns rs))) as
def sp_number_read : SpD := fun as Q X => ∃ w : Str, as = [.val (.str w)] ∧ w.length ≤ 10000 ∧ Q (.val (optI (readW w))) as
def sp_numbers_read : SpD := fun as Q X => ∃ (p : Str) (m : Int), as = [.val (.str p), .val (.int m)] ∧ p.length ≤ 10000 ∧ 0 ≤ m ∧ Q (.val (optT ((partBy readW p).bind fun l => if (l.length : Int) ≤ m then some l else none))) as
def sp_inputs_read (C : Addr) : SpD := fun as Q X => ∃ (d : PyData) (n r : Int), as = [.val d, .val (.int n), .val (.int r)] ∧ ((∃ t : Str, d = .str t ∧ t.length ≤ 10000 ∧ 0 ≤ n ∧ 0 ≤ r ∧
    (∀ i, due readW t n r = .inl i → X C "position" (.int i) as) ∧ ∀ ls, due readW t n r = .inr ls → Q (.val (lsD ls)) as) ∨ (isS d = false ∧ X C "position" .none as))
def sp__law_pot : SpD := fun as Q X => ∃ (ns : List Int) (k : Int), as = [.val (.list (iDs ns)), .val (.int k)] ∧ ns.length ≤ 63 ∧ 0 ≤ k ∧ k ≤ 100 ∧ ∀ a b, potOk a b → Q (.own (.lst [.int a, .int b])) as
def sp__law_draw : SpD := fun as Q X => ∃ a b many : Int, as = [potS a b, .val (.int many)] ∧ potOk a b ∧ 0 < many ∧ many < 1073741824 ∧ ∀ a' b' d, potOk a' b' → 0 ≤ d → d < many → Q (.val (.int d)) [potS a' b', .val (.int many)]
def sp__law_pick : SpD := fun as Q X => ∃ (a b : Int) (ds : List PyData), as = [potS a b, .val (.list ds)] ∧ potOk a b ∧ 0 < ds.length ∧ ds.length < 1000000 ∧ ∀ a' b' d, potOk a' b' → d ∈ ds → Q (.val d) [potS a' b', .val (.list ds)]
def sp__law_number : SpD := fun as Q X => ∃ a b : Int, as = [potS a b] ∧ potOk a b ∧ ∀ a' b' n, potOk a' b' → n.natAbs ≤ 1000000000000000000 → Q (.val (.int n)) [potS a' b']
def sp__law_inputs : SpD := fun as Q X => ∃ a b : Int, as = [potS a b] ∧ potOk a b ∧ ∀ a' b' ns rs, potOk a' b' → Good ns rs → Q (.val (inD ns rs)) [potS a' b']
def sp__law_word : SpD := fun as Q X => ∃ w : Str, as = [.val (.str w)] ∧ w.length ≤ 10000 ∧ Q (.val (optI (lawW w))) as
def sp__law_part : SpD := fun as Q X => ∃ p : Str, as = [.val (.str p)] ∧ p.length ≤ 10000 ∧ Q (.val (optT (partBy lawW p))) as
def sp__law_due : SpD := fun as Q X => ∃ (t : Str) (n r : Int), as = [.val (.str t), .val (.int n), .val (.int r)] ∧ t.length ≤ 10000 ∧ 0 ≤ n ∧ n ≤ 40 ∧ 0 ≤ r ∧ ∀ s, frz s = some (toldD (due lawW t n r)) → okRes s → Q s as
def sp__law_heard : SpD := fun as Q X => ∃ (d : PyData) (n r : Int), as = [.val d, .val (.int n), .val (.int r)] ∧ ((∃ t : Str, d = .str t ∧ t.length ≤ 10000 ∧ 0 ≤ n ∧ 0 ≤ r ∧ Q (.val (toldD (due readW t n r))) as) ∨ (isS d = false ∧ Q (.val (.list [.str "bad", .none])) as))
def sp__law_written : SpD := fun as Q X => ∃ (ns : List Int) (rs : List (List Int)), as = [.val (inD ns rs)] ∧ Good ns rs ∧ Q (.val (.str (inT ns rs))) as
def sp__law_bent : SpD := fun as Q X => ∃ (a b : Int) (t : Str), as = [potS a b, .val (.str t)] ∧ potOk a b ∧ t.length ≤ 3000000 ∧ ∀ a' b' t', potOk a' b' → t'.length ≤ 2 * t.length + 200 → Q (.val (.str t')) [potS a' b', .val (.str t)]
def sp__law_right : SpD := fun as Q X => ∃ a b : Int, as = [potS a b] ∧ potOk a b ∧ ∀ a' b', potOk a' b' → Q (.val (.bool true)) [potS a' b']
def sp_law : SpD := fun as Q X => ∃ ns : List Int, as = [.val (.list (iDs ns))] ∧ ns.length ≤ 63 ∧ Q (.val (.bool true)) as
theorem len_number_text {as Q X} (h : sp_number_text as Q X) : as.length = 1 := by obtain ⟨_, rfl, _⟩ := h; rfl
theorem len_numbers_text {as Q X} (h : sp_numbers_text as Q X) : as.length = 1 := by obtain ⟨_, _, rfl, _⟩ := h; rfl
theorem len_inputs_text {as Q X} (h : sp_inputs_text as Q X) : as.length = 1 := by obtain ⟨_, _, _, rfl, _⟩ := h; rfl
theorem len_number_read {as Q X} (h : sp_number_read as Q X) : as.length = 1 := by obtain ⟨_, rfl, _⟩ := h; rfl
theorem len_numbers_read {as Q X} (h : sp_numbers_read as Q X) : as.length = 2 := by obtain ⟨_, _, rfl, _⟩ := h; rfl
theorem len_inputs_read {C as Q X} (h : sp_inputs_read C as Q X) : as.length = 3 := by obtain ⟨_, _, _, rfl, _⟩ := h; rfl
theorem len__law_pot {as Q X} (h : sp__law_pot as Q X) : as.length = 2 := by obtain ⟨_, _, rfl, _⟩ := h; rfl
theorem len__law_draw {as Q X} (h : sp__law_draw as Q X) : as.length = 2 := by obtain ⟨_, _, _, rfl, _⟩ := h; rfl
theorem len__law_pick {as Q X} (h : sp__law_pick as Q X) : as.length = 2 := by obtain ⟨_, _, _, rfl, _⟩ := h; rfl
theorem len__law_number {as Q X} (h : sp__law_number as Q X) : as.length = 1 := by obtain ⟨_, _, rfl, _⟩ := h; rfl
theorem len__law_inputs {as Q X} (h : sp__law_inputs as Q X) : as.length = 1 := by obtain ⟨_, _, rfl, _⟩ := h; rfl
theorem len__law_word {as Q X} (h : sp__law_word as Q X) : as.length = 1 := by obtain ⟨_, rfl, _⟩ := h; rfl
theorem len__law_part {as Q X} (h : sp__law_part as Q X) : as.length = 1 := by obtain ⟨_, rfl, _⟩ := h; rfl
theorem len__law_due {as Q X} (h : sp__law_due as Q X) : as.length = 3 := by obtain ⟨_, _, _, rfl, _⟩ := h; rfl
theorem len__law_heard {as Q X} (h : sp__law_heard as Q X) : as.length = 3 := by obtain ⟨_, _, _, rfl, _⟩ := h; rfl
theorem len__law_written {as Q X} (h : sp__law_written as Q X) : as.length = 1 := by obtain ⟨_, _, rfl, _⟩ := h; rfl
theorem len__law_bent {as Q X} (h : sp__law_bent as Q X) : as.length = 2 := by obtain ⟨_, _, _, rfl, _⟩ := h; rfl
theorem len__law_right {as Q X} (h : sp__law_right as Q X) : as.length = 1 := by obtain ⟨_, _, rfl, _⟩ := h; rfl
theorem len_law {as Q X} (h : sp_law as Q X) : as.length = 1 := by obtain ⟨_, rfl, _⟩ := h; rfl
/-! ### the defs and their readings on data -/
def top (i : Nat) : Stmt := PySem.Challenge.pw_boundcode_k35_whole_any_text_as_inputs.main.body.getD i (.Pass ⟨0, 0, 0, 0⟩)
abbrev s_number_text : Stmt := top 9
abbrev N_number_text : List Str := ["number"]
def sd_number_text : SD :=
  (sRet (dFn (fn1 fStr) (aCons (oS 0) aNil)))
abbrev s_numbers_text : Stmt := top 10
abbrev N_numbers_text : List Str := ["numbers", "one"]
def sd_numbers_text : SD :=
  (sRet (dIfE (bV (dOp fGt (oV (dFn (fn1 fLen) (aCons (oS 0) aNil))) (oV (dC (.int 0))))) (dM1 fJoin (oV (dC (.str " "))) (oV (dLc (iAny (oV (dVar 0))) (gN 1) bYes (dCall sp_number_text (aCons (oV (dVar 1)) aNil)) [1]))) (dC (.str "-"))))
abbrev s_inputs_text : Stmt := top 11
abbrev N_inputs_text : List Str := ["inputs", "row"]
def sd_inputs_text : SD :=
  (sRet (dM1 fJoin (oV (dC (.str "; "))) (oV (dOp fAdd (oV (dLst (aCons (oV (dCall sp_numbers_text (aCons (oV (dOp fIx (oS 0) (oV (dC (.int 0))))) aNil))) aNil))) (oV (dLc (iAny (oV (dOp fIx (oS 0) (oV (dC (.int 1)))))) (gN 1) bYes (dCall sp_numbers_text (aCons (oV (dVar 1)) aNil)) [1]))))))
abbrev s_number_read : Stmt := top 12
abbrev N_number_read : List Str := ["word", "figures", "found", "sign"]
def sd_number_read : SD :=
  (sSeq (sAsg (dIfE (bV (dOp fEq (oV (dSl (oS 0) qNo (qSm (oV (dC (.int 1)))))) (oV (dC (.str "-"))))) (dSl (oS 0) (qSm (oV (dC (.int 1)))) qNo) (dVar 0)) (gN 1))
  (sSeq (sIf (bOr (bNot (bV (dChain fLe fLe (oV (dC (.int 1))) (oV (dFn (fn1 fLen) (aCons (oS 1) aNil))) (oV (dC (.int 19)))))) (bNot (bV (dFn (fn1 fAll) (aCons (oV (dLc (iAny (oV (dVar 1))) (gN 3) bYes (dOp fIn (oS 3) (oV (dC (.str "0123456789")))) [3])) aNil))))) (sRet (dC .none)) sNext)
  (sSeq (sAsg (dFn (fn1 fInt) (aCons (oS 0) aNil)) (gN 2))
  (sRet (dIfE (bAnd (bV (dOp fEq (oV (dFn (fn1 fStr) (aCons (oS 2) aNil))) (oS 0))) (bV (dOp fLe (oV (dFn (fn1 fAbs) (aCons (oS 2) aNil))) (oV (dC (.int 1000000000000000000)))))) (dVar 2) (dC .none))))))
abbrev s_numbers_read : Stmt := top 13
abbrev N_numbers_read : List Str := ["part", "most", "found", "word"]
def sd_numbers_read : SD :=
  (sSeq (sIf (bV (dOp fEq (oS 0) (oV (dC (.str "-"))))) (sRet (dTup aNil)) sNext)
  (sSeq (sAsg (dFn (fn1 fTup) (aCons (oV (dLc (iAny (oV (dM1 fSplit (oS 0) (oV (dC (.str " ")))))) (gN 3) bYes (dCall sp_number_read (aCons (oV (dVar 3)) aNil)) [3])) aNil)) (gN 2))
  (sRet (dIfE (bOr (bV (dOp fIn (oV (dC .none)) (oS 2))) (bV (dOp fGt (oV (dFn (fn1 fLen) (aCons (oS 2) aNil))) (oS 1)))) (dC .none) (dVar 2)))))
abbrev s_inputs_read : Stmt := top 14
abbrev N_inputs_read : List Str := ["text", "numbers", "rows", "parts", "found", "at", "part", "told"]
def sd_inputs_read (C : Addr) : SD :=
  (sSeq (sIf (bNot (bV (dIsi "str" (oS 0)))) (sRaise C "position" (oV (dC .none))) sNext)
  (sSeq (sAsg (dM1 fSplit (oS 0) (oV (dC (.str "; ")))) (gN 3))
  (sSeq (sAsg (dLst aNil) (gN 4))
  (sSeq (sFor (iEnD (aCons (oV (dVar 3)) aNil)) (gT 2 (gsCons (gN 5) (gsCons (gN 6) gsNil))) (sSeq (sAsg (dCall sp_numbers_read (aCons (oV (dVar 6)) (aCons (oV (dIfE (bV (dOp fEq (oS 5) (oV (dC (.int 0))))) (dVar 1) (dC (.int 40)))) aNil))) (gN 7))
  (sSeq (sIf (bOr (bV (dOp fIs (oS 7) (oV (dC .none)))) (bOr (bV (dOp fGt (oS 5) (oS 2))) (bAnd (bV (dOp fEq (oS 5) (oV (dC (.int 0))))) (bV (dOp fNe (oV (dFn (fn1 fLen) (aCons (oS 7) aNil))) (oS 1)))))) (sRaise C "position" (oV (dVar 5))) sNext)
  (sDrop (dApp 4 (dVar 7))))))
  (sSeq (sIf (bV (dOp fNe (oV (dFn (fn1 fLen) (aCons (oS 4) aNil))) (oV (dOp fAdd (oS 2) (oV (dC (.int 1))))))) (sRaise C "position" (oV (dFn (fn1 fLen) (aCons (oS 4) aNil)))) sNext)
  (sRet (dTup (aCons (oV (dOp fIx (oS 4) (oV (dC (.int 0))))) (aCons (oV (dFn (fn1 fTup) (aCons (oV (dSl (oS 4) (qSm (oV (dC (.int 1)))) qNo)) aNil))) aNil)))))))))
abbrev s__law_pot : Stmt := top 16
abbrev N__law_pot : List Str := ["script", "k", "cell"]
def sd__law_pot : SD :=
  (sSeq (sAsg (dIfE (bV (dOp fLt (oS 1) (oV (dFn (fn1 fLen) (aCons (oS 0) aNil))))) (dFn (fn1 fAbs) (aCons (oV (dOp fIx (oS 0) (oS 1))) aNil)) (dOp fAdd (oV (dOp fMul (oV (dC (.int 3163))) (oS 1))) (oV (dC (.int 181))))) (gN 2))
  (sRet (dLst (aCons (oV (dFn (fn2 fMax) (aCons (oV (dC (.int 0))) (aCons (oV (dOp fSub (oS 2) (oV (dOp fPow (oV (dC (.int 10))) (oV (dC (.int 18))))))) aNil)))) (aCons (oV (dOp fAdd (oV (dOp fMod (oV (dFn (fn1 fInt) (aCons (oV (dOp fAdd (oV (dOp fAdd (oV (dOp fMul (oV (dOp fMod (oV (dFn (fn1 fInt) (aCons (oS 2) aNil))) (oV (dC (.int 2147483549))))) (oV (dC (.int 40692))))) (oV (dOp fMul (oV (dC (.int 6329))) (oS 1))))) (oV (dC (.int 1019))))) aNil))) (oV (dC (.int 2147483563))))) (oV (dC (.int 1))))) aNil)))))
abbrev s__law_draw : Stmt := top 17
abbrev N__law_draw : List Str := ["pot", "many", "digit"]
def sd__law_draw : SD :=
  (sSeq (sIf (bV (dOp fGt (oV (dOp fIx (oS 0) (oV (dC (.int 0))))) (oV (dC (.int 0))))) (sSeq (sAsg (dFn (fn2 fDvm) (aCons (oV (dOp fIx (oS 0) (oV (dC (.int 0))))) (aCons (oS 1) aNil))) (gT 2 (gsCons (gSet 0 (oV (dC (.int 0)))) (gsCons (gN 2) gsNil))))
  (sRet (dVar 2))) sNext)
  (sSeq (sAsg (dOp fMod (oV (dFn (fn1 fInt) (aCons (oV (dOp fAdd (oV (dOp fMul (oV (dOp fIx (oS 0) (oV (dC (.int 1))))) (oV (dC (.int 39373))))) (oV (dC (.int 6329))))) aNil))) (oV (dC (.int 2147483587)))) (gSet 0 (oV (dC (.int 1)))))
  (sRet (dOp fMod (oV (dFn (fn1 fInt) (aCons (oV (dOp fDiv (oV (dOp fMod (oV (dFn (fn1 fInt) (aCons (oV (dOp fMul (oV (dOp fIx (oS 0) (oV (dC (.int 1))))) (oV (dOp fIx (oS 0) (oV (dC (.int 1))))))) aNil))) (oV (dC (.int 2147483549))))) (oV (dC (.int 233))))) aNil))) (oS 1)))))
abbrev s__law_pick : Stmt := top 18
abbrev N__law_pick : List Str := ["pot", "some"]
def sd__law_pick : SD :=
  (sRet (dOp fIx (oS 1) (oV (dCall sp__law_draw (aCons (oS 0) (aCons (oV (dFn (fn1 fLen) (aCons (oS 1) aNil))) aNil))))))
abbrev s__law_number : Stmt := top 19
abbrev N__law_number : List Str := ["pot"]
def sd__law_number : SD :=
  (sRet (dCall sp__law_pick (aCons (oS 0) (aCons (oV (dLst (aCons (oV (dC (.int 0))) (aCons (oV (dC (.int 1))) (aCons (oV (dNeg (oV (dC (.int 1))))) (aCons (oV (dC (.int 7))) (aCons (oV (dC (.int 10))) (aCons (oV (dNeg (oV (dC (.int 30))))) (aCons (oV (dOp fPow (oV (dC (.int 10))) (oV (dC (.int 18))))) (aCons (oV (dOp fSub (oV (dC (.int 0))) (oV (dOp fPow (oV (dC (.int 10))) (oV (dC (.int 18))))))) (aCons (oV (dOp fSub (oV (dOp fPow (oV (dC (.int 10))) (oV (dC (.int 18))))) (oV (dC (.int 1))))) (aCons (oV (dOp fSub (oV (dCall sp__law_draw (aCons (oS 0) (aCons (oV (dC (.int 2001))) aNil)))) (oV (dC (.int 1000))))) aNil)))))))))))) aNil))))
abbrev s__law_inputs : Stmt := top 20
abbrev N__law_inputs : List Str := ["pot", "rows", "many", "turn", "size", "at"]
def sd__law_inputs : SD :=
  (sSeq (sPar 1 2 (dLst aNil) (dCall sp__law_draw (aCons (oS 0) (aCons (oV (dC (.int 6))) aNil))))
  (sSeq (sFor (iRg1 (aCons (oV (dCall sp__law_draw (aCons (oS 0) (aCons (oV (dC (.int 4))) aNil)))) aNil)) (gN 3) (sSeq (sAsg (dCall sp__law_pick (aCons (oS 0) (aCons (oV (dLst (aCons (oV (dC (.int 0))) (aCons (oV (dC (.int 1))) (aCons (oV (dC (.int 2))) (aCons (oV (dC (.int 3))) (aCons (oV (dC (.int 39))) (aCons (oV (dC (.int 40))) aNil)))))))) aNil))) (gN 4))
  (sDrop (dApp 1 (dIfE (bAnd (bV (dOp fNe (oS 1) (oV (dLst aNil)))) (bV (dOp fEq (oV (dCall sp__law_draw (aCons (oS 0) (aCons (oV (dC (.int 3))) aNil)))) (oV (dC (.int 0)))))) (dOp fIx (oS 1) (oV (dNeg (oV (dC (.int 1)))))) (dFn (fn1 fTup) (aCons (oV (dLc (iRg1 (aCons (oS 4) aNil)) (gN 5) bYes (dCall sp__law_number (aCons (oS 0) aNil)) [5])) aNil)))))))
  (sRet (dTup (aCons (oV (dFn (fn1 fTup) (aCons (oV (dLc (iRg1 (aCons (oS 2) aNil)) (gN 5) bYes (dCall sp__law_number (aCons (oS 0) aNil)) [5])) aNil))) (aCons (oV (dFn (fn1 fTup) (aCons (oS 1) aNil))) aNil))))))
abbrev s__law_word : Stmt := top 21
abbrev N__law_word : List Str := ["word", "figures", "number", "sign"]
def sd__law_word : SD :=
  (sSeq (sAsg (dIfE (bV (dOp fEq (oV (dSl (oS 0) qNo (qSm (oV (dC (.int 1)))))) (oV (dC (.str "-"))))) (dSl (oS 0) (qSm (oV (dC (.int 1)))) qNo) (dVar 0)) (gN 1))
  (sSeq (sIf (bOr (bNot (bV (dChain fLe fLe (oV (dC (.int 1))) (oV (dFn (fn1 fLen) (aCons (oS 1) aNil))) (oV (dC (.int 19)))))) (bNot (bV (dFn (fn1 fAll) (aCons (oV (dLc (iAny (oV (dVar 1))) (gN 3) bYes (dOp fIn (oS 3) (oV (dC (.str "0123456789")))) [3])) aNil))))) (sRet (dC .none)) sNext)
  (sSeq (sIf (bAnd (bV (dOp fEq (oV (dOp fIx (oS 1) (oV (dC (.int 0))))) (oV (dC (.str "0"))))) (bV (dOp fNe (oS 0) (oV (dC (.str "0")))))) (sRet (dC .none)) sNext)
  (sSeq (sAsg (dC (.int 0)) (gN 2))
  (sSeq (sFor (iAny (oV (dVar 1))) (gN 3) (sAsg (dOp fAdd (oV (dOp fMul (oS 2) (oV (dC (.int 10))))) (oV (dM1 fIndex (oV (dC (.str "0123456789"))) (oS 3)))) (gN 2)))
  (sRet (dIfE (bV (dOp fGt (oS 2) (oV (dOp fPow (oV (dC (.int 10))) (oV (dC (.int 18))))))) (dC .none) (dIfE (bV (dOp fEq (oV (dSl (oS 0) qNo (qSm (oV (dC (.int 1)))))) (oV (dC (.str "-"))))) (dOp fSub (oV (dC (.int 0))) (oS 2)) (dVar 2)))))))))
abbrev s__law_part : Stmt := top 22
abbrev N__law_part : List Str := ["part", "found", "word"]
def sd__law_part : SD :=
  (sSeq (sIf (bV (dOp fEq (oS 0) (oV (dC (.str "-"))))) (sRet (dTup aNil)) sNext)
  (sSeq (sAsg (dFn (fn1 fTup) (aCons (oV (dLc (iAny (oV (dM1 fSplit (oS 0) (oV (dC (.str " ")))))) (gN 2) bYes (dCall sp__law_word (aCons (oV (dVar 2)) aNil)) [2])) aNil)) (gN 1))
  (sRet (dIfE (bV (dOp fIn (oV (dC .none)) (oS 1))) (dC .none) (dVar 1)))))
abbrev s__law_due : Stmt := top 23
abbrev N__law_due : List Str := ["text", "numbers", "rows", "parts", "found", "at", "part", "told"]
def sd__law_due : SD :=
  (sSeq (sPar 3 4 (dM1 fSplit (oS 0) (oV (dC (.str "; ")))) (dLst aNil))
  (sSeq (sFor (iEnD (aCons (oV (dVar 3)) aNil)) (gT 2 (gsCons (gN 5) (gsCons (gN 6) gsNil))) (sSeq (sAsg (dCall sp__law_part (aCons (oV (dVar 6)) aNil)) (gN 7))
  (sSeq (sIf (bOr (bV (dOp fIs (oS 7) (oV (dC .none)))) (bOr (bV (dOp fGt (oS 5) (oS 2))) (bOr (bAnd (bV (dOp fNe (oV (dFn (fn1 fLen) (aCons (oS 7) aNil))) (oS 1))) (bV (dOp fEq (oS 5) (oV (dC (.int 0)))))) (bV (dOp fGt (oV (dFn (fn1 fLen) (aCons (oS 7) aNil))) (oV (dC (.int 40)))))))) (sRet (dLst (aCons (oV (dC (.str "bad"))) (aCons (oV (dVar 5)) aNil)))) sNext)
  (sDrop (dApp 4 (dVar 7))))))
  (sRet (dIfE (bV (dOp fEq (oV (dFn (fn1 fLen) (aCons (oS 3) aNil))) (oV (dOp fAdd (oS 2) (oV (dC (.int 1))))))) (dLst (aCons (oV (dC (.str "told"))) (aCons (oV (dTup (aCons (oV (dOp fIx (oS 4) (oV (dC (.int 0))))) (aCons (oV (dFn (fn1 fTup) (aCons (oV (dSl (oS 4) (qSm (oV (dC (.int 1)))) qNo)) aNil))) aNil)))) aNil))) (dLst (aCons (oV (dC (.str "bad"))) (aCons (oV (dFn (fn1 fLen) (aCons (oS 3) aNil))) aNil)))))))
abbrev s__law_heard : Stmt := top 24
abbrev N__law_heard : List Str := ["text", "numbers", "rows", "told", "e"]
def sd__law_heard (C : Addr) : SD :=
  (sSeq (sAsg (dC .none) (gN 3))
  (sSeq (sTry C "position" 4 (sAsg (dLst (aCons (oV (dC (.str "told"))) (aCons (oV (dCall (sp_inputs_read C) (aCons (oV (dVar 0)) (aCons (oV (dVar 1)) (aCons (oV (dVar 2)) aNil))))) aNil))) (gN 3)) (sTell 4 3 "bad"))
  (sRet (dVar 3))))
abbrev s__law_written : Stmt := top 25
abbrev N__law_written : List Str := ["inputs", "parts", "some", "one"]
def sd__law_written : SD :=
  (sSeq (sAsg (dLc (iAny (oV (dOp fAdd (oV (dLst (aCons (oV (dOp fIx (oS 0) (oV (dC (.int 0))))) aNil))) (oV (dFn (fn1 fList) (aCons (oV (dOp fIx (oS 0) (oV (dC (.int 1))))) aNil)))))) (gN 2) bYes (dIfE (bV (dOp fGt (oV (dFn (fn1 fLen) (aCons (oS 2) aNil))) (oV (dC (.int 0))))) (dM1 fJoin (oV (dC (.str " "))) (oV (dLc (iAny (oV (dVar 2))) (gN 3) bYes (dFn (fn1 fStr) (aCons (oS 3) aNil)) [3]))) (dC (.str "-"))) [2]) (gN 1))
  (sRet (dM1 fJoin (oV (dC (.str "; "))) (oS 1))))
abbrev s__law_bent : Stmt := top 26
abbrev N__law_bent : List Str := ["pot", "text", "kind", "at", "parts", "spot", "words"]
def sd__law_bent : SD :=
  (sSeq (sPar 2 3 (dCall sp__law_draw (aCons (oS 0) (aCons (oV (dC (.int 9))) aNil))) (dCall sp__law_draw (aCons (oS 0) (aCons (oV (dOp fAdd (oV (dFn (fn1 fLen) (aCons (oS 1) aNil))) (oV (dC (.int 1))))) aNil))))
  (sSeq (sAsg (dM1 fSplit (oS 1) (oV (dC (.str "; ")))) (gN 4))
  (sSeq (sAsg (dCall sp__law_draw (aCons (oS 0) (aCons (oV (dFn (fn1 fLen) (aCons (oS 4) aNil))) aNil))) (gN 5))
  (sSeq (sIf (bV (dOp fEq (oS 2) (oV (dC (.int 0))))) (sRet (dM1 fJoin (oV (dC (.str "; "))) (oV (dOp fAdd (oV (dSl (oS 4) qNo (qSm (oS 5)))) (oV (dSl (oS 4) (qSm (oV (dOp fAdd (oS 5) (oV (dC (.int 1)))))) qNo)))))) sNext)
  (sSeq (sIf (bV (dOp fEq (oS 2) (oV (dC (.int 1))))) (sRet (dM1 fJoin (oV (dC (.str "; "))) (oV (dOp fAdd (oV (dOp fAdd (oV (dSl (oS 4) qNo (qSm (oS 5)))) (oV (dSl (oS 4) (qSm (oS 5)) (qSm (oV (dOp fAdd (oS 5) (oV (dC (.int 1)))))))))) (oV (dSl (oS 4) (qSm (oS 5)) qNo)))))) sNext)
  (sSeq (sIf (bV (dOp fEq (oS 2) (oV (dC (.int 2))))) (sRet (dM1 fJoin (oV (dC (.str "; "))) (oV (dOp fAdd (oV (dSl (oS 4) (qSm (oS 5)) qNo)) (oV (dSl (oS 4) qNo (qSm (oS 5)))))))) sNext)
  (sSeq (sIf (bV (dOp fEq (oS 2) (oV (dC (.int 3))))) (sRet (dOp fAdd (oV (dOp fAdd (oV (dSl (oS 1) qNo (qSm (oS 3)))) (oV (dCall sp__law_pick (aCons (oS 0) (aCons (oV (dLst (aCons (oV (dC (.str " "))) (aCons (oV (dC (.str ";"))) (aCons (oV (dC (.str "-"))) (aCons (oV (dC (.str "0"))) (aCons (oV (dC (.str "7"))) (aCons (oV (dC (.str "; "))) (aCons (oV (dC (.str "a"))) (aCons (oV (dC (.str "+"))) (aCons (oV (dC (.str "."))) (aCons (oV (dC (.str "\n"))) aNil)))))))))))) aNil)))))) (oV (dSl (oS 1) (qSm (oS 3)) qNo)))) sNext)
  (sSeq (sIf (bV (dOp fEq (oS 2) (oV (dC (.int 4))))) (sRet (dOp fAdd (oV (dSl (oS 1) qNo (qSm (oS 3)))) (oV (dSl (oS 1) (qSm (oV (dOp fAdd (oS 3) (oV (dC (.int 1)))))) qNo)))) sNext)
  (sSeq (sIf (bV (dOp fEq (oS 2) (oV (dC (.int 5))))) (sSeq (sAsg (dCall sp__law_pick (aCons (oS 0) (aCons (oV (dLst (aCons (oV (dC (.str "-0"))) (aCons (oV (dC (.str "00"))) (aCons (oV (dC (.str "07"))) (aCons (oV (dC (.str "1000000000000000001"))) (aCons (oV (dC (.str "-1000000000000000001"))) (aCons (oV (dC (.str "--1"))) (aCons (oV (dC (.str "1-"))) (aCons (oV (dC (.str ""))) (aCons (oV (dC (.str "99999999999999999999"))) aNil))))))))))) aNil))) (gN 6))
  (sRet (dM1 fJoin (oV (dC (.str "; "))) (oV (dOp fAdd (oV (dOp fAdd (oV (dSl (oS 4) qNo (qSm (oS 5)))) (oV (dLst (aCons (oV (dOp fAdd (oV (dOp fAdd (oV (dOp fIx (oS 4) (oS 5))) (oV (dC (.str " "))))) (oS 6))) aNil))))) (oV (dSl (oS 4) (qSm (oV (dOp fAdd (oS 5) (oV (dC (.int 1)))))) qNo))))))) sNext)
  (sSeq (sIf (bV (dOp fEq (oS 2) (oV (dC (.int 6))))) (sRet (dM1 fJoin (oV (dC (.str "; "))) (oV (dOp fAdd (oV (dOp fAdd (oV (dSl (oS 4) qNo (qSm (oS 5)))) (oV (dLst (aCons (oV (dM1 fJoin (oV (dC (.str " "))) (oV (dOp fMul (oV (dLst (aCons (oV (dC (.str "5"))) aNil))) (oV (dCall sp__law_pick (aCons (oS 0) (aCons (oV (dLst (aCons (oV (dC (.int 40))) (aCons (oV (dC (.int 41))) aNil)))) aNil)))))))) aNil))))) (oV (dSl (oS 4) (qSm (oV (dOp fAdd (oS 5) (oV (dC (.int 1)))))) qNo)))))) sNext)
  (sSeq (sIf (bV (dOp fEq (oS 2) (oV (dC (.int 7))))) (sRet (dM1 fJoin (oV (dC (.str "; "))) (oV (dOp fAdd (oV (dOp fAdd (oV (dSl (oS 4) qNo (qSm (oS 5)))) (oV (dLst (aCons (oV (dCall sp__law_pick (aCons (oS 0) (aCons (oV (dLst (aCons (oV (dC (.str "-"))) (aCons (oV (dC (.str ""))) (aCons (oV (dC (.str " "))) (aCons (oV (dC (.str "- -"))) (aCons (oV (dC (.str "1 -"))) aNil))))))) aNil)))) aNil))))) (oV (dSl (oS 4) (qSm (oV (dOp fAdd (oS 5) (oV (dC (.int 1)))))) qNo)))))) sNext)
  (sRet (dVar 1)))))))))))))
abbrev s__law_right : Stmt := top 27
abbrev N__law_right : List Str := ["pot", "inputs", "due", "many", "rows", "listed", "shown", "text", "turn", "near", "far", "odd", "row"]
def sd__law_right (C : Addr) : SD :=
  (sSeq (sAsg (dCall sp__law_inputs (aCons (oS 0) aNil)) (gN 1))
  (sSeq (sPar3 2 3 4 (dCall sp__law_written (aCons (oV (dVar 1)) aNil)) (dFn (fn1 fLen) (aCons (oV (dOp fIx (oS 1) (oV (dC (.int 0))))) aNil)) (dFn (fn1 fLen) (aCons (oV (dOp fIx (oS 1) (oV (dC (.int 1))))) aNil)))
  (sSeq (sAsg (dTup (aCons (oV (dFn (fn1 fList) (aCons (oV (dOp fIx (oS 1) (oV (dC (.int 0))))) aNil))) (aCons (oV (dLc (iAny (oV (dOp fIx (oS 1) (oV (dC (.int 1)))))) (gN 12) bYes (dFn (fn1 fList) (aCons (oS 12) aNil)) [12])) aNil))) (gN 5))
  (sSeq (sAsg (dFn (fn1 fRepr) (aCons (oS 5) aNil)) (gN 6))
  (sSeq (sIf (bOr (bV (dOp fNe (oV (dLst (aCons (oV (dCall sp_inputs_text (aCons (oV (dVar 1)) aNil))) (aCons (oV (dCall sp_inputs_text (aRev (aCons (oV (dVar 5)) aNil)))) aNil)))) (oV (dLst (aCons (oV (dVar 2)) (aCons (oV (dVar 2)) aNil)))))) (bV (dOp fNe (oV (dFn (fn1 fRepr) (aCons (oS 5) aNil))) (oS 6)))) (sRet (dC (.bool false))) sNext)
  (sSeq (sIf (bV (dOp fNe (oV (dFn (fn1 fRepr) (aCons (oV (dLst (aCons (oV (dCall (sp_inputs_read C) (aCons (oV (dVar 2)) (aCons (oV (dVar 3)) (aCons (oV (dVar 4)) aNil))))) (aCons (oV (dCall (sp_inputs_read C) (aRev (aCons (oV (dVar 4)) (aCons (oV (dVar 3)) (aCons (oV (dVar 2)) aNil)))))) aNil)))) aNil))) (oV (dFn (fn1 fRepr) (aCons (oV (dLst (aCons (oV (dVar 1)) (aCons (oV (dVar 1)) aNil)))) aNil))))) (sRet (dC (.bool false))) sNext)
  (sSeq (sAsg (dVar 2) (gN 7))
  (sSeq (sFor (iRg1 (aCons (oV (dC (.int 8))) aNil)) (gN 8) (sSeq (sAsg (dCall sp__law_bent (aCons (oS 0) (aCons (oV (dCall sp__law_pick (aCons (oS 0) (aCons (oV (dLst (aCons (oV (dVar 2)) (aCons (oV (dVar 2)) (aCons (oV (dVar 7)) aNil))))) aNil)))) aNil))) (gN 7))
  (sIf (bV (dOp fLt (oV (dFn (fn1 fLen) (aCons (oS 7) aNil))) (oV (dC (.int 3900))))) (sFor (iAny (oV (dLst (aCons (oV (dTup (aCons (oV (dVar 3)) (aCons (oV (dVar 4)) aNil)))) (aCons (oV (dTup (aCons (oV (dFn (fn2 fMax) (aCons (oV (dC (.int 0))) (aCons (oV (dOp fAdd (oS 3) (oV (dCall sp__law_pick (aCons (oS 0) (aCons (oV (dLst (aCons (oV (dC (.int 0))) (aCons (oV (dC (.int 1))) (aCons (oV (dNeg (oV (dC (.int 1))))) aNil))))) aNil)))))) aNil)))) (aCons (oV (dFn (fn2 fMax) (aCons (oV (dC (.int 0))) (aCons (oV (dOp fAdd (oS 4) (oV (dCall sp__law_pick (aCons (oS 0) (aCons (oV (dLst (aCons (oV (dC (.int 0))) (aCons (oV (dC (.int 1))) (aCons (oV (dNeg (oV (dC (.int 1))))) aNil))))) aNil)))))) aNil)))) aNil)))) aNil))))) (gT 2 (gsCons (gN 9) (gsCons (gN 10) gsNil))) (sIf (bV (dOp fNe (oV (dFn (fn1 fRepr) (aCons (oV (dCall sp__law_heard (aCons (oV (dVar 7)) (aCons (oV (dVar 9)) (aCons (oV (dVar 10)) aNil))))) aNil))) (oV (dFn (fn1 fRepr) (aCons (oV (dCall sp__law_due (aCons (oV (dVar 7)) (aCons (oV (dVar 9)) (aCons (oV (dVar 10)) aNil))))) aNil))))) (sRet (dC (.bool false))) sNext)) sNext)))
  (sSeq (sAsg (dCall sp__law_pick (aCons (oS 0) (aCons (oV (dLst (aCons (oV (dC .none)) (aCons (oV (dC (.int 7))) (aCons (oV (dC (.bool true))) (aCons (oV (dTup aNil)) (aCons (oV (dLst (aCons (oV (dC (.str "1"))) aNil))) (aCons (oV (dTup (aCons (oV (dC (.str "1 2"))) aNil))) (aCons (oV (dDict1 "a" 1)) aNil))))))))) aNil))) (gN 11))
  (sRet (dOp fEq (oV (dCall sp__law_heard (aCons (oV (dVar 11)) (aCons (oV (dC (.int 1))) (aCons (oV (dC (.int 0))) aNil))))) (oV (dLst (aCons (oV (dC (.str "bad"))) (aCons (oV (dC .none)) aNil)))))))))))))))
abbrev s_law : Stmt := top 28
abbrev N_law : List Str := ["script", "k"]
def sd_law (C : Addr) : SD :=
  (sRet (dFn (fn1 fAll) (aCons (oV (dLc (iRg1 (aCons (oV (dFn (fn2 fMax) (aCons (oV (dC (.int 1))) (aCons (oV (dFn (fn2 fMin) (aCons (oV (dC (.int 3))) (aCons (oV (dFn (fn1 fLen) (aCons (oS 0) aNil))) aNil)))) aNil)))) aNil)) (gN 1) bYes (dCallT sp__law_right (dCall sp__law_pot (aCons (oV (dVar 0)) (aCons (oV (dVar 1)) aNil)))) [1])) aNil)))
end K35
namespace K35
open PySem L2 PySem.Spec PyProof.Rows PD
theorem log_lt {n k : Nat} (h : n < 2 ^ k) (hk : 0 < k) : n.log2 < k := by
  by_cases h0 : n = 0
  · subst h0; simpa using hk
  · exact (Nat.log2_lt
        h0).mpr h
theorem log_small {n : Int} (h : n.natAbs ≤ 1000000000000000000) : n.natAbs.log2 < 1920 :=
  Nat.lt_trans (log_lt (k := 60) (Nat.lt_of_le_of_lt h (by decide)) (by decide)) (by decide)
theorem log_b {n : Int} (h0 : 0 ≤ n) (h : n ≤ 2147483600) : n.natAbs.log2 < 1000 :=
  Nat.lt_trans (log_lt (k := 32) (by omega) (by decide)) (by decide)
theorem data_number_text {as : List Sl} {Q : Sl → List Sl → Prop} {X : XD} (h : sp_number_text as Q X) : sd_number_text { nx := fun e => IoIn as e ∧ Q (.val .none) (e.take 1), rt := fun s e => okRes s ∧ IoIn as e ∧ Q s (e.take 1), ex := fun C f d e => IoIn as e ∧ X C f d (e.take 1) } (as ++ List.replicate (1 - as.length) .un) := by
  obtain ⟨n, rfl, hn, q⟩ := h
  have hl := log_small hn
  unfold sd_number_text
  simp only [dCall, dCallT, argsOf, argOf, slotsOf_s, slotsOf_v, slotsOf_nil, List.nodup_cons, List.nodup_nil, List.not_mem_nil, not_false_eq_true, updE, sSeq, sNext, sIf, sRet, sDrop, sAsg, sPar, sPar3, sBreak, sCont, gN, gSet, gT, gsCons, gsNil, dC, dVar, dOp, dChain, dNeg, dIfE, dAnd, dOr, dNot, dTup, dLst, dFn, dIsi, dM1, dApp, dExt, dSl, dDict1, qNo, qSm, oV, oS, aNil, aCons, aRev, bV, bAnd, bOr, bNot, bYes, iAny, iRg1, iRg2, iEnD, cont, conts, frz, valsOf, fn1, fn2, slotL, setL, fAdd_i, fSub_i, fLt_i, fLe_i, fGt_i, fGe_i, fEq_i, fEq_s, fNe_i, fNe_s, fIs_n, fNot_n, fIx_l, fIx_t, fLen_l, fLen_t, fInt_i, fSl_l, fSl_t, fMax_i, fMin_i, fAbs_i, fTup_l, fTup_t, fList_l, fList_t, wipeD, List.getElem?_cons_zero, List.getElem?_cons_succ, List.getElem?_nil, List.set_cons_zero, List.set_cons_succ, List.cons_append, List.nil_append, List.length_cons, List.length_nil, Nat.reduceAdd, Nat.reduceSub, List.replicate_succ, List.replicate_zero, List.take_succ_cons, List.take_zero, Option.bind_some, Option.bind_none, Option.map_some, Option.map_none, Option.some.injEq, Option.isSome_some, exists_eq_left', exists_eq_left, exists_and_left, List.cons.injEq, and_assoc, Sl.val.injEq, PyData.bool.injEq, PyData.int.injEq, PyData.str.injEq, PyData.list.injEq, PyData.tuple.injEq, Opn.v.injEq, true_and, and_true, decide_eq_true_eq, reduceIte, Bool.false_eq_true, if_true, if_false, isStr, Option.any_some, okRes, reduceCtorEq, Zero.zero, Nat.succ_eq_add_one, Nat.reduceLeDiff, ite_true, ite_false, Bool.not_eq_true, decide_eq_false_iff_not, fStr_i hl]
  exact ⟨ioIn_of (by simp [IoF]), q⟩
theorem data__law_draw {as : List Sl} {Q : Sl → List Sl → Prop} {X : XD} (h : sp__law_draw as Q X) : sd__law_draw { nx := fun e => IoIn as e ∧ Q (.val .none) (e.take 2), rt := fun s e => okRes s ∧ IoIn as e ∧ Q s (e.take 2), ex := fun C f d e => IoIn as e ∧ X C f d (e.take 2) } (as ++ List.replicate (3 - as.length) .un) := by
  obtain ⟨a, b, many, rfl, ⟨ha, hb, hb2⟩, hm, hm2, q⟩ := h
  unfold sd__law_draw
  have x0 : ∀ (x y : PyData), atI [x, y] 0 = some x := fun _ _ => rfl
  have x1 : ∀ (x y : PyData), atI [x, y] 1 = some y := fun _ _ => rfl
  have i0 : ixN 2 0 = some 0 := rfl
  have i1 : ixN 2 1 = some 1 := rfl
  have lb := log_b hb hb2
  have l1 : (39373 : Int).natAbs.log2 < 1000 := by decide
  have b1 : 0 ≤ (b * 39373 + 6329) % 2147483587 := Int.emod_nonneg _ (by decide)
  have b2 : (b * 39373 + 6329) % 2147483587 ≤ 2147483600 := by
    have := Int.emod_lt_of_pos (b * 39373 + 6329) (b := 2147483587) (by decide)
    omega
  have lb' := log_b b1 b2
  have f1 : fMul (.int b) (.int 39373) = some (.val (.int (b * 39373))) := fMul_i (by omega)
  have f2 := fMul_i (i := (b * 39373 + 6329) % 2147483587) (j := (b * 39373 + 6329) % 2147483587) (by omega)
  have dv : fDvm (.int a) (.int many) = some (.val (.tuple [.int (a / many), .int (a % many)])) := by
    show (if (decide (0 < many) && !Builtin.divisionGoesByPylong a many) = true then _ else _) = _
    rw [if_pos]
    rw [Bool.and_eq_true]
    exact ⟨decide_eq_true hm, by rw [PyProof.noPylong_small (by omega)]; rfl⟩
  simp only [dCall, dCallT, argsOf, argOf, slotsOf_s, slotsOf_v, slotsOf_nil, List.nodup_cons, List.nodup_nil, List.not_mem_nil, not_false_eq_true, updE, sSeq, sNext, sIf, sRet, sDrop, sAsg, sPar, sPar3, sBreak, sCont, gN, gSet, gT, gsCons, gsNil, dC, dVar, dOp, dChain, dNeg, dIfE, dAnd, dOr, dNot, dTup, dLst, dFn, dIsi, dM1, dApp, dExt, dSl, dDict1, qNo, qSm, oV, oS, aNil, aCons, aRev, bV, bAnd, bOr, bNot, bYes, iAny, iRg1, iRg2, iEnD, cont, conts, frz, valsOf, fn1, fn2, slotL, setL, fAdd_i, fSub_i, fLt_i, fLe_i, fGt_i, fGe_i, fEq_i, fEq_s, fNe_i, fNe_s, fIs_n, fNot_n, fIx_l, fIx_t, fLen_l, fLen_t, fInt_i, fSl_l, fSl_t, fMax_i, fMin_i, fAbs_i, fTup_l, fTup_t, fList_l, fList_t, wipeD, List.getElem?_cons_zero, List.getElem?_cons_succ, List.getElem?_nil, List.set_cons_zero, List.set_cons_succ, List.cons_append, List.nil_append, List.length_cons, List.length_nil, Nat.reduceAdd, Nat.reduceSub, List.replicate_succ, List.replicate_zero, List.take_succ_cons, List.take_zero, Option.bind_some, Option.bind_none, Option.map_some, Option.map_none, Option.some.injEq, Option.isSome_some, exists_eq_left', exists_eq_left, exists_and_left, List.cons.injEq, and_assoc, Sl.val.injEq, PyData.bool.injEq, PyData.int.injEq, PyData.str.injEq, PyData.list.injEq, PyData.tuple.injEq, Opn.v.injEq, true_and, and_true, decide_eq_true_eq, reduceIte, Bool.false_eq_true, if_true, if_false, isStr, Option.any_some, okRes, reduceCtorEq, Zero.zero, Nat.succ_eq_add_one, Nat.reduceLeDiff, ite_true, ite_false, Bool.not_eq_true, decide_eq_false_iff_not, x0, x1, i0, i1, f1, f2, dv, fMod_i (j := 2147483587) (by decide), fMod_i (j := 2147483549) (by decide), fDiv_i (j := 233) (by decide), fMod_i hm]
  split
  · refine ⟨ioIn_of (by simp [IoF]), q _ _ _ ⟨Int.ediv_nonneg ha (by omega), hb, hb2⟩ (Int.emod_nonneg _ (by omega)) (Int.emod_lt_of_pos _ hm)⟩
  · refine ⟨ioIn_of (by simp [IoF]), q _ _ _ ⟨ha, b1, b2⟩ (Int.emod_nonneg _ (by omega)) (Int.emod_lt_of_pos _ hm)⟩
end K35
namespace K35
open PySem L2 PySem.Spec PyProof.Rows PD
theorem p18 : fPow (.int 10) (.int 18) = some (.val (.int 1000000000000000000)) := by rw [fPow_i (by decide)]; rfl
theorem iDs_len {ns : List Int} : (iDs ns).length = ns.length := by simp [iDs]
theorem iDs_at {ns : List Int} {k : Int} (h0 : 0 ≤ k) (h : k < ns.length) : ∃ n, atI (iDs ns) k = some (.int n) := by
  have hj : k.toNat < ns.length :=
        by omega
  refine ⟨ns[k.toNat], ?_⟩
  have := atI_nat (xs := iDs ns) (j := k.toNat) (v := .int ns[k.toNat]) (by simp [iDs, hj])
  rwa [Int.toNat_of_nonneg h0] at this
theorem data__law_pick {as : List Sl} {Q : Sl → List Sl → Prop} {X : XD} (h : sp__law_pick as Q X) : sd__law_pick { nx := fun e => IoIn as e ∧ Q (.val .none) (e.take 2), rt := fun s e => okRes s ∧ IoIn as e ∧ Q s (e.take 2), ex := fun C f d e => IoIn as e ∧ X C f d (e.take 2) } (as ++ List.replicate (2 - as.length) .un) := by
  obtain ⟨a, b, ds, rfl, hp, h0, h1, q⟩ := h
  unfold sd__law_pick
  simp only [dCall, dCallT, argsOf, argOf, slotsOf_s, slotsOf_v, slotsOf_nil, List.nodup_cons, List.nodup_nil, List.not_mem_nil, not_false_eq_true, updE, sSeq, sNext, sIf, sRet, sDrop, sAsg, sPar, sPar3, sBreak, sCont, gN, gSet, gT, gsCons, gsNil, dC, dVar, dOp, dChain, dNeg, dIfE, dAnd, dOr, dNot, dTup, dLst, dFn, dIsi, dM1, dApp, dExt, dSl, dDict1, qNo, qSm, oV, oS, aNil, aCons, aRev, bV, bAnd, bOr, bNot, bYes, iAny, iRg1, iRg2, iEnD, cont, conts, frz, valsOf, fn1, fn2, slotL, setL, fAdd_i, fSub_i, fLt_i, fLe_i, fGt_i, fGe_i, fEq_i, fEq_s, fNe_i, fNe_s, fIs_n, fNot_n, fIx_l, fIx_t, fLen_l, fLen_t, fInt_i, fSl_l, fSl_t, fMax_i, fMin_i, fAbs_i, fTup_l, fTup_t, fList_l, fList_t, wipeD, List.getElem?_cons_zero, List.getElem?_cons_succ, List.getElem?_nil, List.set_cons_zero, List.set_cons_succ, List.cons_append, List.nil_append, List.length_cons, List.length_nil, Nat.reduceAdd, Nat.reduceSub, List.replicate_succ, List.replicate_zero, List.take_succ_cons, List.take_zero, Option.bind_some, Option.bind_none, Option.map_some, Option.map_none, Option.some.injEq, Option.isSome_some, exists_eq_left', exists_eq_left, exists_and_left, List.cons.injEq, and_assoc, Sl.val.injEq, PyData.bool.injEq, PyData.int.injEq, PyData.str.injEq, PyData.list.injEq, PyData.tuple.injEq, Opn.v.injEq, true_and, and_true, decide_eq_true_eq, reduceIte, Bool.false_eq_true, if_true, if_false, isStr, Option.any_some, okRes, reduceCtorEq, Zero.zero, Nat.succ_eq_add_one, Nat.reduceLeDiff, ite_true, ite_false, Bool.not_eq_true, decide_eq_false_iff_not]
  refine ⟨a, b, _, rfl, hp, by omega, by omega, fun a' b' d hp' h2 h3 => ?_⟩
  have hj : d.toNat < ds.length := by omega
  have e : atI ds d = some ds[d.toNat] := by
    have := atI_nat (xs := ds) (j := d.toNat) (List.getElem?_eq_getElem hj)
    rwa [Int.toNat_of_nonneg h2] at this
  simp only [dCall, dCallT, argsOf, argOf, slotsOf_s, slotsOf_v, slotsOf_nil, List.nodup_cons, List.nodup_nil, List.not_mem_nil, not_false_eq_true, updE, sSeq, sNext, sIf, sRet, sDrop, sAsg, sPar, sPar3, sBreak, sCont, gN, gSet, gT, gsCons, gsNil, dC, dVar, dOp, dChain, dNeg, dIfE, dAnd, dOr, dNot, dTup, dLst, dFn, dIsi, dM1, dApp, dExt, dSl, dDict1, qNo, qSm, oV, oS, aNil, aCons, aRev, bV, bAnd, bOr, bNot, bYes, iAny, iRg1, iRg2, iEnD, cont, conts, frz, valsOf, fn1, fn2, slotL, setL, fAdd_i, fSub_i, fLt_i, fLe_i, fGt_i, fGe_i, fEq_i, fEq_s, fNe_i, fNe_s, fIs_n, fNot_n, fIx_l, fIx_t, fLen_l, fLen_t, fInt_i, fSl_l, fSl_t, fMax_i, fMin_i, fAbs_i, fTup_l, fTup_t, fList_l, fList_t, wipeD, List.getElem?_cons_zero, List.getElem?_cons_succ, List.getElem?_nil, List.set_cons_zero, List.set_cons_succ, List.cons_append, List.nil_append, List.length_cons, List.length_nil, Nat.reduceAdd, Nat.reduceSub, List.replicate_succ, List.replicate_zero, List.take_succ_cons, List.take_zero, Option.bind_some, Option.bind_none, Option.map_some, Option.map_none, Option.some.injEq, Option.isSome_some, exists_eq_left', exists_eq_left, exists_and_left, List.cons.injEq, and_assoc, Sl.val.injEq, PyData.bool.injEq, PyData.int.injEq, PyData.str.injEq, PyData.list.injEq, PyData.tuple.injEq, Opn.v.injEq, true_and, and_true, decide_eq_true_eq, reduceIte, Bool.false_eq_true, if_true, if_false, isStr, Option.any_some, okRes, reduceCtorEq, Zero.zero, Nat.succ_eq_add_one, Nat.reduceLeDiff, ite_true, ite_false, Bool.not_eq_true, decide_eq_false_iff_not, e]
  exact ⟨ioIn_of (by simp [IoF]), q _ _ _ hp' (List.getElem_mem hj)⟩
theorem data__law_number {as : List Sl} {Q : Sl → List Sl → Prop} {X : XD} (h : sp__law_number as Q X) : sd__law_number { nx := fun e => IoIn as e ∧ Q (.val .none) (e.take 1), rt := fun s e => okRes s ∧ IoIn as e ∧ Q s (e.take 1), ex := fun C f d e => IoIn as e ∧ X C f d (e.take 1) } (as ++ List.replicate (1 - as.length) .un) := by
  obtain ⟨a, b, rfl, hp, q⟩ := h
  unfold sd__law_number
  simp only [dCall, dCallT, argsOf, argOf, slotsOf_s, slotsOf_v, slotsOf_nil, List.nodup_cons, List.nodup_nil, List.not_mem_nil, not_false_eq_true, updE, sSeq, sNext, sIf, sRet, sDrop, sAsg, sPar, sPar3, sBreak, sCont, gN, gSet, gT, gsCons, gsNil, dC, dVar, dOp, dChain, dNeg, dIfE, dAnd, dOr, dNot, dTup, dLst, dFn, dIsi, dM1, dApp, dExt, dSl, dDict1, qNo, qSm, oV, oS, aNil, aCons, aRev, bV, bAnd, bOr, bNot, bYes, iAny, iRg1, iRg2, iEnD, cont, conts, frz, valsOf, fn1, fn2, slotL, setL, fAdd_i, fSub_i, fLt_i, fLe_i, fGt_i, fGe_i, fEq_i, fEq_s, fNe_i, fNe_s, fIs_n, fNot_n, fIx_l, fIx_t, fLen_l, fLen_t, fInt_i, fSl_l, fSl_t, fMax_i, fMin_i, fAbs_i, fTup_l, fTup_t, fList_l, fList_t, wipeD, List.getElem?_cons_zero, List.getElem?_cons_succ, List.getElem?_nil, List.set_cons_zero, List.set_cons_succ, List.cons_append, List.nil_append, List.length_cons, List.length_nil, Nat.reduceAdd, Nat.reduceSub, List.replicate_succ, List.replicate_zero, List.take_succ_cons, List.take_zero, Option.bind_some, Option.bind_none, Option.map_some, Option.map_none, Option.some.injEq, Option.isSome_some, exists_eq_left', exists_eq_left, exists_and_left, List.cons.injEq, and_assoc, Sl.val.injEq, PyData.bool.injEq, PyData.int.injEq, PyData.str.injEq, PyData.list.injEq, PyData.tuple.injEq, Opn.v.injEq, true_and, and_true, decide_eq_true_eq, reduceIte, Bool.false_eq_true, if_true, if_false, isStr, Option.any_some, okRes, reduceCtorEq, Zero.zero, Nat.succ_eq_add_one, Nat.reduceLeDiff, ite_true, ite_false, Bool.not_eq_true, decide_eq_false_iff_not, p18]
  refine ⟨a, b, _, rfl, hp, by decide, by decide, fun a' b' d hp' h2 h3 => ?_⟩
  simp only [dCall, dCallT, argsOf, argOf, slotsOf_s, slotsOf_v, slotsOf_nil, List.nodup_cons, List.nodup_nil, List.not_mem_nil, not_false_eq_true, updE, sSeq, sNext, sIf, sRet, sDrop, sAsg, sPar, sPar3, sBreak, sCont, gN, gSet, gT, gsCons, gsNil, dC, dVar, dOp, dChain, dNeg, dIfE, dAnd, dOr, dNot, dTup, dLst, dFn, dIsi, dM1, dApp, dExt, dSl, dDict1, qNo, qSm, oV, oS, aNil, aCons, aRev, bV, bAnd, bOr, bNot, bYes, iAny, iRg1, iRg2, iEnD, cont, conts, frz, valsOf, fn1, fn2, slotL, setL, fAdd_i, fSub_i, fLt_i, fLe_i, fGt_i, fGe_i, fEq_i, fEq_s, fNe_i, fNe_s, fIs_n, fNot_n, fIx_l, fIx_t, fLen_l, fLen_t, fInt_i, fSl_l, fSl_t, fMax_i, fMin_i, fAbs_i, fTup_l, fTup_t, fList_l, fList_t, wipeD, List.getElem?_cons_zero, List.getElem?_cons_succ, List.getElem?_nil, List.set_cons_zero, List.set_cons_succ, List.cons_append, List.nil_append, List.length_cons, List.length_nil, Nat.reduceAdd, Nat.reduceSub, List.replicate_succ, List.replicate_zero, List.take_succ_cons, List.take_zero, Option.bind_some, Option.bind_none, Option.map_some, Option.map_none, Option.some.injEq, Option.isSome_some, exists_eq_left', exists_eq_left, exists_and_left, List.cons.injEq, and_assoc, Sl.val.injEq, PyData.bool.injEq, PyData.int.injEq, PyData.str.injEq, PyData.list.injEq, PyData.tuple.injEq, Opn.v.injEq, true_and, and_true, decide_eq_true_eq, reduceIte, Bool.false_eq_true, if_true, if_false, isStr, Option.any_some, okRes, reduceCtorEq, Zero.zero, Nat.succ_eq_add_one, Nat.reduceLeDiff, ite_true, ite_false, Bool.not_eq_true, decide_eq_false_iff_not, p18]
  refine ⟨a', b', _, rfl, hp', by simp, by simp, fun a2 b2 d2 hp2 hm => ?_⟩
  simp only [dCall, dCallT, argsOf, argOf, slotsOf_s, slotsOf_v, slotsOf_nil, List.nodup_cons, List.nodup_nil, List.not_mem_nil, not_false_eq_true, updE, sSeq, sNext, sIf, sRet, sDrop, sAsg, sPar, sPar3, sBreak, sCont, gN, gSet, gT, gsCons, gsNil, dC, dVar, dOp, dChain, dNeg, dIfE, dAnd, dOr, dNot, dTup, dLst, dFn, dIsi, dM1, dApp, dExt, dSl, dDict1, qNo, qSm, oV, oS, aNil, aCons, aRev, bV, bAnd, bOr, bNot, bYes, iAny, iRg1, iRg2, iEnD, cont, conts, frz, valsOf, fn1, fn2, slotL, setL, fAdd_i, fSub_i, fLt_i, fLe_i, fGt_i, fGe_i, fEq_i, fEq_s, fNe_i, fNe_s, fIs_n, fNot_n, fIx_l, fIx_t, fLen_l, fLen_t, fInt_i, fSl_l, fSl_t, fMax_i, fMin_i, fAbs_i, fTup_l, fTup_t, fList_l, fList_t, wipeD, List.getElem?_cons_zero, List.getElem?_cons_succ, List.getElem?_nil, List.set_cons_zero, List.set_cons_succ, List.cons_append, List.nil_append, List.length_cons, List.length_nil, Nat.reduceAdd, Nat.reduceSub, List.replicate_succ, List.replicate_zero, List.take_succ_cons, List.take_zero, Option.bind_some, Option.bind_none, Option.map_some, Option.map_none, Option.some.injEq, Option.isSome_some, exists_eq_left', exists_eq_left, exists_and_left, List.cons.injEq, and_assoc, Sl.val.injEq, PyData.bool.injEq, PyData.int.injEq, PyData.str.injEq, PyData.list.injEq, PyData.tuple.injEq, Opn.v.injEq, true_and, and_true, decide_eq_true_eq, reduceIte, Bool.false_eq_true, if_true, if_false, isStr, Option.any_some, okRes, reduceCtorEq, Zero.zero, Nat.succ_eq_add_one, Nat.reduceLeDiff, ite_true, ite_false, Bool.not_eq_true, decide_eq_false_iff_not]
  have hn : ∃ n : Int, d2 = .int n ∧ n.natAbs ≤ 1000000000000000000 := by
    simp only [List.mem_cons,
          List.not_mem_nil, or_false] at hm
    rcases hm with rfl | rfl | rfl | rfl | rfl | rfl | rfl | rfl | rfl | rfl
    all_goals first | exact ⟨_, rfl, by decide⟩ | exact ⟨_, rfl, by omega⟩
  obtain ⟨n, rfl, hn⟩ := hn
  exact ⟨ioIn_of (by simp [IoF]), q _ _ _ hp2 hn⟩
theorem pot_made (c k : Int) (h0 : 0 ≤ k) (h1 : k ≤ 100) : potOk (if c - 1000000000000000000 > 0 then c - 1000000000000000000 else 0) ((c % 2147483549 * 40692 + 6329 * k + 1019) % 2147483563 + 1) := by
  have e1 := Int.emod_nonneg (c % 2147483549 * 40692 + 6329 * k + 1019) (b := 2147483563) (by decide)
  have e2 := Int.emod_lt_of_pos (c % 2147483549 * 40692 + 6329 * k + 1019) (b := 2147483563) (by decide)
  refine ⟨?_, by omega, by omega⟩
  split <;> omega
theorem data__law_pot {as : List Sl} {Q : Sl → List Sl → Prop} {X : XD} (h : sp__law_pot as Q X) : sd__law_pot { nx := fun e => IoIn as e ∧ Q (.val .none) (e.take 2), rt := fun s e => okRes s ∧ IoIn as e ∧ Q s (e.take 2), ex := fun C f d e => IoIn as e ∧ X C f d (e.take 2) } (as ++ List.replicate (3 - as.length) .un) := by
  obtain ⟨ns, k, rfl, hl, h0, h1, q⟩ := h
  have lk : k.natAbs.log2 < 1000 := log_b h0 (by omega)
  have c1 : (6329 : Int).natAbs.log2 < 1000 := by decide
  have c2 : (3163 : Int).natAbs.log2 < 1000 := by decide
  have c3 : (40692 : Int).natAbs.log2 < 1000 := by decide
  have f1 : fMul (.int 6329) (.int k) = some (.val (.int (6329 * k))) := fMul_i (by omega)
  have f2 : fMul (.int 3163) (.int k) = some (.val (.int (3163 * k))) := fMul_i (by omega)
  have f3 : ∀ c : Int, fMul (.int (c % 2147483549)) (.int 40692) = some (.val (.int (c % 2147483549 * 40692))) := fun c => fMul_i (by
    have e1 := Int.emod_nonneg c (b := 2147483549) (by decide)
    have e2 := Int.emod_lt_of_pos c (b := 2147483549) (by decide)
    have := log_b e1 (by omega)
    omega)
  have m1 : ∀ c : Int, fMod (.int c) (.int 2147483549) = some (.val (.int (c % 2147483549))) := fun c => fMod_i (by decide)
  have m2 : ∀ c : Int, fMod (.int c) (.int 2147483563) = some (.val (.int (c % 2147483563))) := fun c => fMod_i (by decide)
  have k1 : ([] : List PyData).length ≤ 1000 := by decide
  have k2 : 1 ≤ 1000 := by decide
  have k3 : 2 ≤ 1000 := by decide
  unfold sd__law_pot
  simp only [dCall, dCallT, argsOf, argOf, slotsOf_s, slotsOf_v, slotsOf_nil, List.nodup_cons, List.nodup_nil, List.not_mem_nil, not_false_eq_true, updE, sSeq, sNext, sIf, sRet, sDrop, sAsg, sPar, sPar3, sBreak, sCont, gN, gSet, gT, gsCons, gsNil, dC, dVar, dOp, dChain, dNeg, dIfE, dAnd, dOr, dNot, dTup, dLst, dFn, dIsi, dM1, dApp, dExt, dSl, dDict1, qNo, qSm, oV, oS, aNil, aCons, aRev, bV, bAnd, bOr, bNot, bYes, iAny, iRg1, iRg2, iEnD, cont, conts, frz, valsOf, fn1, fn2, slotL, setL, fAdd_i, fSub_i, fLt_i, fLe_i, fGt_i, fGe_i, fEq_i, fEq_s, fNe_i, fNe_s, fIs_n, fNot_n, fIx_l, fIx_t, fLen_l, fLen_t, fInt_i, fSl_l, fSl_t, fMax_i, fMin_i, fAbs_i, fTup_l, fTup_t, fList_l, fList_t, wipeD, List.getElem?_cons_zero, List.getElem?_cons_succ, List.getElem?_nil, List.set_cons_zero, List.set_cons_succ, List.cons_append, List.nil_append, List.length_cons, List.length_nil, Nat.reduceAdd, Nat.reduceSub, List.replicate_succ, List.replicate_zero, List.take_succ_cons, List.take_zero, Option.bind_some, Option.bind_none, Option.map_some, Option.map_none, Option.some.injEq, Option.isSome_some, exists_eq_left', exists_eq_left, exists_and_left, List.cons.injEq, and_assoc, Sl.val.injEq, PyData.bool.injEq, PyData.int.injEq, PyData.str.injEq, PyData.list.injEq, PyData.tuple.injEq, Opn.v.injEq, true_and, and_true, decide_eq_true_eq, reduceIte, Bool.false_eq_true, if_true, if_false, isStr, Option.any_some, okRes, reduceCtorEq, Zero.zero, Nat.succ_eq_add_one, Nat.reduceLeDiff, ite_true, ite_false, Bool.not_eq_true, decide_eq_false_iff_not, iDs_len]
  split
  · rename_i hk
    obtain ⟨n, hn⟩ := iDs_at h0 hk
    simp only [dCall, dCallT, argsOf, argOf, slotsOf_s, slotsOf_v, slotsOf_nil, List.nodup_cons, List.nodup_nil, List.not_mem_nil, not_false_eq_true, updE, sSeq, sNext, sIf, sRet, sDrop, sAsg, sPar, sPar3, sBreak, sCont, gN, gSet, gT, gsCons, gsNil, dC, dVar, dOp, dChain, dNeg, dIfE, dAnd, dOr, dNot, dTup, dLst, dFn, dIsi, dM1, dApp, dExt, dSl, dDict1, qNo, qSm, oV, oS, aNil, aCons, aRev, bV, bAnd, bOr, bNot, bYes, iAny, iRg1, iRg2, iEnD, cont, conts, frz, valsOf, fn1, fn2, slotL, setL, fAdd_i, fSub_i, fLt_i, fLe_i, fGt_i, fGe_i, fEq_i, fEq_s, fNe_i, fNe_s, fIs_n, fNot_n, fIx_l, fIx_t, fLen_l, fLen_t, fInt_i, fSl_l, fSl_t, fMax_i, fMin_i, fAbs_i, fTup_l, fTup_t, fList_l, fList_t, wipeD, List.getElem?_cons_zero, List.getElem?_cons_succ, List.getElem?_nil, List.set_cons_zero, List.set_cons_succ, List.cons_append, List.nil_append, List.length_cons, List.length_nil, Nat.reduceAdd, Nat.reduceSub, List.replicate_succ, List.replicate_zero, List.take_succ_cons, List.take_zero, Option.bind_some, Option.bind_none, Option.map_some, Option.map_none, Option.some.injEq, Option.isSome_some, exists_eq_left', exists_eq_left, exists_and_left, List.cons.injEq, and_assoc, Sl.val.injEq, PyData.bool.injEq, PyData.int.injEq, PyData.str.injEq, PyData.list.injEq, PyData.tuple.injEq, Opn.v.injEq, true_and, and_true, decide_eq_true_eq, reduceIte, Bool.false_eq_true, if_true, if_false, isStr, Option.any_some, okRes, reduceCtorEq, Zero.zero, Nat.succ_eq_add_one, Nat.reduceLeDiff, ite_true, ite_false, Bool.not_eq_true, decide_eq_false_iff_not, hn, p18, f1, f2, f3, m1, m2, k1, k2, k3]
    exact ⟨ioIn_of (by simp [IoF]), q _ _ (pot_made _ k h0 h1)⟩
  · simp only [dCall, dCallT, argsOf, argOf, slotsOf_s, slotsOf_v, slotsOf_nil, List.nodup_cons, List.nodup_nil, List.not_mem_nil, not_false_eq_true, updE, sSeq, sNext, sIf, sRet, sDrop, sAsg, sPar, sPar3, sBreak, sCont, gN, gSet, gT, gsCons, gsNil, dC, dVar, dOp, dChain, dNeg, dIfE, dAnd, dOr, dNot, dTup, dLst, dFn, dIsi, dM1, dApp, dExt, dSl, dDict1, qNo, qSm, oV, oS, aNil, aCons, aRev, bV, bAnd, bOr, bNot, bYes, iAny, iRg1, iRg2, iEnD, cont, conts, frz, valsOf, fn1, fn2, slotL, setL, fAdd_i, fSub_i, fLt_i, fLe_i, fGt_i, fGe_i, fEq_i, fEq_s, fNe_i, fNe_s, fIs_n, fNot_n, fIx_l, fIx_t, fLen_l, fLen_t, fInt_i, fSl_l, fSl_t, fMax_i, fMin_i, fAbs_i, fTup_l, fTup_t, fList_l, fList_t, wipeD, List.getElem?_cons_zero, List.getElem?_cons_succ, List.getElem?_nil, List.set_cons_zero, List.set_cons_succ, List.cons_append, List.nil_append, List.length_cons, List.length_nil, Nat.reduceAdd, Nat.reduceSub, List.replicate_succ, List.replicate_zero, List.take_succ_cons, List.take_zero, Option.bind_some, Option.bind_none, Option.map_some, Option.map_none, Option.some.injEq, Option.isSome_some, exists_eq_left', exists_eq_left, exists_and_left, List.cons.injEq, and_assoc, Sl.val.injEq, PyData.bool.injEq, PyData.int.injEq, PyData.str.injEq, PyData.list.injEq, PyData.tuple.injEq, Opn.v.injEq, true_and, and_true, decide_eq_true_eq, reduceIte, Bool.false_eq_true, if_true, if_false, isStr, Option.any_some, okRes, reduceCtorEq, Zero.zero, Nat.succ_eq_add_one, Nat.reduceLeDiff, ite_true, ite_false, Bool.not_eq_true, decide_eq_false_iff_not, p18, f1, f2, f3, m1, m2, k1, k2, k3]
    exact ⟨ioIn_of (by simp [IoF]), q _ _ (pot_made _ k h0 h1)⟩
end K35
namespace K35
open PySem L2 PySem.Spec PyProof.Rows PD PySem.NumText TL
/-! ### words -/
theorem tl_head (w : Str) : tl (cutS w none (some 1)) = (tl w).take 1 := by
  show (((tl w).drop (HT.sIx w.length 0 none)).take (HT.sIx w.length w.length (some 1) - HT.sIx w.length 0 none)) = _
  rw [HT.sIx_none, show HT.sIx w.length w.length (some 1) = min 1 w.length from HT.sIx_nat _ _ 1]
  cases h : tl w with
  | nil => simp
  | cons c r =>
    have : 1 ≤ w.length := by rw [len_tl, h]; simp
    rw [Nat.min_eq_left this]; rfl
theorem tl_rest (w : Str) : tl (cutS w (some 1) none) = (tl w).drop 1 := by
  show (((tl w).drop (HT.sIx w.length 0 (some 1))).take (HT.sIx w.length w.length none - HT.sIx w.length 0 (some 1))) = _
  rw [HT.sIx_none, show HT.sIx w.length 0 (some 1) = min 1 w.length from HT.sIx_nat _ _ 1]
  cases h : tl w with
  | nil => simp
  | cons c r =>
    have e : w.length = r.length + 1 := by rw [len_tl, h]; simp
    rw [Nat.min_eq_left (by omega), e]
    simp
theorem tl_minus : tl ("-" : Str) = [45] := by decide
theorem head_iff (w : Str) : cutS w none (some 1) = "-" ↔ ∃ cs, tl w = 45 :: cs := by
  constructor
  · intro h
    have e := tl_head w
    rw [h, tl_minus] at e
    cases h2 : tl w with
    | nil => rw [h2] at e; simp at e
    | cons c r => rw [h2] at e; simp at e; exact ⟨r, by rw [← e]⟩
  · rintro ⟨cs, h⟩
    refine ext_tl ?_
    rw [tl_head, h, tl_minus]; rfl
theorem figs_neg {w : Str} {cs : List Nat} (h : tl w = 45 :: cs) : tl (figs w) = cs := by
  unfold figs
  rw [if_pos ((head_iff w).mpr ⟨cs, h⟩), tl_rest, h]; rfl
theorem figs_pos {w : Str} (h : ¬ ∃ cs, tl w = 45 :: cs) : figs w = w := by
  unfold figs
  rw [if_neg (fun z => h ((head_iff w).mp z))]
theorem isFig_iff (c : Nat) : isFig c = true ↔ 48 ≤ c ∧ c ≤ 57 := by
  unfold isFig
  have e : ("0123456789" : Str).cps.toList = [48, 49, 50, 51, 52, 53, 54, 55, 56, 57] := by decide
  rw [e, decide_eq_true_eq]
  simp only [List.mem_cons, List.not_mem_nil, or_false]
  omega
theorem figsOk_iff (w : Str) : figsOk w = true ↔ 1 ≤ (tl (figs w)).length ∧ (tl (figs w)).length ≤ 19 ∧ AllDigits (tl (figs w)) := by
  unfold figsOk
  rw [Bool.and_eq_true, decide_eq_true_eq, len_tl, List.all_eq_true, and_assoc]
  constructor
  · rintro ⟨h1, h2, h3⟩
    exact ⟨h1, h2, fun c hc => (isFig_iff c).mp (h3 c hc)⟩
  · rintro ⟨h1, h2, h3⟩
    exact ⟨h1, h2, fun c hc => (isFig_iff c).mpr (h3 c hc)⟩
theorem val_lt : ∀ (cs : List Nat), AllDigits cs → digitsVal cs < 10 ^ cs.length := by
  refine PyProof.Rows.FinIter.snoc_ind (fun _ => by decide) fun cs c ih h => ?_
  have h1 := ih fun d hd => h d (List.mem_append_left _ hd)
  have h2 := h c (List.mem_append_right _ (List.mem_singleton.mpr rfl))
  rw [PySem.NumText.digitsVal_snoc, List.length_append, List.length_singleton, Nat.pow_succ]
  omega
theorem char_back {c : Nat} (h : 48 ≤ c ∧ c ≤ 57) : (Char.ofNat c).toNat = c := by
  have : c = 48 ∨ c = 49 ∨ c = 50 ∨ c = 51 ∨ c = 52 ∨ c = 53 ∨ c = 54 ∨ c = 55 ∨ c = 56 ∨ c = 57 := by omega
  rcases this with h | h | h | h | h | h | h | h | h | h <;> subst h <;> rfl
/-- digits without a nought ahead come back -/
theorem num_of {cs : List Nat} (h : AllDigits cs) (h1 : cs ≠ []) (h2 : cs.length = 1 ∨ cs.head? ≠ some 48) : numL (digitsVal cs) = cs := by
  unfold numL
  obtain ⟨n, hn⟩ : ∃ n, cs.length = n + 1 := ⟨cs.length - 1, by have := List.length_pos_iff.mpr h1; omega⟩
  rw [PySem.NumText.toDigits_digitsVal n cs hn h ?_, List.map_map]
  · conv => rhs; rw [← List.map_id cs]
    refine List.map_congr_left fun c hc => char_back (h c hc)
  · rcases h2 with h2 | h2
    · exact .inl (by omega)
    · cases cs with
      | nil => exact absurd rfl h1
      | cons c r =>
        have := h c (List.mem_cons_self ..)
        have h3 : c ≠ 48 := fun z => h2 (by simp [z])
        exact .inr ⟨c, r, rfl, by omega⟩
/-- a number's own text has no nought ahead -/
theorem num_head : ∀ (n : Nat), (numL n).length = 1 ∨ (numL n).head? ≠ some 48 := by
  intro n
  induction n using Nat.strongRecOn
        with
  | _ n ih =>
    by_cases h : n < 10
    · rw [numL_lt h]; exact .inl rfl
    · right
      rw [numL_step (by omega)]
      rcases ih (n / 10) (by omega) with h1 | h1
      · by_cases h2 : n / 10 < 10
        · rw [numL_lt h2]
          simp; omega
        · rw [numL_step (by omega)] at h1
          have := List.length_pos_iff.mpr (numL_ne (n / 10 / 10))
          rw [List.length_append, List.length_singleton] at h1
          omega
      · cases e : numL (n / 10) with
        | nil => exact absurd e (numL_ne _)
        | cons c r => rw [e] at h1; simpa using h1
theorem tl_nat (n : Nat) : tl ((toString ((n : Nat) : Int) : String) : Str) = numL n := tl_num n
theorem tl_negS (n : Nat) : tl ((toString (-((n + 1 : Nat) : Int)) : String) : Str) = 45 :: numL (n + 1) := by
  have e : toString (-((n + 1 : Nat) : Int)) = "-" ++ toString (n + 1) := rfl
  rw [show ((toString (-((n + 1 : Nat) : Int)) : String) : Str) = Str.ofString ("-" ++ toString (n + 1)) from by rw [← e], tl_ofString, String.toList_append, List.map_append, ← tl_ofString (toString (n + 1))]
  show [45] ++ tl (Str.ofString (toString (((n + 1 : Nat)) : Int))) = _
  rw [tl_num]; rfl
theorem tl_zero : tl ("0" : Str) = [48] := by decide
theorem readW_law (w : Str) : readW w = lawW w := by
  unfold readW lawW
  by_cases hf : figsOk w = true
  · rw [if_pos hf, if_pos hf]
    obtain ⟨l1, l2, ad⟩ := (figsOk_iff w).mp hf
    have vl := val_lt _ ad
    have vl19 : digitsVal (tl (figs w)) < 10 ^ 19 := Nat.lt_of_lt_of_le vl (Nat.pow_le_pow_right (by decide) l2)
    have ne : tl (figs w) ≠ [] := fun z => by rw [z] at l1; simp at l1
    have fv : figV (tl (figs w)) = ((digitsVal (tl (figs w)) : Nat) : Int) := fold_digits (tl (figs w)) 0 ad
    by_cases hn : ∃ cs, tl w = 45 :: cs
    · obtain ⟨cs, hcs⟩ := hn
      have ef := figs_neg hcs
      rw [ef] at l1 l2 ad vl vl19 ne fv
      have hit : intText? w = some (-((digitsVal cs : Nat) : Int)) := PySem.intText_neg hcs ad ne (by rw [len_tl, hcs, List.length_cons]; omega)
      have hw0 : w ≠ "0" := fun z => by rw [z, tl_zero] at hcs; cases hcs
      rw [hit, if_pos ((head_iff w).mpr ⟨cs, hcs⟩)]
      rw [show (figs w).cps.toList = cs from ef, fv]
      rw [Option.bind_some]
      by_cases h48 : cs.head? = some 48
      · rw [if_pos (show cs.head? = some 48 ∧ w ≠ "0" from ⟨h48, hw0⟩), if_neg]
        rintro ⟨e, _⟩
        have e2 := congrArg tl e
        rw [hcs] at e2
        cases hv : digitsVal cs with
        | zero =>
          rw [hv] at e2
          have e3 : tl ((toString (-((0 : Nat) : Int)) : String) : Str) = [48] := by decide
          rw [e3] at e2; cases e2
        | succ m =>
          rw [hv, tl_negS m] at e2
          have e3 : numL (m + 1) = cs := by injection e2
          rcases num_head (m + 1) with q | q
          · rw [e3] at q
            cases cs with
            | nil => simp at q
            | cons c r =>
              simp at q h48
              subst q h48
              have : digitsVal [48] = 0 := by decide
              omega
          · rw [e3] at q; exact q h48
      · rw [if_neg (show ¬ (cs.head? = some 48 ∧ w ≠ "0") from fun z => h48 z.1)]
        have hv : numL (digitsVal cs) = cs := num_of ad ne (.inr h48)
        have hpos : 0 < digitsVal cs := by
          cases cs with
          | nil => exact absurd rfl ne
          | cons c r =>
            have := ad c (List.mem_cons_self ..)
            have h3 : c ≠ 48 := fun z => h48 (by simp [z])
            exact PySem.NumText.digitsVal_pos (by omega)
        obtain ⟨m, hm⟩ : ∃ m, digitsVal cs = m + 1 := ⟨digitsVal cs - 1, by omega⟩
        have es : ((toString (-((digitsVal cs : Nat) : Int)) : String) : Str) = w := by
          refine ext_tl ?_
          rw [hm, tl_negS m, ← hm, hv, hcs]
        rw [show (toString (-((digitsVal cs : Nat) : Int)) : Str) = w from es]
        by_cases hb : digitsVal cs ≤ 1000000000000000000
        · rw [if_pos ⟨rfl, by omega⟩, if_neg (by omega)]
          congr 1; omega
        · rw [if_neg (fun z => hb (by have := z.2; omega)), if_pos (by omega)]
    · have ef := figs_pos hn
      rw [ef] at l1 l2 ad vl vl19 ne fv
      have hit : intText? w = some ((digitsVal (tl w) : Nat) : Int) := PySem.intText_digits ad ne (by rw [len_tl]; omega)
      rw [hit, if_neg (fun z => hn ((head_iff w).mp z)), ef, show w.cps.toList = tl w from rfl, fv, Option.bind_some]
      have es : ((toString ((digitsVal (tl w) : Nat) : Int) : String) : Str) = w ↔ numL (digitsVal (tl w)) = tl w := by
        constructor
        · intro h; rw [← tl_nat, h]
        · intro h; exact ext_tl (by rw [tl_nat, h])
      by_cases h48 : (tl w).head? = some 48 ∧ w ≠ "0"
      · rw [if_pos h48, if_neg]
        rintro ⟨e, _⟩
        have e2 := es.mp e
        rcases num_head (digitsVal (tl w)) with q | q
        · rw [e2] at q
          refine h48.2 (ext_tl ?_)
          rw [tl_zero]
          cases e3 : tl w with
          | nil => rw [e3] at q; simp at q
          | cons c r =>
            rw [e3] at q h48
            simp at q h48
            rw [q, h48.1]
        · rw [e2] at q; exact q h48.1
      · rw [if_neg h48]
        have hv : numL (digitsVal (tl w)) = tl w := by
          refine num_of ad ne ?_
          by_cases h : (tl w).head? = some 48
          · left
            have : w = "0" := Classical.byContradiction fun z => h48 ⟨h, z⟩
            rw [this, tl_zero]; rfl
          · exact .inr h
        rw [show (toString ((digitsVal (tl w) : Nat) : Int) : Str) = w from es.mpr hv]
        by_cases hb : digitsVal (tl w) ≤ 1000000000000000000
        · rw [if_pos ⟨rfl, by omega⟩, if_neg (by omega)]
        · rw [if_neg (fun z => hb (by have := z.2; omega)), if_pos (by omega)]
  · rw [if_neg hf, if_neg hf]
/-- int(word) where the figures are right -/
theorem int_word {w : Str} (hf : figsOk w = true) : ∃ n : Int, intText? w = some n ∧ n.natAbs < 10 ^ 19 ∧ w.length ≤ 20 := by
  obtain ⟨l1, l2, ad⟩ := (figsOk_iff w).mp hf
  have vl := val_lt _ ad
  have vl19 : digitsVal (tl (figs w)) < 10 ^ 19 := Nat.lt_of_lt_of_le vl (Nat.pow_le_pow_right (by decide) l2)
  have ne : tl (figs w) ≠ [] := fun z => by rw [z] at l1; simp at l1
  by_cases hn : ∃ cs, tl w = 45 :: cs
  · obtain ⟨cs, hcs⟩ := hn
    have ef := figs_neg hcs
    rw [ef] at l1 l2 ad vl19 ne
    have hl : w.length ≤ 20 := by rw [len_tl, hcs, List.length_cons]; omega
    exact ⟨_, PySem.intText_neg hcs ad ne (by omega), by omega, hl⟩
  · have ef := figs_pos hn
    rw [ef] at l1 l2 ad vl19 ne
    have hl : w.length ≤ 20 := by rw [len_tl]; omega
    exact ⟨((digitsVal (tl w) : Nat) : Int), PySem.intText_digits ad ne (by omega), by omega, hl⟩
/-- a number's own text is read -/
theorem readW_num {n : Int} (h : n.natAbs ≤ 1000000000000000000) : readW (numT n) = some n := by
  have lenN : ∀ m : Nat, m ≤ 1000000000000000000 → (numL m).length ≤ 19 := fun m hm => numL_len (by decide) (Nat.lt_of_le_of_lt hm (by decide))
  have key : ∀ (cs : List Nat) (m : Nat), tl (figs (numT n)) = numL m → m ≤ 1000000000000000000 → intText? (numT n) = some n → readW (numT n) = some n := fun cs m hf hm hi => by
    unfold readW
    rw [if_pos, hi, Option.bind_some, if_pos ⟨rfl, h⟩]
    refine (figsOk_iff _).mpr ⟨?_, ?_, ?_⟩
    · rw [hf]; have := List.length_pos_iff.mpr (numL_ne m); omega
    · rw [hf]; exact lenN m hm
    · rw [hf]; exact numL_digits m
  rcases Int.lt_or_le n 0 with hn | hn
  · obtain ⟨m, rfl⟩ : ∃ m : Nat, n = -((m + 1 : Nat) : Int) := ⟨(-n).toNat - 1, by omega⟩
    have ht : tl (numT (-((m + 1 : Nat) : Int))) = 45 :: numL (m + 1) := tl_negS m
    refine key [] (m + 1) (figs_neg ht) (by omega) ?_
    have := PySem.intText_neg (x := numT (-((m + 1 : Nat) : Int))) ht (numL_digits _) (numL_ne _) (by rw [len_tl, ht, List.length_cons]; have := lenN (m + 1) (by omega); omega)
    rw [this, numL_val]
  · obtain ⟨m, rfl⟩ : ∃ m : Nat, n = (m : Int) := ⟨n.toNat, by omega⟩
    have ht : tl (numT (m : Int)) = numL m := tl_nat m
    have hno : ¬ ∃ cs, tl (numT (m : Int)) = 45 :: cs := by
      rintro ⟨cs, e⟩
      rw [ht] at e
      have := numL_digits m 45 (by rw [e]; exact List.mem_cons_self ..)
      omega
    refine key [] m (by rw [figs_pos hno, ht]) (by omega) ?_
    have := PySem.intText_digits (x := numT (m : Int)) (by rw [show (numT (m : Int)).cps.toList = numL m from ht]; exact numL_digits _) (by rw [show (numT (m : Int)).cps.toList = numL m from ht]; exact numL_ne _) (by rw [len_tl, ht]; have := lenN m (by omega); omega)
    rw [this, show (numT (m : Int)).cps.toList = numL m from ht, numL_val]
end K35
namespace K35
open PySem L2 PySem.Spec PyProof.Rows PD
theorem cutS_le {w : Str} {lo hi : Option Int} : (cutS w lo hi).length ≤ w.length := cutS_length w lo hi
theorem figs_le {w : Str} : (figs w).length ≤ w.length := by
  unfold figs
  split
  · exact cutS_le
  · exact Nat.le_refl _
def figsB (f : Str) : Bool := decide (1 ≤ f.length ∧ f.length ≤ 19) && f.cps.toList.all isFig
theorem figsOk_eq {w : Str} : figsOk w = figsB (figs w) := rfl
theorem oneC_one (c : Nat) : oneC ⟨#[c]⟩ = some c := rfl
theorem fIn_c (c : Nat) (z : Str) : fIn (.str ⟨#[c]⟩) (.str z) = some (.val (.bool (decide (c ∈ z.cps.toList)))) := rfl
/-- [sign in '0123456789' for sign in figures] -/
theorem lc_figs {env : PD.Env} {j i : Nat} {f : Str} {Q : Sl → PD.Env → Prop} {X : XD} (hj : env[j]? = some (.val (.str f))) (hij : i ≠ j) (hi : i < env.length) (hf : f.length ≤ 16777216)
    (hq : Q (.own (.lst ((signsD f).map fun d => match d with | .str z => .bool ((oneC z).any isFig) | _ => .none))) (env.set i .un)) :
    dLc (iAny (oV (dVar j))) (gN i) bYes (dOp fIn (oS i) (oV (dC (.str "0123456789")))) [i] env Q X := by
  have e0 : env.set j (.val (.str f)) = env := set_self hj
  refine lc_gen (signsD f) _ env (fun R hR => ?_) (fun d hd R hR => ?_) hq
  · refine ⟨.str f, by rw [hj]; rfl, .str f, rfl, .str f, signsD f, rfl, walk_s hf, ?_⟩
    rw [e0]; exact hR
  · simp only [signsD, List.mem_map] at hd
    obtain ⟨c, hc, rfl⟩ := hd
    have e1 : (env.set i (.val (.str ⟨#[c]⟩)))[i]? = some (.val (.str ⟨#[c]⟩)) := by rw [List.getElem?_set_self hi]
    refine ⟨by simp only [cont, e1]; rfl, .str "0123456789", rfl, .val (.bool (decide (c ∈ ("0123456789" : Str).cps.toList))), ?_, hR _ rfl⟩
    simp only [cont, e1, Option.bind_some]
    exact fIn_c c _
theorem bools_figs {f : Str} : bools ((signsD f).map fun d => match d with | .str z => .bool ((oneC z).any isFig) | _ => .none) = some (f.cps.toList.map isFig) := by
  rw [← bools_back]
  congr 1
  simp only [signsD, List.map_map]
  rfl
theorem all_figs {f : Str} : fAll (.list ((signsD f).map fun d => match d with | .str z => .bool ((oneC z).any isFig) | _ => .none)) = some (.val (.bool (f.cps.toList.all isFig))) := by
  show (bools _).map _ = _
  rw [bools_figs]
  simp [List.all_map]
theorem figsOk_split {w : Str} : figsOk w = true ↔ (1 : Int) ≤ (figs w).length ∧ ((figs w).length : Int) ≤ 19 ∧ (figs w).cps.toList.all isFig = true := by
  unfold figsOk
  rw [Bool.and_eq_true, decide_eq_true_eq, and_assoc]
  constructor <;> (rintro ⟨h1, h2, h3⟩; exact ⟨by omega, by omega, h3⟩)
theorem data_number_read {as : List Sl} {Q : Sl → List Sl → Prop} {X : XD} (h : sp_number_read as Q X) : sd_number_read { nx := fun e => IoIn as e ∧ Q (.val .none) (e.take 1), rt := fun s e => okRes s ∧ IoIn as e ∧ Q s (e.take 1), ex := fun C f d e => IoIn as e ∧ X C f d (e.take 1) } (as ++ List.replicate (4 - as.length) .un) := by
  obtain ⟨w, rfl, hw, q⟩ := h
  have hw2 : w.length ≤ 16777216 := by omega
  unfold sd_number_read
  simp only [dCall, dCallT, argsOf, argOf, slotsOf_s, slotsOf_v, slotsOf_nil, List.nodup_cons, List.nodup_nil, List.not_mem_nil, not_false_eq_true, updE, sSeq, sNext, sIf, sRet, sDrop, sAsg, sPar, sPar3, sBreak, sCont, gN, gSet, gT, gsCons, gsNil, dC, dVar, dOp, dChain, dNeg, dIfE, dAnd, dOr, dNot, dTup, dLst, dFn, dIsi, dM1, dApp, dExt, dSl, dDict1, qNo, qSm, oV, oS, aNil, aCons, aRev, bV, bAnd, bOr, bNot, bYes, iAny, iRg1, iRg2, iEnD, cont, conts, frz, valsOf, fn1, fn2, slotL, setL, fAdd_i, fSub_i, fLt_i, fLe_i, fGt_i, fGe_i, fEq_i, fEq_s, fNe_i, fNe_s, fIs_n, fNot_n, fIx_l, fIx_t, fLen_l, fLen_t, fInt_i, fSl_l, fSl_t, fMax_i, fMin_i, fAbs_i, fTup_l, fTup_t, fList_l, fList_t, wipeD, List.getElem?_cons_zero, List.getElem?_cons_succ, List.getElem?_nil, List.set_cons_zero, List.set_cons_succ, List.cons_append, List.nil_append, List.length_cons, List.length_nil, Nat.reduceAdd, Nat.reduceSub, List.replicate_succ, List.replicate_zero, List.take_succ_cons, List.take_zero, Option.bind_some, Option.bind_none, Option.map_some, Option.map_none, Option.some.injEq, Option.isSome_some, exists_eq_left', exists_eq_left, exists_and_left, List.cons.injEq, and_assoc, Sl.val.injEq, PyData.bool.injEq, PyData.int.injEq, PyData.str.injEq, PyData.list.injEq, PyData.tuple.injEq, Opn.v.injEq, true_and, and_true, decide_eq_true_eq, reduceIte, Bool.false_eq_true, if_true, if_false, isStr, Option.any_some, okRes, reduceCtorEq, Zero.zero, Nat.succ_eq_add_one, Nat.reduceLeDiff, ite_true, ite_false, Bool.not_eq_true, decide_eq_false_iff_not, fSl_s hw2]
  split
  · rename_i hc
    have hf : figs w = cutS w (some 1) none := if_pos hc
    have hl : (cutS w (some 1) none).length ≤ 16777216 := by have := figs_le (w := w); rw [hf] at this; omega
    have sp := figsOk_split (w := w)
    rw [hf] at sp
    simp only [dCall, dCallT, argsOf, argOf, slotsOf_s, slotsOf_v, slotsOf_nil, List.nodup_cons, List.nodup_nil, List.not_mem_nil, not_false_eq_true, updE, sSeq, sNext, sIf, sRet, sDrop, sAsg, sPar, sPar3, sBreak, sCont, gN, gSet, gT, gsCons, gsNil, dC, dVar, dOp, dChain, dNeg, dIfE, dAnd, dOr, dNot, dTup, dLst, dFn, dIsi, dM1, dApp, dExt, dSl, dDict1, qNo, qSm, oV, oS, aNil, aCons, aRev, bV, bAnd, bOr, bNot, bYes, iAny, iRg1, iRg2, iEnD, cont, conts, frz, valsOf, fn1, fn2, slotL, setL, fAdd_i, fSub_i, fLt_i, fLe_i, fGt_i, fGe_i, fEq_i, fEq_s, fNe_i, fNe_s, fIs_n, fNot_n, fIx_l, fIx_t, fLen_l, fLen_t, fInt_i, fSl_l, fSl_t, fMax_i, fMin_i, fAbs_i, fTup_l, fTup_t, fList_l, fList_t, wipeD, List.getElem?_cons_zero, List.getElem?_cons_succ, List.getElem?_nil, List.set_cons_zero, List.set_cons_succ, List.cons_append, List.nil_append, List.length_cons, List.length_nil, Nat.reduceAdd, Nat.reduceSub, List.replicate_succ, List.replicate_zero, List.take_succ_cons, List.take_zero, Option.bind_some, Option.bind_none, Option.map_some, Option.map_none, Option.some.injEq, Option.isSome_some, exists_eq_left', exists_eq_left, exists_and_left, List.cons.injEq, and_assoc, Sl.val.injEq, PyData.bool.injEq, PyData.int.injEq, PyData.str.injEq, PyData.list.injEq, PyData.tuple.injEq, Opn.v.injEq, true_and, and_true, decide_eq_true_eq, reduceIte, Bool.false_eq_true, if_true, if_false, isStr, Option.any_some, okRes, reduceCtorEq, Zero.zero, Nat.succ_eq_add_one, Nat.reduceLeDiff, ite_true, ite_false, Bool.not_eq_true, decide_eq_false_iff_not, fLen_s hl]
    by_cases h1 : (1 : Int) ≤ (cutS w (some 1) none).length
    · rw [if_pos h1]
      by_cases h2 : ((cutS w (some 1) none).length : Int) ≤ 19
      · rw [if_neg (by simp [h2])]
        refine lc_figs rfl (by decide) (by simp) hl ?_
        simp only [dCall, dCallT, argsOf, argOf, slotsOf_s, slotsOf_v, slotsOf_nil, List.nodup_cons, List.nodup_nil, List.not_mem_nil, not_false_eq_true, updE, sSeq, sNext, sIf, sRet, sDrop, sAsg, sPar, sPar3, sBreak, sCont, gN, gSet, gT, gsCons, gsNil, dC, dVar, dOp, dChain, dNeg, dIfE, dAnd, dOr, dNot, dTup, dLst, dFn, dIsi, dM1, dApp, dExt, dSl, dDict1, qNo, qSm, oV, oS, aNil, aCons, aRev, bV, bAnd, bOr, bNot, bYes, iAny, iRg1, iRg2, iEnD, cont, conts, frz, valsOf, fn1, fn2, slotL, setL, fAdd_i, fSub_i, fLt_i, fLe_i, fGt_i, fGe_i, fEq_i, fEq_s, fNe_i, fNe_s, fIs_n, fNot_n, fIx_l, fIx_t, fLen_l, fLen_t, fInt_i, fSl_l, fSl_t, fMax_i, fMin_i, fAbs_i, fTup_l, fTup_t, fList_l, fList_t, wipeD, List.getElem?_cons_zero, List.getElem?_cons_succ, List.getElem?_nil, List.set_cons_zero, List.set_cons_succ, List.cons_append, List.nil_append, List.length_cons, List.length_nil, Nat.reduceAdd, Nat.reduceSub, List.replicate_succ, List.replicate_zero, List.take_succ_cons, List.take_zero, Option.bind_some, Option.bind_none, Option.map_some, Option.map_none, Option.some.injEq, Option.isSome_some, exists_eq_left', exists_eq_left, exists_and_left, List.cons.injEq, and_assoc, Sl.val.injEq, PyData.bool.injEq, PyData.int.injEq, PyData.str.injEq, PyData.list.injEq, PyData.tuple.injEq, Opn.v.injEq, true_and, and_true, decide_eq_true_eq, reduceIte, Bool.false_eq_true, if_true, if_false, isStr, Option.any_some, okRes, reduceCtorEq, Zero.zero, Nat.succ_eq_add_one, Nat.reduceLeDiff, ite_true, ite_false, Bool.not_eq_true, decide_eq_false_iff_not, all_figs]
        cases h3 : (cutS w (some 1) none).cps.toList.all isFig with
        | false =>
          rw [if_pos (by rfl)]
          refine ⟨ioIn_of (by simp [IoF]), ?_⟩
          have hr : readW w = none := by unfold readW; rw [if_neg]; intro z; rw [(sp.mp z).2.2] at h3; cases h3
          rw [hr] at q
          exact q
        | true =>
          rw [if_neg (by simp)]
          have ok : figsOk w = true := sp.mpr ⟨h1, h2, h3⟩
          obtain ⟨n, hn, hb, hl20⟩ := int_word ok
          have fi : fInt (.str w) = some (.val (.int n)) := by
            show (if w.length ≤ 640 then (PySem.intText? w).map fun n => Sl.val (.int n) else none) = _
            rw [if_pos (by omega), hn]; rfl
          have hs : fStr (.int n) = some (.val (.str (toString n))) := fStr_i (Nat.lt_trans (log_lt (k := 64) (Nat.lt_of_lt_of_le hb (by decide)) (by decide)) (by decide))
          simp only [dCall, dCallT, argsOf, argOf, slotsOf_s, slotsOf_v, slotsOf_nil, List.nodup_cons, List.nodup_nil, List.not_mem_nil, not_false_eq_true, updE, sSeq, sNext, sIf, sRet, sDrop, sAsg, sPar, sPar3, sBreak, sCont, gN, gSet, gT, gsCons, gsNil, dC, dVar, dOp, dChain, dNeg, dIfE, dAnd, dOr, dNot, dTup, dLst, dFn, dIsi, dM1, dApp, dExt, dSl, dDict1, qNo, qSm, oV, oS, aNil, aCons, aRev, bV, bAnd, bOr, bNot, bYes, iAny, iRg1, iRg2, iEnD, cont, conts, frz, valsOf, fn1, fn2, slotL, setL, fAdd_i, fSub_i, fLt_i, fLe_i, fGt_i, fGe_i, fEq_i, fEq_s, fNe_i, fNe_s, fIs_n, fNot_n, fIx_l, fIx_t, fLen_l, fLen_t, fInt_i, fSl_l, fSl_t, fMax_i, fMin_i, fAbs_i, fTup_l, fTup_t, fList_l, fList_t, wipeD, List.getElem?_cons_zero, List.getElem?_cons_succ, List.getElem?_nil, List.set_cons_zero, List.set_cons_succ, List.cons_append, List.nil_append, List.length_cons, List.length_nil, Nat.reduceAdd, Nat.reduceSub, List.replicate_succ, List.replicate_zero, List.take_succ_cons, List.take_zero, Option.bind_some, Option.bind_none, Option.map_some, Option.map_none, Option.some.injEq, Option.isSome_some, exists_eq_left', exists_eq_left, exists_and_left, List.cons.injEq, and_assoc, Sl.val.injEq, PyData.bool.injEq, PyData.int.injEq, PyData.str.injEq, PyData.list.injEq, PyData.tuple.injEq, Opn.v.injEq, true_and, and_true, decide_eq_true_eq, reduceIte, Bool.false_eq_true, if_true, if_false, isStr, Option.any_some, okRes, reduceCtorEq, Zero.zero, Nat.succ_eq_add_one, Nat.reduceLeDiff, ite_true, ite_false, Bool.not_eq_true, decide_eq_false_iff_not, fi, hs]
          have hr : readW w = if (toString n : Str) = w ∧ n.natAbs ≤ 1000000000000000000 then some n else none := by unfold readW; rw [if_pos ok, hn]; rfl
          rw [hr] at q
          by_cases h4 : (toString n : Str) = w
          · rw [if_pos h4]
            have ha : ((if n < 0 then -n else n) ≤ 1000000000000000000) ↔ n.natAbs ≤ 1000000000000000000 := by split <;> omega
            by_cases h5 : n.natAbs ≤ 1000000000000000000
            · rw [if_pos (ha.mpr h5)]
              rw [if_pos ⟨h4, h5⟩] at q
              exact ⟨ioIn_of (by simp [IoF]), q⟩
            · rw [if_neg (fun z => h5 (ha.mp z))]
              rw [if_neg (fun z => h5 z.2)] at q
              exact ⟨ioIn_of (by simp [IoF]), q⟩
          · rw [if_neg h4]
            rw [if_neg (fun z => h4 z.1)] at q
            exact ⟨ioIn_of (by simp [IoF]), q⟩
      · rw [if_pos (by simp [h2])]
        refine ⟨ioIn_of (by simp [IoF]), ?_⟩
        have hr : readW w = none := by unfold readW; rw [if_neg]; intro z; exact h2 (sp.mp z).2.1
        rw [hr] at q
        exact q
    · rw [if_neg h1]
      have hr : readW w = none := by unfold readW; rw [if_neg]; intro z; exact h1 (sp.mp z).1
      rw [hr] at q
      exact ⟨ioIn_of (by simp [IoF]), q⟩
  · rename_i hc
    have hf : figs w = w := if_neg hc
    have hl : (w).length ≤ 16777216 := by have := figs_le (w := w); rw [hf] at this; omega
    have sp := figsOk_split (w := w)
    rw [hf] at sp
    simp only [dCall, dCallT, argsOf, argOf, slotsOf_s, slotsOf_v, slotsOf_nil, List.nodup_cons, List.nodup_nil, List.not_mem_nil, not_false_eq_true, updE, sSeq, sNext, sIf, sRet, sDrop, sAsg, sPar, sPar3, sBreak, sCont, gN, gSet, gT, gsCons, gsNil, dC, dVar, dOp, dChain, dNeg, dIfE, dAnd, dOr, dNot, dTup, dLst, dFn, dIsi, dM1, dApp, dExt, dSl, dDict1, qNo, qSm, oV, oS, aNil, aCons, aRev, bV, bAnd, bOr, bNot, bYes, iAny, iRg1, iRg2, iEnD, cont, conts, frz, valsOf, fn1, fn2, slotL, setL, fAdd_i, fSub_i, fLt_i, fLe_i, fGt_i, fGe_i, fEq_i, fEq_s, fNe_i, fNe_s, fIs_n, fNot_n, fIx_l, fIx_t, fLen_l, fLen_t, fInt_i, fSl_l, fSl_t, fMax_i, fMin_i, fAbs_i, fTup_l, fTup_t, fList_l, fList_t, wipeD, List.getElem?_cons_zero, List.getElem?_cons_succ, List.getElem?_nil, List.set_cons_zero, List.set_cons_succ, List.cons_append, List.nil_append, List.length_cons, List.length_nil, Nat.reduceAdd, Nat.reduceSub, List.replicate_succ, List.replicate_zero, List.take_succ_cons, List.take_zero, Option.bind_some, Option.bind_none, Option.map_some, Option.map_none, Option.some.injEq, Option.isSome_some, exists_eq_left', exists_eq_left, exists_and_left, List.cons.injEq, and_assoc, Sl.val.injEq, PyData.bool.injEq, PyData.int.injEq, PyData.str.injEq, PyData.list.injEq, PyData.tuple.injEq, Opn.v.injEq, true_and, and_true, decide_eq_true_eq, reduceIte, Bool.false_eq_true, if_true, if_false, isStr, Option.any_some, okRes, reduceCtorEq, Zero.zero, Nat.succ_eq_add_one, Nat.reduceLeDiff, ite_true, ite_false, Bool.not_eq_true, decide_eq_false_iff_not, fLen_s hl]
    by_cases h1 : (1 : Int) ≤ (w).length
    · rw [if_pos h1]
      by_cases h2 : ((w).length : Int) ≤ 19
      · rw [if_neg (by simp [h2])]
        refine lc_figs rfl (by decide) (by simp) hl ?_
        simp only [dCall, dCallT, argsOf, argOf, slotsOf_s, slotsOf_v, slotsOf_nil, List.nodup_cons, List.nodup_nil, List.not_mem_nil, not_false_eq_true, updE, sSeq, sNext, sIf, sRet, sDrop, sAsg, sPar, sPar3, sBreak, sCont, gN, gSet, gT, gsCons, gsNil, dC, dVar, dOp, dChain, dNeg, dIfE, dAnd, dOr, dNot, dTup, dLst, dFn, dIsi, dM1, dApp, dExt, dSl, dDict1, qNo, qSm, oV, oS, aNil, aCons, aRev, bV, bAnd, bOr, bNot, bYes, iAny, iRg1, iRg2, iEnD, cont, conts, frz, valsOf, fn1, fn2, slotL, setL, fAdd_i, fSub_i, fLt_i, fLe_i, fGt_i, fGe_i, fEq_i, fEq_s, fNe_i, fNe_s, fIs_n, fNot_n, fIx_l, fIx_t, fLen_l, fLen_t, fInt_i, fSl_l, fSl_t, fMax_i, fMin_i, fAbs_i, fTup_l, fTup_t, fList_l, fList_t, wipeD, List.getElem?_cons_zero, List.getElem?_cons_succ, List.getElem?_nil, List.set_cons_zero, List.set_cons_succ, List.cons_append, List.nil_append, List.length_cons, List.length_nil, Nat.reduceAdd, Nat.reduceSub, List.replicate_succ, List.replicate_zero, List.take_succ_cons, List.take_zero, Option.bind_some, Option.bind_none, Option.map_some, Option.map_none, Option.some.injEq, Option.isSome_some, exists_eq_left', exists_eq_left, exists_and_left, List.cons.injEq, and_assoc, Sl.val.injEq, PyData.bool.injEq, PyData.int.injEq, PyData.str.injEq, PyData.list.injEq, PyData.tuple.injEq, Opn.v.injEq, true_and, and_true, decide_eq_true_eq, reduceIte, Bool.false_eq_true, if_true, if_false, isStr, Option.any_some, okRes, reduceCtorEq, Zero.zero, Nat.succ_eq_add_one, Nat.reduceLeDiff, ite_true, ite_false, Bool.not_eq_true, decide_eq_false_iff_not, all_figs]
        cases h3 : (w).cps.toList.all isFig with
        | false =>
          rw [if_pos (by rfl)]
          refine ⟨ioIn_of (by simp [IoF]), ?_⟩
          have hr : readW w = none := by unfold readW; rw [if_neg]; intro z; rw [(sp.mp z).2.2] at h3; cases h3
          rw [hr] at q
          exact q
        | true =>
          rw [if_neg (by simp)]
          have ok : figsOk w = true := sp.mpr ⟨h1, h2, h3⟩
          obtain ⟨n, hn, hb, hl20⟩ := int_word ok
          have fi : fInt (.str w) = some (.val (.int n)) := by
            show (if w.length ≤ 640 then (PySem.intText? w).map fun n => Sl.val (.int n) else none) = _
            rw [if_pos (by omega), hn]; rfl
          have hs : fStr (.int n) = some (.val (.str (toString n))) := fStr_i (Nat.lt_trans (log_lt (k := 64) (Nat.lt_of_lt_of_le hb (by decide)) (by decide)) (by decide))
          simp only [dCall, dCallT, argsOf, argOf, slotsOf_s, slotsOf_v, slotsOf_nil, List.nodup_cons, List.nodup_nil, List.not_mem_nil, not_false_eq_true, updE, sSeq, sNext, sIf, sRet, sDrop, sAsg, sPar, sPar3, sBreak, sCont, gN, gSet, gT, gsCons, gsNil, dC, dVar, dOp, dChain, dNeg, dIfE, dAnd, dOr, dNot, dTup, dLst, dFn, dIsi, dM1, dApp, dExt, dSl, dDict1, qNo, qSm, oV, oS, aNil, aCons, aRev, bV, bAnd, bOr, bNot, bYes, iAny, iRg1, iRg2, iEnD, cont, conts, frz, valsOf, fn1, fn2, slotL, setL, fAdd_i, fSub_i, fLt_i, fLe_i, fGt_i, fGe_i, fEq_i, fEq_s, fNe_i, fNe_s, fIs_n, fNot_n, fIx_l, fIx_t, fLen_l, fLen_t, fInt_i, fSl_l, fSl_t, fMax_i, fMin_i, fAbs_i, fTup_l, fTup_t, fList_l, fList_t, wipeD, List.getElem?_cons_zero, List.getElem?_cons_succ, List.getElem?_nil, List.set_cons_zero, List.set_cons_succ, List.cons_append, List.nil_append, List.length_cons, List.length_nil, Nat.reduceAdd, Nat.reduceSub, List.replicate_succ, List.replicate_zero, List.take_succ_cons, List.take_zero, Option.bind_some, Option.bind_none, Option.map_some, Option.map_none, Option.some.injEq, Option.isSome_some, exists_eq_left', exists_eq_left, exists_and_left, List.cons.injEq, and_assoc, Sl.val.injEq, PyData.bool.injEq, PyData.int.injEq, PyData.str.injEq, PyData.list.injEq, PyData.tuple.injEq, Opn.v.injEq, true_and, and_true, decide_eq_true_eq, reduceIte, Bool.false_eq_true, if_true, if_false, isStr, Option.any_some, okRes, reduceCtorEq, Zero.zero, Nat.succ_eq_add_one, Nat.reduceLeDiff, ite_true, ite_false, Bool.not_eq_true, decide_eq_false_iff_not, fi, hs]
          have hr : readW w = if (toString n : Str) = w ∧ n.natAbs ≤ 1000000000000000000 then some n else none := by unfold readW; rw [if_pos ok, hn]; rfl
          rw [hr] at q
          by_cases h4 : (toString n : Str) = w
          · rw [if_pos h4]
            have ha : ((if n < 0 then -n else n) ≤ 1000000000000000000) ↔ n.natAbs ≤ 1000000000000000000 := by split <;> omega
            by_cases h5 : n.natAbs ≤ 1000000000000000000
            · rw [if_pos (ha.mpr h5)]
              rw [if_pos ⟨h4, h5⟩] at q
              exact ⟨ioIn_of (by simp [IoF]), q⟩
            · rw [if_neg (fun z => h5 (ha.mp z))]
              rw [if_neg (fun z => h5 z.2)] at q
              exact ⟨ioIn_of (by simp [IoF]), q⟩
          · rw [if_neg h4]
            rw [if_neg (fun z => h4 z.1)] at q
            exact ⟨ioIn_of (by simp [IoF]), q⟩
      · rw [if_pos (by simp [h2])]
        refine ⟨ioIn_of (by simp [IoF]), ?_⟩
        have hr : readW w = none := by unfold readW; rw [if_neg]; intro z; exact h2 (sp.mp z).2.1
        rw [hr] at q
        exact q
    · rw [if_neg h1]
      have hr : readW w = none := by unfold readW; rw [if_neg]; intro z; exact h1 (sp.mp z).1
      rw [hr] at q
      exact ⟨ioIn_of (by simp [IoF]), q⟩
end K35
namespace K35
open PySem L2 PySem.Spec PyProof.Rows PD PySem.NumText TL
theorem sum_le {l : List Nat} {k : Nat} (h : ∀ x ∈ l, x ≤ k) : l.sum ≤ l.length * k := by
  induction l with
  | nil => simp
  | cons a l ih =>
    have h1 := h a (List.mem_cons_self ..)
    have h2 := ih fun x hx => h x (List.mem_cons_of_mem _ hx)
    rw [List.sum_cons, List.length_cons, Nat.succ_mul]; omega
theorem numT_len {n : Int} (h : n.natAbs ≤ 1000000000000000000) : (numT n).length ≤ 20 := by
  have lenN : ∀ m : Nat, m ≤ 1000000000000000000 → (numL m).length ≤ 19 := fun m hm => numL_len (by decide) (Nat.lt_of_le_of_lt hm (by decide))
  rcases Int.lt_or_le n 0 with hn | hn
  · obtain ⟨m, rfl⟩ : ∃ m : Nat, n = -((m + 1 : Nat) : Int) := ⟨(-n).toNat - 1, by omega⟩
    rw [len_tl, show tl (numT (-((m + 1 : Nat) : Int))) = 45 :: numL (m + 1) from tl_negS m, List.length_cons]
    have := lenN (m + 1) (by omega); omega
  · obtain ⟨m, rfl⟩ : ∃ m : Nat, n = (m : Int) := ⟨n.toNat, by omega⟩
    rw [len_tl, show tl (numT (m : Int)) = numL m from tl_nat m]
    have := lenN m (by omega); omega
theorem join_len (y : Str) : ∀ ps : List Str, (Txt.join y ps).length ≤ (ps.map (·.length)).sum + ps.length * y.length := by
  intro ps
  rw [join_eq, len_tl, tl_join]
  have key : ∀ qs : List (List Nat), (joinL (tl y) qs).length ≤ (qs.map (·.length)).sum + qs.length * (tl y).length := by
    intro qs
    induction qs with
    | nil => simp [joinL]
    | cons a r ih =>
      cases r with
      | nil => simp [joinL]
      | cons b r =>
        show (a ++ (tl y ++ joinL (tl y) (b :: r))).length ≤ _
        rw [List.length_append, List.length_append, List.map_cons, List.sum_cons, List.length_cons, Nat.succ_mul]
        omega
  have := key (ps.map tl)
  rw [List.map_map, List.length_map, ← len_tl] at this
  rw [show ps.map (·.length) = ps.map (List.length ∘ tl) from List.map_congr_left fun x _ => len_tl x]
  exact this
theorem rowT_fits {ns : List Int} (h : small ns) : ((ns.map numT).map (·.length)).sum + (ns.map numT).length * (" " : Str).length ≤ 840 := by
  have h1 : ((ns.map numT).map (·.length)).sum ≤ ((ns.map numT).map (·.length)).length * 20 := sum_le fun x hx => by
    simp only [List.map_map, List.mem_map] at hx
    obtain ⟨n, hn, rfl⟩ := hx
    exact numT_len (h.2 n hn)
  rw [List.length_map, List.length_map] at h1
  rw [List.length_map, show (" " : Str).length = 1 from by decide]
  have := h.1
  omega
theorem rowT_len {ns : List Int} (h : small ns) : (rowT ns).length ≤ 840 := by
  unfold rowT
  split
  · exact Nat.le_trans (join_len _ _) (rowT_fits h)
  · decide
theorem inT_fits {ns : List Int} {rs : List (List Int)} (h : Good ns rs) : ((rowT ns :: rs.map rowT).map (·.length)).sum + (rowT ns :: rs.map rowT).length * ("; " : Str).length ≤ 3368 := by
  have h1 : ((rowT ns :: rs.map rowT).map (·.length)).sum ≤ ((rowT ns :: rs.map rowT).map (·.length)).length * 840 := sum_le fun x hx => by
    simp only [List.map_cons, List.map_map, List.mem_cons, List.mem_map] at hx
    rcases hx with rfl | ⟨r, hr, rfl⟩
    · exact rowT_len h.2.1
    · exact rowT_len (h.2.2.2 r hr)
  rw [List.length_map, List.length_cons, List.length_map] at h1
  rw [List.length_cons, List.length_map, show ("; " : Str).length = 2 from by decide]
  have := h.2.2.1
  omega
theorem inT_len {ns : List Int} {rs : List (List Int)} (h : Good ns rs) : (inT ns rs).length ≤ 3368 := Nat.le_trans (join_len _ _) (inT_fits h)
def txtI : PyData → PyData
  | .int n => .str (numT n)
  | d => d
theorem txt_iDs (ns : List Int) : (iDs ns).map txtI = (ns.map numT).map .str := by simp [iDs, txtI, List.map_map, Function.comp_def]
theorem iDs_small {ns : List Int} (h : small ns) : (iDs ns).length ≤ 16777216 := by rw [iDs_len]; have := h.1; omega
theorem data_numbers_text {as : List Sl} {Q : Sl → List Sl → Prop} {X : XD} (h : sp_numbers_text as Q X) : sd_numbers_text { nx := fun e => IoIn as e ∧ Q (.val .none) (e.take 1), rt := fun s e => okRes s ∧ IoIn as e ∧ Q s (e.take 1), ex := fun C f d e => IoIn as e ∧ X C f d (e.take 1) } (as ++ List.replicate (2 - as.length) .un) := by
  obtain ⟨ns, d, rfl, hd, hs, q⟩ := h
  have hw := iDs_small hs
  unfold sd_numbers_text
  rcases hd with rfl | rfl
  · simp (config := { maxSteps := 3000000 }) only [dCall, dCallT, argsOf, argOf, slotsOf_s, slotsOf_v, slotsOf_nil, List.nodup_cons, List.nodup_nil, List.not_mem_nil, not_false_eq_true, updE, sSeq, sNext, sIf, sRet, sDrop, sAsg, sPar, sPar3, sBreak, sCont, gN, gSet, gT, gsCons, gsNil, dC, dVar, dOp, dChain, dNeg, dIfE, dAnd, dOr, dNot, dTup, dLst, dFn, dIsi, dM1, dApp, dExt, dSl, dDict1, qNo, qSm, oV, oS, aNil, aCons, aRev, bV, bAnd, bOr, bNot, bYes, iAny, iRg1, iRg2, iEnD, cont, conts, frz, valsOf, fn1, fn2, slotL, setL, fAdd_i, fSub_i, fLt_i, fLe_i, fGt_i, fGe_i, fEq_i, fEq_s, fNe_i, fNe_s, fIs_n, fNot_n, fIx_l, fIx_t, fLen_l, fLen_t, fInt_i, fSl_l, fSl_t, fMax_i, fMin_i, fAbs_i, fTup_l, fTup_t, fList_l, fList_t, wipeD, List.getElem?_cons_zero, List.getElem?_cons_succ, List.getElem?_nil, List.set_cons_zero, List.set_cons_succ, List.cons_append, List.nil_append, List.length_cons, List.length_nil, Nat.reduceAdd, Nat.reduceSub, List.replicate_succ, List.replicate_zero, List.take_succ_cons, List.take_zero, Option.bind_some, Option.bind_none, Option.map_some, Option.map_none, Option.some.injEq, Option.isSome_some, exists_eq_left', exists_eq_left, exists_and_left, List.cons.injEq, and_assoc, Sl.val.injEq, PyData.bool.injEq, PyData.int.injEq, PyData.str.injEq, PyData.list.injEq, PyData.tuple.injEq, Opn.v.injEq, true_and, and_true, decide_eq_true_eq, reduceIte, Bool.false_eq_true, if_true, if_false, isStr, Option.any_some, okRes, reduceCtorEq, Zero.zero, Nat.succ_eq_add_one, Nat.reduceLeDiff, ite_true, ite_false, Bool.not_eq_true, decide_eq_false_iff_not, iDs_len]
    by_cases h0 : (0 : Int) < ns.length
    · rw [if_pos h0]
      refine lc_gen (iDs ns) txtI [.val (.tuple (iDs ns)), .un] (fun R hR => ?_) (fun x hx R hR => ?_) ?_
      · simp (config := { maxSteps := 3000000 }) only [dCall, dCallT, argsOf, argOf, slotsOf_s, slotsOf_v, slotsOf_nil, List.nodup_cons, List.nodup_nil, List.not_mem_nil, not_false_eq_true, updE, sSeq, sNext, sIf, sRet, sDrop, sAsg, sPar, sPar3, sBreak, sCont, gN, gSet, gT, gsCons, gsNil, dC, dVar, dOp, dChain, dNeg, dIfE, dAnd, dOr, dNot, dTup, dLst, dFn, dIsi, dM1, dApp, dExt, dSl, dDict1, qNo, qSm, oV, oS, aNil, aCons, aRev, bV, bAnd, bOr, bNot, bYes, iAny, iRg1, iRg2, iEnD, cont, conts, frz, valsOf, fn1, fn2, slotL, setL, fAdd_i, fSub_i, fLt_i, fLe_i, fGt_i, fGe_i, fEq_i, fEq_s, fNe_i, fNe_s, fIs_n, fNot_n, fIx_l, fIx_t, fLen_l, fLen_t, fInt_i, fSl_l, fSl_t, fMax_i, fMin_i, fAbs_i, fTup_l, fTup_t, fList_l, fList_t, wipeD, List.getElem?_cons_zero, List.getElem?_cons_succ, List.getElem?_nil, List.set_cons_zero, List.set_cons_succ, List.cons_append, List.nil_append, List.length_cons, List.length_nil, Nat.reduceAdd, Nat.reduceSub, List.replicate_succ, List.replicate_zero, List.take_succ_cons, List.take_zero, Option.bind_some, Option.bind_none, Option.map_some, Option.map_none, Option.some.injEq, Option.isSome_some, exists_eq_left', exists_eq_left, exists_and_left, List.cons.injEq, and_assoc, Sl.val.injEq, PyData.bool.injEq, PyData.int.injEq, PyData.str.injEq, PyData.list.injEq, PyData.tuple.injEq, Opn.v.injEq, true_and, and_true, decide_eq_true_eq, reduceIte, Bool.false_eq_true, if_true, if_false, isStr, Option.any_some, okRes, reduceCtorEq, Zero.zero, Nat.succ_eq_add_one, Nat.reduceLeDiff, ite_true, ite_false, Bool.not_eq_true, decide_eq_false_iff_not, walk_t hw]
        exact hR
      · simp only [iDs, List.mem_map] at hx
        obtain ⟨n, hn, rfl⟩ := hx
        simp (config := { maxSteps := 3000000 }) only [dCall, dCallT, argsOf, argOf, slotsOf_s, slotsOf_v, slotsOf_nil, List.nodup_cons, List.nodup_nil, List.not_mem_nil, not_false_eq_true, updE, sSeq, sNext, sIf, sRet, sDrop, sAsg, sPar, sPar3, sBreak, sCont, gN, gSet, gT, gsCons, gsNil, dC, dVar, dOp, dChain, dNeg, dIfE, dAnd, dOr, dNot, dTup, dLst, dFn, dIsi, dM1, dApp, dExt, dSl, dDict1, qNo, qSm, oV, oS, aNil, aCons, aRev, bV, bAnd, bOr, bNot, bYes, iAny, iRg1, iRg2, iEnD, cont, conts, frz, valsOf, fn1, fn2, slotL, setL, fAdd_i, fSub_i, fLt_i, fLe_i, fGt_i, fGe_i, fEq_i, fEq_s, fNe_i, fNe_s, fIs_n, fNot_n, fIx_l, fIx_t, fLen_l, fLen_t, fInt_i, fSl_l, fSl_t, fMax_i, fMin_i, fAbs_i, fTup_l, fTup_t, fList_l, fList_t, wipeD, List.getElem?_cons_zero, List.getElem?_cons_succ, List.getElem?_nil, List.set_cons_zero, List.set_cons_succ, List.cons_append, List.nil_append, List.length_cons, List.length_nil, Nat.reduceAdd, Nat.reduceSub, List.replicate_succ, List.replicate_zero, List.take_succ_cons, List.take_zero, Option.bind_some, Option.bind_none, Option.map_some, Option.map_none, Option.some.injEq, Option.isSome_some, exists_eq_left', exists_eq_left, exists_and_left, List.cons.injEq, and_assoc, Sl.val.injEq, PyData.bool.injEq, PyData.int.injEq, PyData.str.injEq, PyData.list.injEq, PyData.tuple.injEq, Opn.v.injEq, true_and, and_true, decide_eq_true_eq, reduceIte, Bool.false_eq_true, if_true, if_false, isStr, Option.any_some, okRes, reduceCtorEq, Zero.zero, Nat.succ_eq_add_one, Nat.reduceLeDiff, ite_true, ite_false, Bool.not_eq_true, decide_eq_false_iff_not]
        exact ⟨n, rfl, hs.2 n hn, hR _ rfl⟩
      · rw [txt_iDs]
        simp (config := { maxSteps := 3000000 }) only [dCall, dCallT, argsOf, argOf, slotsOf_s, slotsOf_v, slotsOf_nil, List.nodup_cons, List.nodup_nil, List.not_mem_nil, not_false_eq_true, updE, sSeq, sNext, sIf, sRet, sDrop, sAsg, sPar, sPar3, sBreak, sCont, gN, gSet, gT, gsCons, gsNil, dC, dVar, dOp, dChain, dNeg, dIfE, dAnd, dOr, dNot, dTup, dLst, dFn, dIsi, dM1, dApp, dExt, dSl, dDict1, qNo, qSm, oV, oS, aNil, aCons, aRev, bV, bAnd, bOr, bNot, bYes, iAny, iRg1, iRg2, iEnD, cont, conts, frz, valsOf, fn1, fn2, slotL, setL, fAdd_i, fSub_i, fLt_i, fLe_i, fGt_i, fGe_i, fEq_i, fEq_s, fNe_i, fNe_s, fIs_n, fNot_n, fIx_l, fIx_t, fLen_l, fLen_t, fInt_i, fSl_l, fSl_t, fMax_i, fMin_i, fAbs_i, fTup_l, fTup_t, fList_l, fList_t, wipeD, List.getElem?_cons_zero, List.getElem?_cons_succ, List.getElem?_nil, List.set_cons_zero, List.set_cons_succ, List.cons_append, List.nil_append, List.length_cons, List.length_nil, Nat.reduceAdd, Nat.reduceSub, List.replicate_succ, List.replicate_zero, List.take_succ_cons, List.take_zero, Option.bind_some, Option.bind_none, Option.map_some, Option.map_none, Option.some.injEq, Option.isSome_some, exists_eq_left', exists_eq_left, exists_and_left, List.cons.injEq, and_assoc, Sl.val.injEq, PyData.bool.injEq, PyData.int.injEq, PyData.str.injEq, PyData.list.injEq, PyData.tuple.injEq, Opn.v.injEq, true_and, and_true, decide_eq_true_eq, reduceIte, Bool.false_eq_true, if_true, if_false, isStr, Option.any_some, okRes, reduceCtorEq, Zero.zero, Nat.succ_eq_add_one, Nat.reduceLeDiff, ite_true, ite_false, Bool.not_eq_true, decide_eq_false_iff_not, fJoin_l (Nat.le_trans (rowT_fits hs) (by decide))]
        refine ⟨ioIn_of (by simp [IoF]), ?_⟩
        unfold rowT at q
        rw [if_pos (by omega)] at q
        exact q
    · rw [if_neg h0]
      refine ⟨ioIn_of (by simp [IoF]), ?_⟩
      unfold rowT at q
      rw [if_neg (by omega)] at q
      exact q
  · simp (config := { maxSteps := 3000000 }) only [dCall, dCallT, argsOf, argOf, slotsOf_s, slotsOf_v, slotsOf_nil, List.nodup_cons, List.nodup_nil, List.not_mem_nil, not_false_eq_true, updE, sSeq, sNext, sIf, sRet, sDrop, sAsg, sPar, sPar3, sBreak, sCont, gN, gSet, gT, gsCons, gsNil, dC, dVar, dOp, dChain, dNeg, dIfE, dAnd, dOr, dNot, dTup, dLst, dFn, dIsi, dM1, dApp, dExt, dSl, dDict1, qNo, qSm, oV, oS, aNil, aCons, aRev, bV, bAnd, bOr, bNot, bYes, iAny, iRg1, iRg2, iEnD, cont, conts, frz, valsOf, fn1, fn2, slotL, setL, fAdd_i, fSub_i, fLt_i, fLe_i, fGt_i, fGe_i, fEq_i, fEq_s, fNe_i, fNe_s, fIs_n, fNot_n, fIx_l, fIx_t, fLen_l, fLen_t, fInt_i, fSl_l, fSl_t, fMax_i, fMin_i, fAbs_i, fTup_l, fTup_t, fList_l, fList_t, wipeD, List.getElem?_cons_zero, List.getElem?_cons_succ, List.getElem?_nil, List.set_cons_zero, List.set_cons_succ, List.cons_append, List.nil_append, List.length_cons, List.length_nil, Nat.reduceAdd, Nat.reduceSub, List.replicate_succ, List.replicate_zero, List.take_succ_cons, List.take_zero, Option.bind_some, Option.bind_none, Option.map_some, Option.map_none, Option.some.injEq, Option.isSome_some, exists_eq_left', exists_eq_left, exists_and_left, List.cons.injEq, and_assoc, Sl.val.injEq, PyData.bool.injEq, PyData.int.injEq, PyData.str.injEq, PyData.list.injEq, PyData.tuple.injEq, Opn.v.injEq, true_and, and_true, decide_eq_true_eq, reduceIte, Bool.false_eq_true, if_true, if_false, isStr, Option.any_some, okRes, reduceCtorEq, Zero.zero, Nat.succ_eq_add_one, Nat.reduceLeDiff, ite_true, ite_false, Bool.not_eq_true, decide_eq_false_iff_not, iDs_len]
    by_cases h0 : (0 : Int) < ns.length
    · rw [if_pos h0]
      refine lc_gen (iDs ns) txtI [.val (.list (iDs ns)), .un] (fun R hR => ?_) (fun x hx R hR => ?_) ?_
      · simp (config := { maxSteps := 3000000 }) only [dCall, dCallT, argsOf, argOf, slotsOf_s, slotsOf_v, slotsOf_nil, List.nodup_cons, List.nodup_nil, List.not_mem_nil, not_false_eq_true, updE, sSeq, sNext, sIf, sRet, sDrop, sAsg, sPar, sPar3, sBreak, sCont, gN, gSet, gT, gsCons, gsNil, dC, dVar, dOp, dChain, dNeg, dIfE, dAnd, dOr, dNot, dTup, dLst, dFn, dIsi, dM1, dApp, dExt, dSl, dDict1, qNo, qSm, oV, oS, aNil, aCons, aRev, bV, bAnd, bOr, bNot, bYes, iAny, iRg1, iRg2, iEnD, cont, conts, frz, valsOf, fn1, fn2, slotL, setL, fAdd_i, fSub_i, fLt_i, fLe_i, fGt_i, fGe_i, fEq_i, fEq_s, fNe_i, fNe_s, fIs_n, fNot_n, fIx_l, fIx_t, fLen_l, fLen_t, fInt_i, fSl_l, fSl_t, fMax_i, fMin_i, fAbs_i, fTup_l, fTup_t, fList_l, fList_t, wipeD, List.getElem?_cons_zero, List.getElem?_cons_succ, List.getElem?_nil, List.set_cons_zero, List.set_cons_succ, List.cons_append, List.nil_append, List.length_cons, List.length_nil, Nat.reduceAdd, Nat.reduceSub, List.replicate_succ, List.replicate_zero, List.take_succ_cons, List.take_zero, Option.bind_some, Option.bind_none, Option.map_some, Option.map_none, Option.some.injEq, Option.isSome_some, exists_eq_left', exists_eq_left, exists_and_left, List.cons.injEq, and_assoc, Sl.val.injEq, PyData.bool.injEq, PyData.int.injEq, PyData.str.injEq, PyData.list.injEq, PyData.tuple.injEq, Opn.v.injEq, true_and, and_true, decide_eq_true_eq, reduceIte, Bool.false_eq_true, if_true, if_false, isStr, Option.any_some, okRes, reduceCtorEq, Zero.zero, Nat.succ_eq_add_one, Nat.reduceLeDiff, ite_true, ite_false, Bool.not_eq_true, decide_eq_false_iff_not, walk_l hw]
        exact hR
      · simp only [iDs, List.mem_map] at hx
        obtain ⟨n, hn, rfl⟩ := hx
        simp (config := { maxSteps := 3000000 }) only [dCall, dCallT, argsOf, argOf, slotsOf_s, slotsOf_v, slotsOf_nil, List.nodup_cons, List.nodup_nil, List.not_mem_nil, not_false_eq_true, updE, sSeq, sNext, sIf, sRet, sDrop, sAsg, sPar, sPar3, sBreak, sCont, gN, gSet, gT, gsCons, gsNil, dC, dVar, dOp, dChain, dNeg, dIfE, dAnd, dOr, dNot, dTup, dLst, dFn, dIsi, dM1, dApp, dExt, dSl, dDict1, qNo, qSm, oV, oS, aNil, aCons, aRev, bV, bAnd, bOr, bNot, bYes, iAny, iRg1, iRg2, iEnD, cont, conts, frz, valsOf, fn1, fn2, slotL, setL, fAdd_i, fSub_i, fLt_i, fLe_i, fGt_i, fGe_i, fEq_i, fEq_s, fNe_i, fNe_s, fIs_n, fNot_n, fIx_l, fIx_t, fLen_l, fLen_t, fInt_i, fSl_l, fSl_t, fMax_i, fMin_i, fAbs_i, fTup_l, fTup_t, fList_l, fList_t, wipeD, List.getElem?_cons_zero, List.getElem?_cons_succ, List.getElem?_nil, List.set_cons_zero, List.set_cons_succ, List.cons_append, List.nil_append, List.length_cons, List.length_nil, Nat.reduceAdd, Nat.reduceSub, List.replicate_succ, List.replicate_zero, List.take_succ_cons, List.take_zero, Option.bind_some, Option.bind_none, Option.map_some, Option.map_none, Option.some.injEq, Option.isSome_some, exists_eq_left', exists_eq_left, exists_and_left, List.cons.injEq, and_assoc, Sl.val.injEq, PyData.bool.injEq, PyData.int.injEq, PyData.str.injEq, PyData.list.injEq, PyData.tuple.injEq, Opn.v.injEq, true_and, and_true, decide_eq_true_eq, reduceIte, Bool.false_eq_true, if_true, if_false, isStr, Option.any_some, okRes, reduceCtorEq, Zero.zero, Nat.succ_eq_add_one, Nat.reduceLeDiff, ite_true, ite_false, Bool.not_eq_true, decide_eq_false_iff_not]
        exact ⟨n, rfl, hs.2 n hn, hR _ rfl⟩
      · rw [txt_iDs]
        simp (config := { maxSteps := 3000000 }) only [dCall, dCallT, argsOf, argOf, slotsOf_s, slotsOf_v, slotsOf_nil, List.nodup_cons, List.nodup_nil, List.not_mem_nil, not_false_eq_true, updE, sSeq, sNext, sIf, sRet, sDrop, sAsg, sPar, sPar3, sBreak, sCont, gN, gSet, gT, gsCons, gsNil, dC, dVar, dOp, dChain, dNeg, dIfE, dAnd, dOr, dNot, dTup, dLst, dFn, dIsi, dM1, dApp, dExt, dSl, dDict1, qNo, qSm, oV, oS, aNil, aCons, aRev, bV, bAnd, bOr, bNot, bYes, iAny, iRg1, iRg2, iEnD, cont, conts, frz, valsOf, fn1, fn2, slotL, setL, fAdd_i, fSub_i, fLt_i, fLe_i, fGt_i, fGe_i, fEq_i, fEq_s, fNe_i, fNe_s, fIs_n, fNot_n, fIx_l, fIx_t, fLen_l, fLen_t, fInt_i, fSl_l, fSl_t, fMax_i, fMin_i, fAbs_i, fTup_l, fTup_t, fList_l, fList_t, wipeD, List.getElem?_cons_zero, List.getElem?_cons_succ, List.getElem?_nil, List.set_cons_zero, List.set_cons_succ, List.cons_append, List.nil_append, List.length_cons, List.length_nil, Nat.reduceAdd, Nat.reduceSub, List.replicate_succ, List.replicate_zero, List.take_succ_cons, List.take_zero, Option.bind_some, Option.bind_none, Option.map_some, Option.map_none, Option.some.injEq, Option.isSome_some, exists_eq_left', exists_eq_left, exists_and_left, List.cons.injEq, and_assoc, Sl.val.injEq, PyData.bool.injEq, PyData.int.injEq, PyData.str.injEq, PyData.list.injEq, PyData.tuple.injEq, Opn.v.injEq, true_and, and_true, decide_eq_true_eq, reduceIte, Bool.false_eq_true, if_true, if_false, isStr, Option.any_some, okRes, reduceCtorEq, Zero.zero, Nat.succ_eq_add_one, Nat.reduceLeDiff, ite_true, ite_false, Bool.not_eq_true, decide_eq_false_iff_not, fJoin_l (Nat.le_trans (rowT_fits hs) (by decide))]
        refine ⟨ioIn_of (by simp [IoF]), ?_⟩
        unfold rowT at q
        rw [if_pos (by omega)] at q
        exact q
    · rw [if_neg h0]
      refine ⟨ioIn_of (by simp [IoF]), ?_⟩
      unfold rowT at q
      rw [if_neg (by omega)] at q
      exact q
def rowD : PyData → PyData
  | .tuple ds => (match intsD ds with | some ns => .str (rowT ns) | none => .none)
  | .list ds => (match intsD ds with | some ns => .str (rowT ns) | none => .none)
  | d => d
theorem x0 (x y : PyData) : atI [x, y] 0 = some x := rfl
theorem x1 (x y : PyData) : atI [x, y] 1 = some y := rfl
theorem rowD_t (ns : List Int) : rowD (.tuple (iDs ns)) = .str (rowT ns) := by simp [rowD, iDs, ints_back]
theorem rowD_l (ns : List Int) : rowD (.list (iDs ns)) = .str (rowT ns) := by simp [rowD, iDs, ints_back]
theorem len1 : ([] : List PyData).length ≤ 1000 := by decide
theorem k1 : (1 : Nat) ≤ 1000 := by decide
theorem k2 : (2 : Nat) ≤ 1000 := by decide
theorem data_inputs_text {as : List Sl} {Q : Sl → List Sl → Prop} {X : XD} (h : sp_inputs_text as Q X) : sd_inputs_text { nx := fun e => IoIn as e ∧ Q (.val .none) (e.take 1), rt := fun s e => okRes s ∧ IoIn as e ∧ Q s (e.take 1), ex := fun C f d e => IoIn as e ∧ X C f d (e.take 1) } (as ++ List.replicate (2 - as.length) .un) := by
  obtain ⟨ns, rs, d, rfl, hd, hg, q⟩ := h
  have hr3 : rs.length ≤ 16777216 := by have := hg.2.2.1; omega
  unfold sd_inputs_text
  rcases hd with rfl | rfl
  · unfold inD
    simp (config := { maxSteps := 3000000 }) only [dCall, dCallT, argsOf, argOf, slotsOf_s, slotsOf_v, slotsOf_nil, List.nodup_cons, List.nodup_nil, List.not_mem_nil, not_false_eq_true, updE, sSeq, sNext, sIf, sRet, sDrop, sAsg, sPar, sPar3, sBreak, sCont, gN, gSet, gT, gsCons, gsNil, dC, dVar, dOp, dChain, dNeg, dIfE, dAnd, dOr, dNot, dTup, dLst, dFn, dIsi, dM1, dApp, dExt, dSl, dDict1, qNo, qSm, oV, oS, aNil, aCons, aRev, bV, bAnd, bOr, bNot, bYes, iAny, iRg1, iRg2, iEnD, cont, conts, frz, valsOf, fn1, fn2, slotL, setL, fAdd_i, fSub_i, fLt_i, fLe_i, fGt_i, fGe_i, fEq_i, fEq_s, fNe_i, fNe_s, fIs_n, fNot_n, fIx_l, fIx_t, fLen_l, fLen_t, fInt_i, fSl_l, fSl_t, fMax_i, fMin_i, fAbs_i, fTup_l, fTup_t, fList_l, fList_t, wipeD, List.getElem?_cons_zero, List.getElem?_cons_succ, List.getElem?_nil, List.set_cons_zero, List.set_cons_succ, List.cons_append, List.nil_append, List.length_cons, List.length_nil, Nat.reduceAdd, Nat.reduceSub, List.replicate_succ, List.replicate_zero, List.take_succ_cons, List.take_zero, Option.bind_some, Option.bind_none, Option.map_some, Option.map_none, Option.some.injEq, Option.isSome_some, exists_eq_left', exists_eq_left, exists_and_left, List.cons.injEq, and_assoc, Sl.val.injEq, PyData.bool.injEq, PyData.int.injEq, PyData.str.injEq, PyData.list.injEq, PyData.tuple.injEq, Opn.v.injEq, true_and, and_true, decide_eq_true_eq, reduceIte, Bool.false_eq_true, if_true, if_false, isStr, Option.any_some, okRes, reduceCtorEq, Zero.zero, Nat.succ_eq_add_one, Nat.reduceLeDiff, ite_true, ite_false, Bool.not_eq_true, decide_eq_false_iff_not, x0, x1]
    refine ⟨ns, _, rfl, .inl rfl, hg.2.1, ?_⟩
    simp (config := { maxSteps := 3000000 }) only [dCall, dCallT, argsOf, argOf, slotsOf_s, slotsOf_v, slotsOf_nil, List.nodup_cons, List.nodup_nil, List.not_mem_nil, not_false_eq_true, updE, sSeq, sNext, sIf, sRet, sDrop, sAsg, sPar, sPar3, sBreak, sCont, gN, gSet, gT, gsCons, gsNil, dC, dVar, dOp, dChain, dNeg, dIfE, dAnd, dOr, dNot, dTup, dLst, dFn, dIsi, dM1, dApp, dExt, dSl, dDict1, qNo, qSm, oV, oS, aNil, aCons, aRev, bV, bAnd, bOr, bNot, bYes, iAny, iRg1, iRg2, iEnD, cont, conts, frz, valsOf, fn1, fn2, slotL, setL, fAdd_i, fSub_i, fLt_i, fLe_i, fGt_i, fGe_i, fEq_i, fEq_s, fNe_i, fNe_s, fIs_n, fNot_n, fIx_l, fIx_t, fLen_l, fLen_t, fInt_i, fSl_l, fSl_t, fMax_i, fMin_i, fAbs_i, fTup_l, fTup_t, fList_l, fList_t, wipeD, List.getElem?_cons_zero, List.getElem?_cons_succ, List.getElem?_nil, List.set_cons_zero, List.set_cons_succ, List.cons_append, List.nil_append, List.length_cons, List.length_nil, Nat.reduceAdd, Nat.reduceSub, List.replicate_succ, List.replicate_zero, List.take_succ_cons, List.take_zero, Option.bind_some, Option.bind_none, Option.map_some, Option.map_none, Option.some.injEq, Option.isSome_some, exists_eq_left', exists_eq_left, exists_and_left, List.cons.injEq, and_assoc, Sl.val.injEq, PyData.bool.injEq, PyData.int.injEq, PyData.str.injEq, PyData.list.injEq, PyData.tuple.injEq, Opn.v.injEq, true_and, and_true, decide_eq_true_eq, reduceIte, Bool.false_eq_true, if_true, if_false, isStr, Option.any_some, okRes, reduceCtorEq, Zero.zero, Nat.succ_eq_add_one, Nat.reduceLeDiff, ite_true, ite_false, Bool.not_eq_true, decide_eq_false_iff_not, k1]
    refine lc_gen (rs.map fun r => PyData.tuple (iDs r)) rowD [.val (inD ns rs), .un] (fun R hR => ?_) (fun x hx R hR => ?_) ?_
    · simp (config := { maxSteps := 3000000 }) only [dCall, dCallT, argsOf, argOf, slotsOf_s, slotsOf_v, slotsOf_nil, List.nodup_cons, List.nodup_nil, List.not_mem_nil, not_false_eq_true, updE, sSeq, sNext, sIf, sRet, sDrop, sAsg, sPar, sPar3, sBreak, sCont, gN, gSet, gT, gsCons, gsNil, dC, dVar, dOp, dChain, dNeg, dIfE, dAnd, dOr, dNot, dTup, dLst, dFn, dIsi, dM1, dApp, dExt, dSl, dDict1, qNo, qSm, oV, oS, aNil, aCons, aRev, bV, bAnd, bOr, bNot, bYes, iAny, iRg1, iRg2, iEnD, cont, conts, frz, valsOf, fn1, fn2, slotL, setL, fAdd_i, fSub_i, fLt_i, fLe_i, fGt_i, fGe_i, fEq_i, fEq_s, fNe_i, fNe_s, fIs_n, fNot_n, fIx_l, fIx_t, fLen_l, fLen_t, fInt_i, fSl_l, fSl_t, fMax_i, fMin_i, fAbs_i, fTup_l, fTup_t, fList_l, fList_t, wipeD, List.getElem?_cons_zero, List.getElem?_cons_succ, List.getElem?_nil, List.set_cons_zero, List.set_cons_succ, List.cons_append, List.nil_append, List.length_cons, List.length_nil, Nat.reduceAdd, Nat.reduceSub, List.replicate_succ, List.replicate_zero, List.take_succ_cons, List.take_zero, Option.bind_some, Option.bind_none, Option.map_some, Option.map_none, Option.some.injEq, Option.isSome_some, exists_eq_left', exists_eq_left, exists_and_left, List.cons.injEq, and_assoc, Sl.val.injEq, PyData.bool.injEq, PyData.int.injEq, PyData.str.injEq, PyData.list.injEq, PyData.tuple.injEq, Opn.v.injEq, true_and, and_true, decide_eq_true_eq, reduceIte, Bool.false_eq_true, if_true, if_false, isStr, Option.any_some, okRes, reduceCtorEq, Zero.zero, Nat.succ_eq_add_one, Nat.reduceLeDiff, ite_true, ite_false, Bool.not_eq_true, decide_eq_false_iff_not, inD, x1, walk_t (ds := rs.map fun r => PyData.tuple (iDs r)) (by simpa using hr3)]
      exact hR
    · simp only [List.mem_map] at hx
      obtain ⟨r, hr, rfl⟩ := hx
      simp (config := { maxSteps := 3000000 }) only [dCall, dCallT, argsOf, argOf, slotsOf_s, slotsOf_v, slotsOf_nil, List.nodup_cons, List.nodup_nil, List.not_mem_nil, not_false_eq_true, updE, sSeq, sNext, sIf, sRet, sDrop, sAsg, sPar, sPar3, sBreak, sCont, gN, gSet, gT, gsCons, gsNil, dC, dVar, dOp, dChain, dNeg, dIfE, dAnd, dOr, dNot, dTup, dLst, dFn, dIsi, dM1, dApp, dExt, dSl, dDict1, qNo, qSm, oV, oS, aNil, aCons, aRev, bV, bAnd, bOr, bNot, bYes, iAny, iRg1, iRg2, iEnD, cont, conts, frz, valsOf, fn1, fn2, slotL, setL, fAdd_i, fSub_i, fLt_i, fLe_i, fGt_i, fGe_i, fEq_i, fEq_s, fNe_i, fNe_s, fIs_n, fNot_n, fIx_l, fIx_t, fLen_l, fLen_t, fInt_i, fSl_l, fSl_t, fMax_i, fMin_i, fAbs_i, fTup_l, fTup_t, fList_l, fList_t, wipeD, List.getElem?_cons_zero, List.getElem?_cons_succ, List.getElem?_nil, List.set_cons_zero, List.set_cons_succ, List.cons_append, List.nil_append, List.length_cons, List.length_nil, Nat.reduceAdd, Nat.reduceSub, List.replicate_succ, List.replicate_zero, List.take_succ_cons, List.take_zero, Option.bind_some, Option.bind_none, Option.map_some, Option.map_none, Option.some.injEq, Option.isSome_some, exists_eq_left', exists_eq_left, exists_and_left, List.cons.injEq, and_assoc, Sl.val.injEq, PyData.bool.injEq, PyData.int.injEq, PyData.str.injEq, PyData.list.injEq, PyData.tuple.injEq, Opn.v.injEq, true_and, and_true, decide_eq_true_eq, reduceIte, Bool.false_eq_true, if_true, if_false, isStr, Option.any_some, okRes, reduceCtorEq, Zero.zero, Nat.succ_eq_add_one, Nat.reduceLeDiff, ite_true, ite_false, Bool.not_eq_true, decide_eq_false_iff_not]
      exact ⟨r, _, rfl, .inl rfl, hg.2.2.2 r hr, hR _ (by rw [rowD_t]; rfl)⟩
    · have e : [PyData.str (rowT ns)] ++ (rs.map fun r => PyData.tuple (iDs r)).map rowD = (rowT ns :: rs.map rowT).map .str := by
        simp only [List.map_map, List.map_cons, List.cons_append, List.nil_append]
        congr 1
        exact List.map_congr_left fun r _ => by simp only [Function.comp_def]; exact rowD_t r
      have fa := fAdd_l (ds := [PyData.str (rowT ns)]) (es := (rs.map fun r => PyData.tuple (iDs r)).map rowD) (by simp; have := hg.2.2.1; omega)
      rw [e] at fa
      simp (config := { maxSteps := 3000000 }) only [dCall, dCallT, argsOf, argOf, slotsOf_s, slotsOf_v, slotsOf_nil, List.nodup_cons, List.nodup_nil, List.not_mem_nil, not_false_eq_true, updE, sSeq, sNext, sIf, sRet, sDrop, sAsg, sPar, sPar3, sBreak, sCont, gN, gSet, gT, gsCons, gsNil, dC, dVar, dOp, dChain, dNeg, dIfE, dAnd, dOr, dNot, dTup, dLst, dFn, dIsi, dM1, dApp, dExt, dSl, dDict1, qNo, qSm, oV, oS, aNil, aCons, aRev, bV, bAnd, bOr, bNot, bYes, iAny, iRg1, iRg2, iEnD, cont, conts, frz, valsOf, fn1, fn2, slotL, setL, fAdd_i, fSub_i, fLt_i, fLe_i, fGt_i, fGe_i, fEq_i, fEq_s, fNe_i, fNe_s, fIs_n, fNot_n, fIx_l, fIx_t, fLen_l, fLen_t, fInt_i, fSl_l, fSl_t, fMax_i, fMin_i, fAbs_i, fTup_l, fTup_t, fList_l, fList_t, wipeD, List.getElem?_cons_zero, List.getElem?_cons_succ, List.getElem?_nil, List.set_cons_zero, List.set_cons_succ, List.cons_append, List.nil_append, List.length_cons, List.length_nil, Nat.reduceAdd, Nat.reduceSub, List.replicate_succ, List.replicate_zero, List.take_succ_cons, List.take_zero, Option.bind_some, Option.bind_none, Option.map_some, Option.map_none, Option.some.injEq, Option.isSome_some, exists_eq_left', exists_eq_left, exists_and_left, List.cons.injEq, and_assoc, Sl.val.injEq, PyData.bool.injEq, PyData.int.injEq, PyData.str.injEq, PyData.list.injEq, PyData.tuple.injEq, Opn.v.injEq, true_and, and_true, decide_eq_true_eq, reduceIte, Bool.false_eq_true, if_true, if_false, isStr, Option.any_some, okRes, reduceCtorEq, Zero.zero, Nat.succ_eq_add_one, Nat.reduceLeDiff, ite_true, ite_false, Bool.not_eq_true, decide_eq_false_iff_not, fa, fJoin_l (Nat.le_trans (inT_fits hg) (by decide))]
      exact ⟨ioIn_of (by simp [IoF]), q⟩
  · unfold inL
    simp (config := { maxSteps := 3000000 }) only [dCall, dCallT, argsOf, argOf, slotsOf_s, slotsOf_v, slotsOf_nil, List.nodup_cons, List.nodup_nil, List.not_mem_nil, not_false_eq_true, updE, sSeq, sNext, sIf, sRet, sDrop, sAsg, sPar, sPar3, sBreak, sCont, gN, gSet, gT, gsCons, gsNil, dC, dVar, dOp, dChain, dNeg, dIfE, dAnd, dOr, dNot, dTup, dLst, dFn, dIsi, dM1, dApp, dExt, dSl, dDict1, qNo, qSm, oV, oS, aNil, aCons, aRev, bV, bAnd, bOr, bNot, bYes, iAny, iRg1, iRg2, iEnD, cont, conts, frz, valsOf, fn1, fn2, slotL, setL, fAdd_i, fSub_i, fLt_i, fLe_i, fGt_i, fGe_i, fEq_i, fEq_s, fNe_i, fNe_s, fIs_n, fNot_n, fIx_l, fIx_t, fLen_l, fLen_t, fInt_i, fSl_l, fSl_t, fMax_i, fMin_i, fAbs_i, fTup_l, fTup_t, fList_l, fList_t, wipeD, List.getElem?_cons_zero, List.getElem?_cons_succ, List.getElem?_nil, List.set_cons_zero, List.set_cons_succ, List.cons_append, List.nil_append, List.length_cons, List.length_nil, Nat.reduceAdd, Nat.reduceSub, List.replicate_succ, List.replicate_zero, List.take_succ_cons, List.take_zero, Option.bind_some, Option.bind_none, Option.map_some, Option.map_none, Option.some.injEq, Option.isSome_some, exists_eq_left', exists_eq_left, exists_and_left, List.cons.injEq, and_assoc, Sl.val.injEq, PyData.bool.injEq, PyData.int.injEq, PyData.str.injEq, PyData.list.injEq, PyData.tuple.injEq, Opn.v.injEq, true_and, and_true, decide_eq_true_eq, reduceIte, Bool.false_eq_true, if_true, if_false, isStr, Option.any_some, okRes, reduceCtorEq, Zero.zero, Nat.succ_eq_add_one, Nat.reduceLeDiff, ite_true, ite_false, Bool.not_eq_true, decide_eq_false_iff_not, x0, x1]
    refine ⟨ns, _, rfl, .inr rfl, hg.2.1, ?_⟩
    simp (config := { maxSteps := 3000000 }) only [dCall, dCallT, argsOf, argOf, slotsOf_s, slotsOf_v, slotsOf_nil, List.nodup_cons, List.nodup_nil, List.not_mem_nil, not_false_eq_true, updE, sSeq, sNext, sIf, sRet, sDrop, sAsg, sPar, sPar3, sBreak, sCont, gN, gSet, gT, gsCons, gsNil, dC, dVar, dOp, dChain, dNeg, dIfE, dAnd, dOr, dNot, dTup, dLst, dFn, dIsi, dM1, dApp, dExt, dSl, dDict1, qNo, qSm, oV, oS, aNil, aCons, aRev, bV, bAnd, bOr, bNot, bYes, iAny, iRg1, iRg2, iEnD, cont, conts, frz, valsOf, fn1, fn2, slotL, setL, fAdd_i, fSub_i, fLt_i, fLe_i, fGt_i, fGe_i, fEq_i, fEq_s, fNe_i, fNe_s, fIs_n, fNot_n, fIx_l, fIx_t, fLen_l, fLen_t, fInt_i, fSl_l, fSl_t, fMax_i, fMin_i, fAbs_i, fTup_l, fTup_t, fList_l, fList_t, wipeD, List.getElem?_cons_zero, List.getElem?_cons_succ, List.getElem?_nil, List.set_cons_zero, List.set_cons_succ, List.cons_append, List.nil_append, List.length_cons, List.length_nil, Nat.reduceAdd, Nat.reduceSub, List.replicate_succ, List.replicate_zero, List.take_succ_cons, List.take_zero, Option.bind_some, Option.bind_none, Option.map_some, Option.map_none, Option.some.injEq, Option.isSome_some, exists_eq_left', exists_eq_left, exists_and_left, List.cons.injEq, and_assoc, Sl.val.injEq, PyData.bool.injEq, PyData.int.injEq, PyData.str.injEq, PyData.list.injEq, PyData.tuple.injEq, Opn.v.injEq, true_and, and_true, decide_eq_true_eq, reduceIte, Bool.false_eq_true, if_true, if_false, isStr, Option.any_some, okRes, reduceCtorEq, Zero.zero, Nat.succ_eq_add_one, Nat.reduceLeDiff, ite_true, ite_false, Bool.not_eq_true, decide_eq_false_iff_not, k1]
    refine lc_gen (rs.map fun r => PyData.list (iDs r)) rowD [.val (inL ns rs), .un] (fun R hR => ?_) (fun x hx R hR => ?_) ?_
    · simp (config := { maxSteps := 3000000 }) only [dCall, dCallT, argsOf, argOf, slotsOf_s, slotsOf_v, slotsOf_nil, List.nodup_cons, List.nodup_nil, List.not_mem_nil, not_false_eq_true, updE, sSeq, sNext, sIf, sRet, sDrop, sAsg, sPar, sPar3, sBreak, sCont, gN, gSet, gT, gsCons, gsNil, dC, dVar, dOp, dChain, dNeg, dIfE, dAnd, dOr, dNot, dTup, dLst, dFn, dIsi, dM1, dApp, dExt, dSl, dDict1, qNo, qSm, oV, oS, aNil, aCons, aRev, bV, bAnd, bOr, bNot, bYes, iAny, iRg1, iRg2, iEnD, cont, conts, frz, valsOf, fn1, fn2, slotL, setL, fAdd_i, fSub_i, fLt_i, fLe_i, fGt_i, fGe_i, fEq_i, fEq_s, fNe_i, fNe_s, fIs_n, fNot_n, fIx_l, fIx_t, fLen_l, fLen_t, fInt_i, fSl_l, fSl_t, fMax_i, fMin_i, fAbs_i, fTup_l, fTup_t, fList_l, fList_t, wipeD, List.getElem?_cons_zero, List.getElem?_cons_succ, List.getElem?_nil, List.set_cons_zero, List.set_cons_succ, List.cons_append, List.nil_append, List.length_cons, List.length_nil, Nat.reduceAdd, Nat.reduceSub, List.replicate_succ, List.replicate_zero, List.take_succ_cons, List.take_zero, Option.bind_some, Option.bind_none, Option.map_some, Option.map_none, Option.some.injEq, Option.isSome_some, exists_eq_left', exists_eq_left, exists_and_left, List.cons.injEq, and_assoc, Sl.val.injEq, PyData.bool.injEq, PyData.int.injEq, PyData.str.injEq, PyData.list.injEq, PyData.tuple.injEq, Opn.v.injEq, true_and, and_true, decide_eq_true_eq, reduceIte, Bool.false_eq_true, if_true, if_false, isStr, Option.any_some, okRes, reduceCtorEq, Zero.zero, Nat.succ_eq_add_one, Nat.reduceLeDiff, ite_true, ite_false, Bool.not_eq_true, decide_eq_false_iff_not, inL, x1, walk_l (ds := rs.map fun r => PyData.list (iDs r)) (by simpa using hr3)]
      exact hR
    · simp only [List.mem_map] at hx
      obtain ⟨r, hr, rfl⟩ := hx
      simp (config := { maxSteps := 3000000 }) only [dCall, dCallT, argsOf, argOf, slotsOf_s, slotsOf_v, slotsOf_nil, List.nodup_cons, List.nodup_nil, List.not_mem_nil, not_false_eq_true, updE, sSeq, sNext, sIf, sRet, sDrop, sAsg, sPar, sPar3, sBreak, sCont, gN, gSet, gT, gsCons, gsNil, dC, dVar, dOp, dChain, dNeg, dIfE, dAnd, dOr, dNot, dTup, dLst, dFn, dIsi, dM1, dApp, dExt, dSl, dDict1, qNo, qSm, oV, oS, aNil, aCons, aRev, bV, bAnd, bOr, bNot, bYes, iAny, iRg1, iRg2, iEnD, cont, conts, frz, valsOf, fn1, fn2, slotL, setL, fAdd_i, fSub_i, fLt_i, fLe_i, fGt_i, fGe_i, fEq_i, fEq_s, fNe_i, fNe_s, fIs_n, fNot_n, fIx_l, fIx_t, fLen_l, fLen_t, fInt_i, fSl_l, fSl_t, fMax_i, fMin_i, fAbs_i, fTup_l, fTup_t, fList_l, fList_t, wipeD, List.getElem?_cons_zero, List.getElem?_cons_succ, List.getElem?_nil, List.set_cons_zero, List.set_cons_succ, List.cons_append, List.nil_append, List.length_cons, List.length_nil, Nat.reduceAdd, Nat.reduceSub, List.replicate_succ, List.replicate_zero, List.take_succ_cons, List.take_zero, Option.bind_some, Option.bind_none, Option.map_some, Option.map_none, Option.some.injEq, Option.isSome_some, exists_eq_left', exists_eq_left, exists_and_left, List.cons.injEq, and_assoc, Sl.val.injEq, PyData.bool.injEq, PyData.int.injEq, PyData.str.injEq, PyData.list.injEq, PyData.tuple.injEq, Opn.v.injEq, true_and, and_true, decide_eq_true_eq, reduceIte, Bool.false_eq_true, if_true, if_false, isStr, Option.any_some, okRes, reduceCtorEq, Zero.zero, Nat.succ_eq_add_one, Nat.reduceLeDiff, ite_true, ite_false, Bool.not_eq_true, decide_eq_false_iff_not]
      exact ⟨r, _, rfl, .inr rfl, hg.2.2.2 r hr, hR _ (by rw [rowD_l]; rfl)⟩
    · have e : [PyData.str (rowT ns)] ++ (rs.map fun r => PyData.list (iDs r)).map rowD = (rowT ns :: rs.map rowT).map .str := by
        simp only [List.map_map, List.map_cons, List.cons_append, List.nil_append]
        congr 1
        exact List.map_congr_left fun r _ => by simp only [Function.comp_def]; exact rowD_l r
      have fa := fAdd_l (ds := [PyData.str (rowT ns)]) (es := (rs.map fun r => PyData.list (iDs r)).map rowD) (by simp; have := hg.2.2.1; omega)
      rw [e] at fa
      simp (config := { maxSteps := 3000000 }) only [dCall, dCallT, argsOf, argOf, slotsOf_s, slotsOf_v, slotsOf_nil, List.nodup_cons, List.nodup_nil, List.not_mem_nil, not_false_eq_true, updE, sSeq, sNext, sIf, sRet, sDrop, sAsg, sPar, sPar3, sBreak, sCont, gN, gSet, gT, gsCons, gsNil, dC, dVar, dOp, dChain, dNeg, dIfE, dAnd, dOr, dNot, dTup, dLst, dFn, dIsi, dM1, dApp, dExt, dSl, dDict1, qNo, qSm, oV, oS, aNil, aCons, aRev, bV, bAnd, bOr, bNot, bYes, iAny, iRg1, iRg2, iEnD, cont, conts, frz, valsOf, fn1, fn2, slotL, setL, fAdd_i, fSub_i, fLt_i, fLe_i, fGt_i, fGe_i, fEq_i, fEq_s, fNe_i, fNe_s, fIs_n, fNot_n, fIx_l, fIx_t, fLen_l, fLen_t, fInt_i, fSl_l, fSl_t, fMax_i, fMin_i, fAbs_i, fTup_l, fTup_t, fList_l, fList_t, wipeD, List.getElem?_cons_zero, List.getElem?_cons_succ, List.getElem?_nil, List.set_cons_zero, List.set_cons_succ, List.cons_append, List.nil_append, List.length_cons, List.length_nil, Nat.reduceAdd, Nat.reduceSub, List.replicate_succ, List.replicate_zero, List.take_succ_cons, List.take_zero, Option.bind_some, Option.bind_none, Option.map_some, Option.map_none, Option.some.injEq, Option.isSome_some, exists_eq_left', exists_eq_left, exists_and_left, List.cons.injEq, and_assoc, Sl.val.injEq, PyData.bool.injEq, PyData.int.injEq, PyData.str.injEq, PyData.list.injEq, PyData.tuple.injEq, Opn.v.injEq, true_and, and_true, decide_eq_true_eq, reduceIte, Bool.false_eq_true, if_true, if_false, isStr, Option.any_some, okRes, reduceCtorEq, Zero.zero, Nat.succ_eq_add_one, Nat.reduceLeDiff, ite_true, ite_false, Bool.not_eq_true, decide_eq_false_iff_not, fa, fJoin_l (Nat.le_trans (inT_fits hg) (by decide))]
      exact ⟨ioIn_of (by simp [IoF]), q⟩
theorem occ_fig : ∀ d : Nat, d < 10 → Builtin.Str.occurrences "0123456789" ⟨#[48 + d]⟩ 0 ("0123456789" : Str).length 1 = [d] := by decide +kernel
theorem idx_fig (c : Nat) (h1 : 48 ≤ c) (h2 : c ≤ 57) : fIndex (.str "0123456789") (.str ⟨#[c]⟩) = some (.val (.int ((c : Int) - 48))) := by
  obtain ⟨d, rfl⟩ : ∃ d, c = 48 + d := ⟨c - 48, by omega⟩
  have e := occ_fig d (by omega)
  show (match Builtin.Str.occurrences "0123456789" ⟨#[48 + d]⟩ 0 ("0123456789" : Str).length 1 with | i :: _ => some (Sl.val (.int (i : Nat))) | [] => none) = _
  rw [e]
  show some (Sl.val (PyData.int ((d : Nat) : Int))) = _
  congr 3; omega
theorem figV_snoc (cs : List Nat) (c : Nat) : figV (cs ++ [c]) = figV cs * 10 + ((c : Int) - 48) := by simp [figV, List.foldl_append]
theorem figV_val {cs : List Nat} (h : AllDigits cs) : figV cs = ((digitsVal cs : Nat) : Int) := fold_digits cs 0 h
theorem word_loop {w f : Str} {D : EndD} (hl : f.length ≤ 16777216) (ad : AllDigits (tl f)) (h19 : (tl f).length ≤ 19) (hx : ∀ x, D.nx [.val (.str w), .val (.str f), .val (.int (figV (tl f))), x]) :
    sFor (iAny (oV (dVar 1))) (gN 3) (sAsg (dOp fAdd (oV (dOp fMul (oS 2) (oV (dC (PyData.int 10))))) (oV (dM1 fIndex (oV (dC (PyData.str "0123456789"))) (oS 3)))) (gN 2)) D [.val (.str w), .val (.str f), .val (.int 0), .un] := by
  have hlen : (signsD f).length = (tl f).length := by simp [signsD]
  unfold sFor
  simp (config := { maxSteps := 3000000 }) only [dCall, dCallT, argsOf, argOf, slotsOf_s, slotsOf_v, slotsOf_nil, List.nodup_cons, List.nodup_nil, List.not_mem_nil, not_false_eq_true, updE, sSeq, sNext, sIf, sRet, sDrop, sAsg, sPar, sPar3, sBreak, sCont, gN, gSet, gT, gsCons, gsNil, dC, dVar, dOp, dChain, dNeg, dIfE, dAnd, dOr, dNot, dTup, dLst, dFn, dIsi, dM1, dApp, dExt, dSl, dDict1, qNo, qSm, oV, oS, aNil, aCons, aRev, bV, bAnd, bOr, bNot, bYes, iAny, iRg1, iRg2, iEnD, cont, conts, frz, valsOf, fn1, fn2, slotL, setL, fAdd_i, fSub_i, fLt_i, fLe_i, fGt_i, fGe_i, fEq_i, fEq_s, fNe_i, fNe_s, fIs_n, fNot_n, fIx_l, fIx_t, fLen_l, fLen_t, fInt_i, fSl_l, fSl_t, fMax_i, fMin_i, fAbs_i, fTup_l, fTup_t, fList_l, fList_t, wipeD, List.getElem?_cons_zero, List.getElem?_cons_succ, List.getElem?_nil, List.set_cons_zero, List.set_cons_succ, List.cons_append, List.nil_append, List.length_cons, List.length_nil, Nat.reduceAdd, Nat.reduceSub, List.replicate_succ, List.replicate_zero, List.take_succ_cons, List.take_zero, Option.bind_some, Option.bind_none, Option.map_some, Option.map_none, Option.some.injEq, Option.isSome_some, exists_eq_left', exists_eq_left, exists_and_left, List.cons.injEq, and_assoc, Sl.val.injEq, PyData.bool.injEq, PyData.int.injEq, PyData.str.injEq, PyData.list.injEq, PyData.tuple.injEq, Opn.v.injEq, true_and, and_true, decide_eq_true_eq, reduceIte, Bool.false_eq_true, if_true, if_false, isStr, Option.any_some, okRes, reduceCtorEq, Zero.zero, Nat.succ_eq_add_one, Nat.reduceLeDiff, ite_true, ite_false, Bool.not_eq_true, decide_eq_false_iff_not, walk_s hl]
  refine ⟨fun i e => ∃ x, e = [.val (.str w), .val (.str f), .val (.int (figV ((tl f).take i))), x], ⟨.un, rfl⟩, fun i d e hd ⟨x, he⟩ => ?_, fun e ⟨x, he⟩ => ?_⟩
  · subst he
    simp only [signsD, List.getElem?_map, Option.map_eq_some_iff] at hd
    obtain ⟨c, hc, rfl⟩ := hd
    have hb := ad c (List.mem_of_getElem? hc)
    have ht : figV ((tl f).take i) = ((digitsVal ((tl f).take i) : Nat) : Int) := figV_val fun z hz => ad z (List.take_subset _ _ hz)
    have hv : digitsVal ((tl f).take i) < 10 ^ 19 := Nat.lt_of_lt_of_le (val_lt _ fun z hz => ad z (List.take_subset _ _ hz)) (Nat.pow_le_pow_right (by decide) (by rw [List.length_take]; omega))
    have hlog : (figV ((tl f).take i)).natAbs.log2 < 1000 := by
      rw [ht]
      exact Nat.lt_trans (log_lt (k := 64) (Nat.lt_of_lt_of_le (by simpa using hv) (by decide)) (by decide)) (by decide)
    have l10 : (10 : Int).natAbs.log2 < 1000 := by decide
    have fm : fMul (.int (figV ((tl f).take i))) (.int 10) = some (.val (.int (figV ((tl f).take i) * 10))) := fMul_i (by omega)
    have e := figV_snoc ((tl f).take i) c
    rw [take_succ_get hc] at e
    simp (config := { maxSteps := 3000000 }) only [dCall, dCallT, argsOf, argOf, slotsOf_s, slotsOf_v, slotsOf_nil, List.nodup_cons, List.nodup_nil, List.not_mem_nil, not_false_eq_true, updE, sSeq, sNext, sIf, sRet, sDrop, sAsg, sPar, sPar3, sBreak, sCont, gN, gSet, gT, gsCons, gsNil, dC, dVar, dOp, dChain, dNeg, dIfE, dAnd, dOr, dNot, dTup, dLst, dFn, dIsi, dM1, dApp, dExt, dSl, dDict1, qNo, qSm, oV, oS, aNil, aCons, aRev, bV, bAnd, bOr, bNot, bYes, iAny, iRg1, iRg2, iEnD, cont, conts, frz, valsOf, fn1, fn2, slotL, setL, fAdd_i, fSub_i, fLt_i, fLe_i, fGt_i, fGe_i, fEq_i, fEq_s, fNe_i, fNe_s, fIs_n, fNot_n, fIx_l, fIx_t, fLen_l, fLen_t, fInt_i, fSl_l, fSl_t, fMax_i, fMin_i, fAbs_i, fTup_l, fTup_t, fList_l, fList_t, wipeD, List.getElem?_cons_zero, List.getElem?_cons_succ, List.getElem?_nil, List.set_cons_zero, List.set_cons_succ, List.cons_append, List.nil_append, List.length_cons, List.length_nil, Nat.reduceAdd, Nat.reduceSub, List.replicate_succ, List.replicate_zero, List.take_succ_cons, List.take_zero, Option.bind_some, Option.bind_none, Option.map_some, Option.map_none, Option.some.injEq, Option.isSome_some, exists_eq_left', exists_eq_left, exists_and_left, List.cons.injEq, and_assoc, Sl.val.injEq, PyData.bool.injEq, PyData.int.injEq, PyData.str.injEq, PyData.list.injEq, PyData.tuple.injEq, Opn.v.injEq, true_and, and_true, decide_eq_true_eq, reduceIte, Bool.false_eq_true, if_true, if_false, isStr, Option.any_some, okRes, reduceCtorEq, Zero.zero, Nat.succ_eq_add_one, Nat.reduceLeDiff, ite_true, ite_false, Bool.not_eq_true, decide_eq_false_iff_not, fm, idx_fig c hb.1 hb.2, e, exists_eq']
  · subst he
    rw [hlen, List.take_length]
    exact hx x
theorem one_zero (c : Nat) : ((⟨#[c]⟩ : Str) = "0") ↔ c = 48 := by
  constructor
  · intro h
    have := congrArg tl h
    rw [tl_zero] at this
    exact (List.cons.inj this).1
  · rintro rfl
    exact ext_tl (by rw [tl_zero])
theorem data__law_word {as : List Sl} {Q : Sl → List Sl → Prop} {X : XD} (h : sp__law_word as Q X) : sd__law_word { nx := fun e => IoIn as e ∧ Q (.val .none) (e.take 1), rt := fun s e => okRes s ∧ IoIn as e ∧ Q s (e.take 1), ex := fun C f d e => IoIn as e ∧ X C f d (e.take 1) } (as ++ List.replicate (4 - as.length) .un) := by
  obtain ⟨w, rfl, hw, q⟩ := h
  have hw2 : w.length ≤ 16777216 := by omega
  unfold sd__law_word
  simp (config := { maxSteps := 3000000 }) only [dCall, dCallT, argsOf, argOf, slotsOf_s, slotsOf_v, slotsOf_nil, List.nodup_cons, List.nodup_nil, List.not_mem_nil, not_false_eq_true, updE, sSeq, sNext, sIf, sRet, sDrop, sAsg, sPar, sPar3, sBreak, sCont, gN, gSet, gT, gsCons, gsNil, dC, dVar, dOp, dChain, dNeg, dIfE, dAnd, dOr, dNot, dTup, dLst, dFn, dIsi, dM1, dApp, dExt, dSl, dDict1, qNo, qSm, oV, oS, aNil, aCons, aRev, bV, bAnd, bOr, bNot, bYes, iAny, iRg1, iRg2, iEnD, cont, conts, frz, valsOf, fn1, fn2, slotL, setL, fAdd_i, fSub_i, fLt_i, fLe_i, fGt_i, fGe_i, fEq_i, fEq_s, fNe_i, fNe_s, fIs_n, fNot_n, fIx_l, fIx_t, fLen_l, fLen_t, fInt_i, fSl_l, fSl_t, fMax_i, fMin_i, fAbs_i, fTup_l, fTup_t, fList_l, fList_t, wipeD, List.getElem?_cons_zero, List.getElem?_cons_succ, List.getElem?_nil, List.set_cons_zero, List.set_cons_succ, List.cons_append, List.nil_append, List.length_cons, List.length_nil, Nat.reduceAdd, Nat.reduceSub, List.replicate_succ, List.replicate_zero, List.take_succ_cons, List.take_zero, Option.bind_some, Option.bind_none, Option.map_some, Option.map_none, Option.some.injEq, Option.isSome_some, exists_eq_left', exists_eq_left, exists_and_left, List.cons.injEq, and_assoc, Sl.val.injEq, PyData.bool.injEq, PyData.int.injEq, PyData.str.injEq, PyData.list.injEq, PyData.tuple.injEq, Opn.v.injEq, true_and, and_true, decide_eq_true_eq, reduceIte, Bool.false_eq_true, if_true, if_false, isStr, Option.any_some, okRes, reduceCtorEq, Zero.zero, Nat.succ_eq_add_one, Nat.reduceLeDiff, ite_true, ite_false, Bool.not_eq_true, decide_eq_false_iff_not, fSl_s hw2]
  refine ite_intro (fun hc => ?_) (fun hc => ?_)
  · have hw3 := hw

    have hf : figs w = cutS w (some 1) none := if_pos hc
    have hl : (cutS w (some 1) none).length ≤ 16777216 := by have := figs_le (w := w); rw [hf] at this; omega
    have sp := figsOk_split (w := w)
    have sp2 := figsOk_iff w
    have lw : lawW w = if figsOk w then (if (figs w).cps.toList.head? = some 48 ∧ w ≠ "0" then none else if figV (figs w).cps.toList > 1000000000000000000 then none else some (if cutS w none (some 1) = "-" then 0 - figV (figs w).cps.toList else figV (figs w).cps.toList)) else none := rfl
    rw [hf] at sp sp2 lw
    simp (config := { maxSteps := 3000000 }) only [dCall, dCallT, argsOf, argOf, slotsOf_s, slotsOf_v, slotsOf_nil, List.nodup_cons, List.nodup_nil, List.not_mem_nil, not_false_eq_true, updE, sSeq, sNext, sIf, sRet, sDrop, sAsg, sPar, sPar3, sBreak, sCont, gN, gSet, gT, gsCons, gsNil, dC, dVar, dOp, dChain, dNeg, dIfE, dAnd, dOr, dNot, dTup, dLst, dFn, dIsi, dM1, dApp, dExt, dSl, dDict1, qNo, qSm, oV, oS, aNil, aCons, aRev, bV, bAnd, bOr, bNot, bYes, iAny, iRg1, iRg2, iEnD, cont, conts, frz, valsOf, fn1, fn2, slotL, setL, fAdd_i, fSub_i, fLt_i, fLe_i, fGt_i, fGe_i, fEq_i, fEq_s, fNe_i, fNe_s, fIs_n, fNot_n, fIx_l, fIx_t, fLen_l, fLen_t, fInt_i, fSl_l, fSl_t, fMax_i, fMin_i, fAbs_i, fTup_l, fTup_t, fList_l, fList_t, wipeD, List.getElem?_cons_zero, List.getElem?_cons_succ, List.getElem?_nil, List.set_cons_zero, List.set_cons_succ, List.cons_append, List.nil_append, List.length_cons, List.length_nil, Nat.reduceAdd, Nat.reduceSub, List.replicate_succ, List.replicate_zero, List.take_succ_cons, List.take_zero, Option.bind_some, Option.bind_none, Option.map_some, Option.map_none, Option.some.injEq, Option.isSome_some, exists_eq_left', exists_eq_left, exists_and_left, List.cons.injEq, and_assoc, Sl.val.injEq, PyData.bool.injEq, PyData.int.injEq, PyData.str.injEq, PyData.list.injEq, PyData.tuple.injEq, Opn.v.injEq, true_and, and_true, decide_eq_true_eq, reduceIte, Bool.false_eq_true, if_true, if_false, isStr, Option.any_some, okRes, reduceCtorEq, Zero.zero, Nat.succ_eq_add_one, Nat.reduceLeDiff, ite_true, ite_false, Bool.not_eq_true, decide_eq_false_iff_not, fLen_s hl]
    by_cases h1 : (1 : Int) ≤ (cutS w (some 1) none).length
    · rw [if_pos h1]
      by_cases h2 : ((cutS w (some 1) none).length : Int) ≤ 19
      · rw [if_neg (by simp [h2])]
        refine lc_figs rfl (by decide) (by simp) hl ?_
        simp (config := { maxSteps := 3000000 }) only [dCall, dCallT, argsOf, argOf, slotsOf_s, slotsOf_v, slotsOf_nil, List.nodup_cons, List.nodup_nil, List.not_mem_nil, not_false_eq_true, updE, sSeq, sNext, sIf, sRet, sDrop, sAsg, sPar, sPar3, sBreak, sCont, gN, gSet, gT, gsCons, gsNil, dC, dVar, dOp, dChain, dNeg, dIfE, dAnd, dOr, dNot, dTup, dLst, dFn, dIsi, dM1, dApp, dExt, dSl, dDict1, qNo, qSm, oV, oS, aNil, aCons, aRev, bV, bAnd, bOr, bNot, bYes, iAny, iRg1, iRg2, iEnD, cont, conts, frz, valsOf, fn1, fn2, slotL, setL, fAdd_i, fSub_i, fLt_i, fLe_i, fGt_i, fGe_i, fEq_i, fEq_s, fNe_i, fNe_s, fIs_n, fNot_n, fIx_l, fIx_t, fLen_l, fLen_t, fInt_i, fSl_l, fSl_t, fMax_i, fMin_i, fAbs_i, fTup_l, fTup_t, fList_l, fList_t, wipeD, List.getElem?_cons_zero, List.getElem?_cons_succ, List.getElem?_nil, List.set_cons_zero, List.set_cons_succ, List.cons_append, List.nil_append, List.length_cons, List.length_nil, Nat.reduceAdd, Nat.reduceSub, List.replicate_succ, List.replicate_zero, List.take_succ_cons, List.take_zero, Option.bind_some, Option.bind_none, Option.map_some, Option.map_none, Option.some.injEq, Option.isSome_some, exists_eq_left', exists_eq_left, exists_and_left, List.cons.injEq, and_assoc, Sl.val.injEq, PyData.bool.injEq, PyData.int.injEq, PyData.str.injEq, PyData.list.injEq, PyData.tuple.injEq, Opn.v.injEq, true_and, and_true, decide_eq_true_eq, reduceIte, Bool.false_eq_true, if_true, if_false, isStr, Option.any_some, okRes, reduceCtorEq, Zero.zero, Nat.succ_eq_add_one, Nat.reduceLeDiff, ite_true, ite_false, Bool.not_eq_true, decide_eq_false_iff_not, all_figs]
        cases h3 : (cutS w (some 1) none).cps.toList.all isFig with
        | false =>
          rw [if_pos (by rfl)]
          refine ⟨ioIn_of (by simp [IoF]), ?_⟩
          rw [lw, if_neg (fun z => by rw [(sp.mp z).2.2] at h3; cases h3)] at q
          exact q
        | true =>
          rw [if_neg (by simp)]
          have ok : figsOk w = true := sp.mpr ⟨h1, h2, h3⟩
          obtain ⟨g1, g2, ad⟩ := sp2.mp ok
          rw [lw, if_pos ok] at q
          obtain ⟨c0, cr, hc0⟩ : ∃ c0 cr, (cutS w (some 1) none).cps.toList = c0 :: cr := by
            cases e : (cutS w (some 1) none).cps.toList with
            | nil => rw [show tl (cutS w (some 1) none) = (cutS w (some 1) none).cps.toList from rfl, e] at g1; simp at g1
            | cons a r => exact ⟨a, r, rfl⟩
          have hix : fIx (.str (cutS w (some 1) none)) (.int 0) = some (.val (.str ⟨#[c0]⟩)) := by
            rw [fIx_s hl, hc0, show atI (c0 :: cr) 0 = some c0 from atI_nat (xs := c0 :: cr) (j := 0) rfl]; rfl
          simp (config := { maxSteps := 3000000 }) only [dCall, dCallT, argsOf, argOf, slotsOf_s, slotsOf_v, slotsOf_nil, List.nodup_cons, List.nodup_nil, List.not_mem_nil, not_false_eq_true, updE, sSeq, sNext, sIf, sRet, sDrop, sAsg, sPar, sPar3, sBreak, sCont, gN, gSet, gT, gsCons, gsNil, dC, dVar, dOp, dChain, dNeg, dIfE, dAnd, dOr, dNot, dTup, dLst, dFn, dIsi, dM1, dApp, dExt, dSl, dDict1, qNo, qSm, oV, oS, aNil, aCons, aRev, bV, bAnd, bOr, bNot, bYes, iAny, iRg1, iRg2, iEnD, cont, conts, frz, valsOf, fn1, fn2, slotL, setL, fAdd_i, fSub_i, fLt_i, fLe_i, fGt_i, fGe_i, fEq_i, fEq_s, fNe_i, fNe_s, fIs_n, fNot_n, fIx_l, fIx_t, fLen_l, fLen_t, fInt_i, fSl_l, fSl_t, fMax_i, fMin_i, fAbs_i, fTup_l, fTup_t, fList_l, fList_t, wipeD, List.getElem?_cons_zero, List.getElem?_cons_succ, List.getElem?_nil, List.set_cons_zero, List.set_cons_succ, List.cons_append, List.nil_append, List.length_cons, List.length_nil, Nat.reduceAdd, Nat.reduceSub, List.replicate_succ, List.replicate_zero, List.take_succ_cons, List.take_zero, Option.bind_some, Option.bind_none, Option.map_some, Option.map_none, Option.some.injEq, Option.isSome_some, exists_eq_left', exists_eq_left, exists_and_left, List.cons.injEq, and_assoc, Sl.val.injEq, PyData.bool.injEq, PyData.int.injEq, PyData.str.injEq, PyData.list.injEq, PyData.tuple.injEq, Opn.v.injEq, true_and, and_true, decide_eq_true_eq, reduceIte, Bool.false_eq_true, if_true, if_false, isStr, Option.any_some, okRes, reduceCtorEq, Zero.zero, Nat.succ_eq_add_one, Nat.reduceLeDiff, ite_true, ite_false, Bool.not_eq_true, decide_eq_false_iff_not, hix]
          have fin : ∀ (x : Sl) (R : Prop), R = R → True := fun _ _ _ => trivial
          refine ite_intro (fun h4 => ?_) (fun h4 => ?_)
          · have h48 := (one_zero c0).mp h4
            refine ite_intro (fun h5 => ?_) (fun h5 => ?_)
            · have hw0 : w ≠ "0" := by simpa using h5
              rw [if_pos ⟨by rw [hc0, h48]; rfl, hw0⟩] at q
              exact ⟨ioIn_of (by simp [IoF]), q⟩
            · have hw0 : w = "0" := by simpa using h5
              rw [if_neg (fun z => z.2 hw0)] at q
              refine word_loop hl ad g2 fun x => ?_
              simp (config := { maxSteps := 3000000 }) only [dCall, dCallT, argsOf, argOf, slotsOf_s, slotsOf_v, slotsOf_nil, List.nodup_cons, List.nodup_nil, List.not_mem_nil, not_false_eq_true, updE, sSeq, sNext, sIf, sRet, sDrop, sAsg, sPar, sPar3, sBreak, sCont, gN, gSet, gT, gsCons, gsNil, dC, dVar, dOp, dChain, dNeg, dIfE, dAnd, dOr, dNot, dTup, dLst, dFn, dIsi, dM1, dApp, dExt, dSl, dDict1, qNo, qSm, oV, oS, aNil, aCons, aRev, bV, bAnd, bOr, bNot, bYes, iAny, iRg1, iRg2, iEnD, cont, conts, frz, valsOf, fn1, fn2, slotL, setL, fAdd_i, fSub_i, fLt_i, fLe_i, fGt_i, fGe_i, fEq_i, fEq_s, fNe_i, fNe_s, fIs_n, fNot_n, fIx_l, fIx_t, fLen_l, fLen_t, fInt_i, fSl_l, fSl_t, fMax_i, fMin_i, fAbs_i, fTup_l, fTup_t, fList_l, fList_t, wipeD, List.getElem?_cons_zero, List.getElem?_cons_succ, List.getElem?_nil, List.set_cons_zero, List.set_cons_succ, List.cons_append, List.nil_append, List.length_cons, List.length_nil, Nat.reduceAdd, Nat.reduceSub, List.replicate_succ, List.replicate_zero, List.take_succ_cons, List.take_zero, Option.bind_some, Option.bind_none, Option.map_some, Option.map_none, Option.some.injEq, Option.isSome_some, exists_eq_left', exists_eq_left, exists_and_left, List.cons.injEq, and_assoc, Sl.val.injEq, PyData.bool.injEq, PyData.int.injEq, PyData.str.injEq, PyData.list.injEq, PyData.tuple.injEq, Opn.v.injEq, true_and, and_true, decide_eq_true_eq, reduceIte, Bool.false_eq_true, if_true, if_false, isStr, Option.any_some, okRes, reduceCtorEq, Zero.zero, Nat.succ_eq_add_one, Nat.reduceLeDiff, ite_true, ite_false, Bool.not_eq_true, decide_eq_false_iff_not, p18, fSl_s hw2]
              refine ite_intro (fun h6 => ?_) (fun h6 => ?_)
              · rw [if_pos h6] at q
                exact ⟨ioIn_of (by simp [IoF]), q⟩
              · rw [if_neg h6] at q
                first | (rw [if_pos hc] at q ⊢; exact ⟨ioIn_of (by simp [IoF]), q⟩) | (rw [if_neg hc] at q ⊢; exact ⟨ioIn_of (by simp [IoF]), q⟩)
          · have h48 : c0 ≠ 48 := fun z => h4 ((one_zero c0).mpr z)
            rw [if_neg (fun z => h48 (by have := z.1; rw [hc0] at this; simpa using this))] at q
            refine word_loop hl ad g2 fun x => ?_
            simp (config := { maxSteps := 3000000 }) only [dCall, dCallT, argsOf, argOf, slotsOf_s, slotsOf_v, slotsOf_nil, List.nodup_cons, List.nodup_nil, List.not_mem_nil, not_false_eq_true, updE, sSeq, sNext, sIf, sRet, sDrop, sAsg, sPar, sPar3, sBreak, sCont, gN, gSet, gT, gsCons, gsNil, dC, dVar, dOp, dChain, dNeg, dIfE, dAnd, dOr, dNot, dTup, dLst, dFn, dIsi, dM1, dApp, dExt, dSl, dDict1, qNo, qSm, oV, oS, aNil, aCons, aRev, bV, bAnd, bOr, bNot, bYes, iAny, iRg1, iRg2, iEnD, cont, conts, frz, valsOf, fn1, fn2, slotL, setL, fAdd_i, fSub_i, fLt_i, fLe_i, fGt_i, fGe_i, fEq_i, fEq_s, fNe_i, fNe_s, fIs_n, fNot_n, fIx_l, fIx_t, fLen_l, fLen_t, fInt_i, fSl_l, fSl_t, fMax_i, fMin_i, fAbs_i, fTup_l, fTup_t, fList_l, fList_t, wipeD, List.getElem?_cons_zero, List.getElem?_cons_succ, List.getElem?_nil, List.set_cons_zero, List.set_cons_succ, List.cons_append, List.nil_append, List.length_cons, List.length_nil, Nat.reduceAdd, Nat.reduceSub, List.replicate_succ, List.replicate_zero, List.take_succ_cons, List.take_zero, Option.bind_some, Option.bind_none, Option.map_some, Option.map_none, Option.some.injEq, Option.isSome_some, exists_eq_left', exists_eq_left, exists_and_left, List.cons.injEq, and_assoc, Sl.val.injEq, PyData.bool.injEq, PyData.int.injEq, PyData.str.injEq, PyData.list.injEq, PyData.tuple.injEq, Opn.v.injEq, true_and, and_true, decide_eq_true_eq, reduceIte, Bool.false_eq_true, if_true, if_false, isStr, Option.any_some, okRes, reduceCtorEq, Zero.zero, Nat.succ_eq_add_one, Nat.reduceLeDiff, ite_true, ite_false, Bool.not_eq_true, decide_eq_false_iff_not, p18, fSl_s hw2]
            refine ite_intro (fun h6 => ?_) (fun h6 => ?_)
            · rw [if_pos h6] at q
              exact ⟨ioIn_of (by simp [IoF]), q⟩
            · rw [if_neg h6] at q
              first | (rw [if_pos hc] at q ⊢; exact ⟨ioIn_of (by simp [IoF]), q⟩) | (rw [if_neg hc] at q ⊢; exact ⟨ioIn_of (by simp [IoF]), q⟩)
      · rw [if_pos (by simp [h2])]
        refine ⟨ioIn_of (by simp [IoF]), ?_⟩
        rw [lw, if_neg (fun z => h2 (sp.mp z).2.1)] at q
        exact q
    · rw [if_neg h1]
      rw [lw, if_neg (fun z => h1 (sp.mp z).1)] at q
      exact ⟨ioIn_of (by simp [IoF]), q⟩
  · have hw3 := hw

    have hf : figs w = w := if_neg hc
    have hl : (w).length ≤ 16777216 := by have := figs_le (w := w); rw [hf] at this; omega
    have sp := figsOk_split (w := w)
    have sp2 := figsOk_iff w
    have lw : lawW w = if figsOk w then (if (figs w).cps.toList.head? = some 48 ∧ w ≠ "0" then none else if figV (figs w).cps.toList > 1000000000000000000 then none else some (if cutS w none (some 1) = "-" then 0 - figV (figs w).cps.toList else figV (figs w).cps.toList)) else none := rfl
    rw [hf] at sp sp2 lw
    simp (config := { maxSteps := 3000000 }) only [dCall, dCallT, argsOf, argOf, slotsOf_s, slotsOf_v, slotsOf_nil, List.nodup_cons, List.nodup_nil, List.not_mem_nil, not_false_eq_true, updE, sSeq, sNext, sIf, sRet, sDrop, sAsg, sPar, sPar3, sBreak, sCont, gN, gSet, gT, gsCons, gsNil, dC, dVar, dOp, dChain, dNeg, dIfE, dAnd, dOr, dNot, dTup, dLst, dFn, dIsi, dM1, dApp, dExt, dSl, dDict1, qNo, qSm, oV, oS, aNil, aCons, aRev, bV, bAnd, bOr, bNot, bYes, iAny, iRg1, iRg2, iEnD, cont, conts, frz, valsOf, fn1, fn2, slotL, setL, fAdd_i, fSub_i, fLt_i, fLe_i, fGt_i, fGe_i, fEq_i, fEq_s, fNe_i, fNe_s, fIs_n, fNot_n, fIx_l, fIx_t, fLen_l, fLen_t, fInt_i, fSl_l, fSl_t, fMax_i, fMin_i, fAbs_i, fTup_l, fTup_t, fList_l, fList_t, wipeD, List.getElem?_cons_zero, List.getElem?_cons_succ, List.getElem?_nil, List.set_cons_zero, List.set_cons_succ, List.cons_append, List.nil_append, List.length_cons, List.length_nil, Nat.reduceAdd, Nat.reduceSub, List.replicate_succ, List.replicate_zero, List.take_succ_cons, List.take_zero, Option.bind_some, Option.bind_none, Option.map_some, Option.map_none, Option.some.injEq, Option.isSome_some, exists_eq_left', exists_eq_left, exists_and_left, List.cons.injEq, and_assoc, Sl.val.injEq, PyData.bool.injEq, PyData.int.injEq, PyData.str.injEq, PyData.list.injEq, PyData.tuple.injEq, Opn.v.injEq, true_and, and_true, decide_eq_true_eq, reduceIte, Bool.false_eq_true, if_true, if_false, isStr, Option.any_some, okRes, reduceCtorEq, Zero.zero, Nat.succ_eq_add_one, Nat.reduceLeDiff, ite_true, ite_false, Bool.not_eq_true, decide_eq_false_iff_not, fLen_s hl]
    by_cases h1 : (1 : Int) ≤ (w).length
    · rw [if_pos h1]
      by_cases h2 : ((w).length : Int) ≤ 19
      · rw [if_neg (by simp [h2])]
        refine lc_figs rfl (by decide) (by simp) hl ?_
        simp (config := { maxSteps := 3000000 }) only [dCall, dCallT, argsOf, argOf, slotsOf_s, slotsOf_v, slotsOf_nil, List.nodup_cons, List.nodup_nil, List.not_mem_nil, not_false_eq_true, updE, sSeq, sNext, sIf, sRet, sDrop, sAsg, sPar, sPar3, sBreak, sCont, gN, gSet, gT, gsCons, gsNil, dC, dVar, dOp, dChain, dNeg, dIfE, dAnd, dOr, dNot, dTup, dLst, dFn, dIsi, dM1, dApp, dExt, dSl, dDict1, qNo, qSm, oV, oS, aNil, aCons, aRev, bV, bAnd, bOr, bNot, bYes, iAny, iRg1, iRg2, iEnD, cont, conts, frz, valsOf, fn1, fn2, slotL, setL, fAdd_i, fSub_i, fLt_i, fLe_i, fGt_i, fGe_i, fEq_i, fEq_s, fNe_i, fNe_s, fIs_n, fNot_n, fIx_l, fIx_t, fLen_l, fLen_t, fInt_i, fSl_l, fSl_t, fMax_i, fMin_i, fAbs_i, fTup_l, fTup_t, fList_l, fList_t, wipeD, List.getElem?_cons_zero, List.getElem?_cons_succ, List.getElem?_nil, List.set_cons_zero, List.set_cons_succ, List.cons_append, List.nil_append, List.length_cons, List.length_nil, Nat.reduceAdd, Nat.reduceSub, List.replicate_succ, List.replicate_zero, List.take_succ_cons, List.take_zero, Option.bind_some, Option.bind_none, Option.map_some, Option.map_none, Option.some.injEq, Option.isSome_some, exists_eq_left', exists_eq_left, exists_and_left, List.cons.injEq, and_assoc, Sl.val.injEq, PyData.bool.injEq, PyData.int.injEq, PyData.str.injEq, PyData.list.injEq, PyData.tuple.injEq, Opn.v.injEq, true_and, and_true, decide_eq_true_eq, reduceIte, Bool.false_eq_true, if_true, if_false, isStr, Option.any_some, okRes, reduceCtorEq, Zero.zero, Nat.succ_eq_add_one, Nat.reduceLeDiff, ite_true, ite_false, Bool.not_eq_true, decide_eq_false_iff_not, all_figs]
        cases h3 : (w).cps.toList.all isFig with
        | false =>
          rw [if_pos (by rfl)]
          refine ⟨ioIn_of (by simp [IoF]), ?_⟩
          rw [lw, if_neg (fun z => by rw [(sp.mp z).2.2] at h3; cases h3)] at q
          exact q
        | true =>
          rw [if_neg (by simp)]
          have ok : figsOk w = true := sp.mpr ⟨h1, h2, h3⟩
          obtain ⟨g1, g2, ad⟩ := sp2.mp ok
          rw [lw, if_pos ok] at q
          obtain ⟨c0, cr, hc0⟩ : ∃ c0 cr, (w).cps.toList = c0 :: cr := by
            cases e : (w).cps.toList with
            | nil => rw [show tl (w) = (w).cps.toList from rfl, e] at g1; simp at g1
            | cons a r => exact ⟨a, r, rfl⟩
          have hix : fIx (.str (w)) (.int 0) = some (.val (.str ⟨#[c0]⟩)) := by
            rw [fIx_s hl, hc0, show atI (c0 :: cr) 0 = some c0 from atI_nat (xs := c0 :: cr) (j := 0) rfl]; rfl
          simp (config := { maxSteps := 3000000 }) only [dCall, dCallT, argsOf, argOf, slotsOf_s, slotsOf_v, slotsOf_nil, List.nodup_cons, List.nodup_nil, List.not_mem_nil, not_false_eq_true, updE, sSeq, sNext, sIf, sRet, sDrop, sAsg, sPar, sPar3, sBreak, sCont, gN, gSet, gT, gsCons, gsNil, dC, dVar, dOp, dChain, dNeg, dIfE, dAnd, dOr, dNot, dTup, dLst, dFn, dIsi, dM1, dApp, dExt, dSl, dDict1, qNo, qSm, oV, oS, aNil, aCons, aRev, bV, bAnd, bOr, bNot, bYes, iAny, iRg1, iRg2, iEnD, cont, conts, frz, valsOf, fn1, fn2, slotL, setL, fAdd_i, fSub_i, fLt_i, fLe_i, fGt_i, fGe_i, fEq_i, fEq_s, fNe_i, fNe_s, fIs_n, fNot_n, fIx_l, fIx_t, fLen_l, fLen_t, fInt_i, fSl_l, fSl_t, fMax_i, fMin_i, fAbs_i, fTup_l, fTup_t, fList_l, fList_t, wipeD, List.getElem?_cons_zero, List.getElem?_cons_succ, List.getElem?_nil, List.set_cons_zero, List.set_cons_succ, List.cons_append, List.nil_append, List.length_cons, List.length_nil, Nat.reduceAdd, Nat.reduceSub, List.replicate_succ, List.replicate_zero, List.take_succ_cons, List.take_zero, Option.bind_some, Option.bind_none, Option.map_some, Option.map_none, Option.some.injEq, Option.isSome_some, exists_eq_left', exists_eq_left, exists_and_left, List.cons.injEq, and_assoc, Sl.val.injEq, PyData.bool.injEq, PyData.int.injEq, PyData.str.injEq, PyData.list.injEq, PyData.tuple.injEq, Opn.v.injEq, true_and, and_true, decide_eq_true_eq, reduceIte, Bool.false_eq_true, if_true, if_false, isStr, Option.any_some, okRes, reduceCtorEq, Zero.zero, Nat.succ_eq_add_one, Nat.reduceLeDiff, ite_true, ite_false, Bool.not_eq_true, decide_eq_false_iff_not, hix]
          have fin : ∀ (x : Sl) (R : Prop), R = R → True := fun _ _ _ => trivial
          refine ite_intro (fun h4 => ?_) (fun h4 => ?_)
          · have h48 := (one_zero c0).mp h4
            refine ite_intro (fun h5 => ?_) (fun h5 => ?_)
            · have hw0 : w ≠ "0" := by simpa using h5
              rw [if_pos ⟨by rw [hc0, h48]; rfl, hw0⟩] at q
              exact ⟨ioIn_of (by simp [IoF]), q⟩
            · have hw0 : w = "0" := by simpa using h5
              rw [if_neg (fun z => z.2 hw0)] at q
              refine word_loop hl ad g2 fun x => ?_
              simp (config := { maxSteps := 3000000 }) only [dCall, dCallT, argsOf, argOf, slotsOf_s, slotsOf_v, slotsOf_nil, List.nodup_cons, List.nodup_nil, List.not_mem_nil, not_false_eq_true, updE, sSeq, sNext, sIf, sRet, sDrop, sAsg, sPar, sPar3, sBreak, sCont, gN, gSet, gT, gsCons, gsNil, dC, dVar, dOp, dChain, dNeg, dIfE, dAnd, dOr, dNot, dTup, dLst, dFn, dIsi, dM1, dApp, dExt, dSl, dDict1, qNo, qSm, oV, oS, aNil, aCons, aRev, bV, bAnd, bOr, bNot, bYes, iAny, iRg1, iRg2, iEnD, cont, conts, frz, valsOf, fn1, fn2, slotL, setL, fAdd_i, fSub_i, fLt_i, fLe_i, fGt_i, fGe_i, fEq_i, fEq_s, fNe_i, fNe_s, fIs_n, fNot_n, fIx_l, fIx_t, fLen_l, fLen_t, fInt_i, fSl_l, fSl_t, fMax_i, fMin_i, fAbs_i, fTup_l, fTup_t, fList_l, fList_t, wipeD, List.getElem?_cons_zero, List.getElem?_cons_succ, List.getElem?_nil, List.set_cons_zero, List.set_cons_succ, List.cons_append, List.nil_append, List.length_cons, List.length_nil, Nat.reduceAdd, Nat.reduceSub, List.replicate_succ, List.replicate_zero, List.take_succ_cons, List.take_zero, Option.bind_some, Option.bind_none, Option.map_some, Option.map_none, Option.some.injEq, Option.isSome_some, exists_eq_left', exists_eq_left, exists_and_left, List.cons.injEq, and_assoc, Sl.val.injEq, PyData.bool.injEq, PyData.int.injEq, PyData.str.injEq, PyData.list.injEq, PyData.tuple.injEq, Opn.v.injEq, true_and, and_true, decide_eq_true_eq, reduceIte, Bool.false_eq_true, if_true, if_false, isStr, Option.any_some, okRes, reduceCtorEq, Zero.zero, Nat.succ_eq_add_one, Nat.reduceLeDiff, ite_true, ite_false, Bool.not_eq_true, decide_eq_false_iff_not, p18, fSl_s hw2]
              refine ite_intro (fun h6 => ?_) (fun h6 => ?_)
              · rw [if_pos h6] at q
                exact ⟨ioIn_of (by simp [IoF]), q⟩
              · rw [if_neg h6] at q
                first | (rw [if_pos hc] at q ⊢; exact ⟨ioIn_of (by simp [IoF]), q⟩) | (rw [if_neg hc] at q ⊢; exact ⟨ioIn_of (by simp [IoF]), q⟩)
          · have h48 : c0 ≠ 48 := fun z => h4 ((one_zero c0).mpr z)
            rw [if_neg (fun z => h48 (by have := z.1; rw [hc0] at this; simpa using this))] at q
            refine word_loop hl ad g2 fun x => ?_
            simp (config := { maxSteps := 3000000 }) only [dCall, dCallT, argsOf, argOf, slotsOf_s, slotsOf_v, slotsOf_nil, List.nodup_cons, List.nodup_nil, List.not_mem_nil, not_false_eq_true, updE, sSeq, sNext, sIf, sRet, sDrop, sAsg, sPar, sPar3, sBreak, sCont, gN, gSet, gT, gsCons, gsNil, dC, dVar, dOp, dChain, dNeg, dIfE, dAnd, dOr, dNot, dTup, dLst, dFn, dIsi, dM1, dApp, dExt, dSl, dDict1, qNo, qSm, oV, oS, aNil, aCons, aRev, bV, bAnd, bOr, bNot, bYes, iAny, iRg1, iRg2, iEnD, cont, conts, frz, valsOf, fn1, fn2, slotL, setL, fAdd_i, fSub_i, fLt_i, fLe_i, fGt_i, fGe_i, fEq_i, fEq_s, fNe_i, fNe_s, fIs_n, fNot_n, fIx_l, fIx_t, fLen_l, fLen_t, fInt_i, fSl_l, fSl_t, fMax_i, fMin_i, fAbs_i, fTup_l, fTup_t, fList_l, fList_t, wipeD, List.getElem?_cons_zero, List.getElem?_cons_succ, List.getElem?_nil, List.set_cons_zero, List.set_cons_succ, List.cons_append, List.nil_append, List.length_cons, List.length_nil, Nat.reduceAdd, Nat.reduceSub, List.replicate_succ, List.replicate_zero, List.take_succ_cons, List.take_zero, Option.bind_some, Option.bind_none, Option.map_some, Option.map_none, Option.some.injEq, Option.isSome_some, exists_eq_left', exists_eq_left, exists_and_left, List.cons.injEq, and_assoc, Sl.val.injEq, PyData.bool.injEq, PyData.int.injEq, PyData.str.injEq, PyData.list.injEq, PyData.tuple.injEq, Opn.v.injEq, true_and, and_true, decide_eq_true_eq, reduceIte, Bool.false_eq_true, if_true, if_false, isStr, Option.any_some, okRes, reduceCtorEq, Zero.zero, Nat.succ_eq_add_one, Nat.reduceLeDiff, ite_true, ite_false, Bool.not_eq_true, decide_eq_false_iff_not, p18, fSl_s hw2]
            refine ite_intro (fun h6 => ?_) (fun h6 => ?_)
            · rw [if_pos h6] at q
              exact ⟨ioIn_of (by simp [IoF]), q⟩
            · rw [if_neg h6] at q
              first | (rw [if_pos hc] at q ⊢; exact ⟨ioIn_of (by simp [IoF]), q⟩) | (rw [if_neg hc] at q ⊢; exact ⟨ioIn_of (by simp [IoF]), q⟩)
      · rw [if_pos (by simp [h2])]
        refine ⟨ioIn_of (by simp [IoF]), ?_⟩
        rw [lw, if_neg (fun z => h2 (sp.mp z).2.1)] at q
        exact q
    · rw [if_neg h1]
      rw [lw, if_neg (fun z => h1 (sp.mp z).1)] at q
      exact ⟨ioIn_of (by simp [IoF]), q⟩
end K35
namespace K35
open PySem L2 PySem.Spec PyProof.Rows PD PySem.NumText TL
theorem spl_len {S : List Nat} : ∀ (l : List Nat) (k : Nat) (acc : List Nat), (spl S k acc l).length ≤ l.length + 1
  | [], k, acc => by rw [spl_nil]; simp
  | c :: r, 0, acc => by
    show (if pre S (c :: r) = true then acc :: spl S (S.length - 1) [] r else spl S 0 (acc ++ [c]) r).length ≤ _
    split
    · have := spl_len (S := S) r (S.length - 1) []
      simp; omega
    · have := spl_len (S := S) r 0 (acc ++ [c])
      simp; omega
  | c :: r, k + 1, acc => by
    show (spl S k acc r).length ≤ _
    have := spl_len (S := S) r k acc
    rw [List.length_cons]; omega
theorem spl_mem {S : List Nat} : ∀ (l : List Nat) (k : Nat) (acc p : List Nat), p ∈ spl S k acc l → p.length ≤ acc.length + l.length
  | [], k, acc, p, h => by rw [spl_nil] at h; simp at h; subst h; simp
  | c :: r, 0, acc, p, h => by
    have h' : p ∈ (if pre S (c :: r) = true then acc :: spl S (S.length - 1) [] r else spl S 0 (acc ++ [c]) r) := h
    split at h'
    · rcases List.mem_cons.mp h' with h' | h'
      · subst h'; omega
      · have := spl_mem r _ _ p h'
        simp at this ⊢; omega
    · have := spl_mem r _ _ p h'
      simp at this ⊢; omega
  | c :: r, k + 1, acc, p, h => by
    have := spl_mem r k acc p h
    simp; omega
theorem split_tl {a b : Str} (hb : tl b ≠ []) (hk : b.cps.all (· < 256) = true) : (Txt.split a b).map tl = spl (tl b) 0 [] (tl a) := split_spl a b hb (kind_ok hk)
theorem split_len {a b : Str} (hb : tl b ≠ []) (hk : b.cps.all (· < 256) = true) : (Txt.split a b).length ≤ a.length + 1 := by
  have h1 := congrArg List.length (split_tl (a := a) hb hk)
  have h2 := spl_len (S := tl b) (tl a) 0 []
  rw [List.length_map] at h1
  rw [len_tl]; omega
theorem split_mem {a b p : Str} (hb : tl b ≠ []) (hk : b.cps.all (· < 256) = true) (h : p ∈ Txt.split a b) : p.length ≤ a.length := by
  have h1 : tl p ∈ spl (tl b) 0 [] (tl a) := by rw [← split_tl hb hk]; exact List.mem_map_of_mem h
  have h2 := spl_mem _ _ _ _ h1
  rw [len_tl, len_tl a]; simpa using h2
theorem sp_ne : tl (" " : Str) ≠ [] := by decide
theorem sp_all : (" " : Str).cps.all (· < 256) = true := by decide +kernel
theorem bt_ne : tl ("; " : Str) ≠ [] := by decide
theorem bt_all : ("; " : Str).cps.all (· < 256) = true := by decide +kernel
theorem sp_len : (" " : Str).length ≠ 0 := by decide
theorem bt_len : ("; " : Str).length ≠ 0 := by decide
def rdD (rd : Str → Option Int) : PyData → PyData
  | .str w => optI (rd w)
  | d => d
theorem rdD_map (rd : Str → Option Int) (ws : List Str) : (ws.map PyData.str).map (rdD rd) = (ws.map rd).map optI := by simp [rdD, List.map_map, Function.comp_def]
theorem fIn_none (l : List (Option Int)) : fIn .none (.tuple (l.map optI)) = some (.val (.bool (l.any fun o => o.isNone))) := by
  have h1 : (l.map optI).all flatD = true := by
    rw [List.all_eq_true]
    intro x hx
    obtain ⟨o, _, rfl⟩ := List.mem_map.mp hx
    cases o <;> rfl
  show (if flatD .none = true ∧ (l.map optI).all flatD = true then some (Sl.val (.bool ((l.map optI).any fun z => eqF z .none))) else none) = _
  rw [if_pos ⟨rfl, h1⟩, List.any_map]
  congr 4
  funext o
  cases o <;> rfl
theorem allS_some {l : List (Option Int)} (h : (l.any fun o => o.isNone) = false) : ∃ ns, allS l = some ns ∧ l.map optI = iDs ns ∧ ns.length = l.length := by
  induction l with
  | nil => exact ⟨[], rfl, rfl, rfl⟩
  | cons o l ih =>
    rw [List.any_cons, Bool.or_eq_false_iff] at h
    obtain ⟨ns, h1, h2, h3⟩ := ih h.2
    cases o with
    | none => simp at h
    | some n =>
      refine ⟨n :: ns, ?_, ?_, by simp [h3]⟩
      · show (some n).bind (fun n => (allS l).map (n :: ·)) = _
        rw [h1]; rfl
      · rw [List.map_cons, h2]; rfl
theorem allS_none {l : List (Option Int)} (h : (l.any fun o => o.isNone) = true) : allS l = none := by
  induction l with
  | nil => simp at h
  | cons o l ih =>
    cases o with
    | none => rfl
    | some n =>
      rw [List.any_cons] at h
      have h2 := ih (by simpa using h)
      show (some n).bind (fun n => (allS l).map (n :: ·)) = _
      rw [h2]; rfl
theorem tup0 : valsOf [] = some [] := rfl
theorem data_numbers_read {as : List Sl} {Q : Sl → List Sl → Prop} {X : XD} (h : sp_numbers_read as Q X) : sd_numbers_read { nx := fun e => IoIn as e ∧ Q (.val .none) (e.take 2), rt := fun s e => okRes s ∧ IoIn as e ∧ Q s (e.take 2), ex := fun C f d e => IoIn as e ∧ X C f d (e.take 2) } (as ++ List.replicate (4 - as.length) .un) := by
  obtain ⟨p, m, rfl, hp, hm, q⟩ := h
  unfold sd_numbers_read
  simp (config := { maxSteps := 3000000 }) only [dCall, dCallT, argsOf, argOf, slotsOf_s, slotsOf_v, slotsOf_nil, List.nodup_cons, List.nodup_nil, List.not_mem_nil, not_false_eq_true, updE, sSeq, sNext, sIf, sRet, sDrop, sAsg, sPar, sPar3, sBreak, sCont, gN, gSet, gT, gsCons, gsNil, dC, dVar, dOp, dChain, dNeg, dIfE, dAnd, dOr, dNot, dTup, dLst, dFn, dIsi, dM1, dApp, dExt, dSl, dDict1, qNo, qSm, oV, oS, aNil, aCons, aRev, bV, bAnd, bOr, bNot, bYes, iAny, iRg1, iRg2, iEnD, cont, conts, frz, valsOf, fn1, fn2, slotL, setL, fAdd_i, fSub_i, fLt_i, fLe_i, fGt_i, fGe_i, fEq_i, fEq_s, fNe_i, fNe_s, fIs_n, fNot_n, fIx_l, fIx_t, fLen_l, fLen_t, fInt_i, fSl_l, fSl_t, fMax_i, fMin_i, fAbs_i, fTup_l, fTup_t, fList_l, fList_t, wipeD, List.getElem?_cons_zero, List.getElem?_cons_succ, List.getElem?_nil, List.set_cons_zero, List.set_cons_succ, List.cons_append, List.nil_append, List.length_cons, List.length_nil, Nat.reduceAdd, Nat.reduceSub, List.replicate_succ, List.replicate_zero, List.take_succ_cons, List.take_zero, Option.bind_some, Option.bind_none, Option.map_some, Option.map_none, Option.some.injEq, Option.isSome_some, exists_eq_left', exists_eq_left, exists_and_left, List.cons.injEq, and_assoc, Sl.val.injEq, PyData.bool.injEq, PyData.int.injEq, PyData.str.injEq, PyData.list.injEq, PyData.tuple.injEq, Opn.v.injEq, true_and, and_true, decide_eq_true_eq, reduceIte, Bool.false_eq_true, if_true, if_false, isStr, Option.any_some, okRes, reduceCtorEq, Zero.zero, Nat.succ_eq_add_one, Nat.reduceLeDiff, ite_true, ite_false, Bool.not_eq_true, decide_eq_false_iff_not, len1, fSplit_s (a := p) (b := " ") ⟨sp_len, by omega⟩]
  refine ite_intro (fun h0 => ?_) (fun h0 => ?_)
  · subst h0
    refine ⟨ioIn_of (by simp [IoF]), ?_⟩
    have e : ((partBy readW "-").bind fun l => if (l.length : Int) ≤ m then some l else none) = some [] := by
      unfold partBy
      rw [if_pos rfl, Option.bind_some, if_pos (by simpa using hm)]
    rw [e] at q
    exact q
  · have hl := split_len (a := p) sp_ne sp_all
    refine lc_gen ((Txt.split p " ").map .str) (rdD readW) [.val (.str p), .val (.int m), .un, .un] (fun R hR => ?_) (fun x hx R hR => ?_) ?_
    · simp (config := { maxSteps := 3000000 }) only [dCall, dCallT, argsOf, argOf, slotsOf_s, slotsOf_v, slotsOf_nil, List.nodup_cons, List.nodup_nil, List.not_mem_nil, not_false_eq_true, updE, sSeq, sNext, sIf, sRet, sDrop, sAsg, sPar, sPar3, sBreak, sCont, gN, gSet, gT, gsCons, gsNil, dC, dVar, dOp, dChain, dNeg, dIfE, dAnd, dOr, dNot, dTup, dLst, dFn, dIsi, dM1, dApp, dExt, dSl, dDict1, qNo, qSm, oV, oS, aNil, aCons, aRev, bV, bAnd, bOr, bNot, bYes, iAny, iRg1, iRg2, iEnD, cont, conts, frz, valsOf, fn1, fn2, slotL, setL, fAdd_i, fSub_i, fLt_i, fLe_i, fGt_i, fGe_i, fEq_i, fEq_s, fNe_i, fNe_s, fIs_n, fNot_n, fIx_l, fIx_t, fLen_l, fLen_t, fInt_i, fSl_l, fSl_t, fMax_i, fMin_i, fAbs_i, fTup_l, fTup_t, fList_l, fList_t, wipeD, List.getElem?_cons_zero, List.getElem?_cons_succ, List.getElem?_nil, List.set_cons_zero, List.set_cons_succ, List.cons_append, List.nil_append, List.length_cons, List.length_nil, Nat.reduceAdd, Nat.reduceSub, List.replicate_succ, List.replicate_zero, List.take_succ_cons, List.take_zero, Option.bind_some, Option.bind_none, Option.map_some, Option.map_none, Option.some.injEq, Option.isSome_some, exists_eq_left', exists_eq_left, exists_and_left, List.cons.injEq, and_assoc, Sl.val.injEq, PyData.bool.injEq, PyData.int.injEq, PyData.str.injEq, PyData.list.injEq, PyData.tuple.injEq, Opn.v.injEq, true_and, and_true, decide_eq_true_eq, reduceIte, Bool.false_eq_true, if_true, if_false, isStr, Option.any_some, okRes, reduceCtorEq, Zero.zero, Nat.succ_eq_add_one, Nat.reduceLeDiff, ite_true, ite_false, Bool.not_eq_true, decide_eq_false_iff_not, fSplit_s (a := p) (b := " ") ⟨sp_len, by omega⟩, walk_l (ds := (Txt.split p " ").map PyData.str) (by rw [List.length_map]; omega)]
      exact hR
    · obtain ⟨w, hw, rfl⟩ := List.mem_map.mp hx
      have := split_mem sp_ne sp_all hw
      simp (config := { maxSteps := 3000000 }) only [dCall, dCallT, argsOf, argOf, slotsOf_s, slotsOf_v, slotsOf_nil, List.nodup_cons, List.nodup_nil, List.not_mem_nil, not_false_eq_true, updE, sSeq, sNext, sIf, sRet, sDrop, sAsg, sPar, sPar3, sBreak, sCont, gN, gSet, gT, gsCons, gsNil, dC, dVar, dOp, dChain, dNeg, dIfE, dAnd, dOr, dNot, dTup, dLst, dFn, dIsi, dM1, dApp, dExt, dSl, dDict1, qNo, qSm, oV, oS, aNil, aCons, aRev, bV, bAnd, bOr, bNot, bYes, iAny, iRg1, iRg2, iEnD, cont, conts, frz, valsOf, fn1, fn2, slotL, setL, fAdd_i, fSub_i, fLt_i, fLe_i, fGt_i, fGe_i, fEq_i, fEq_s, fNe_i, fNe_s, fIs_n, fNot_n, fIx_l, fIx_t, fLen_l, fLen_t, fInt_i, fSl_l, fSl_t, fMax_i, fMin_i, fAbs_i, fTup_l, fTup_t, fList_l, fList_t, wipeD, List.getElem?_cons_zero, List.getElem?_cons_succ, List.getElem?_nil, List.set_cons_zero, List.set_cons_succ, List.cons_append, List.nil_append, List.length_cons, List.length_nil, Nat.reduceAdd, Nat.reduceSub, List.replicate_succ, List.replicate_zero, List.take_succ_cons, List.take_zero, Option.bind_some, Option.bind_none, Option.map_some, Option.map_none, Option.some.injEq, Option.isSome_some, exists_eq_left', exists_eq_left, exists_and_left, List.cons.injEq, and_assoc, Sl.val.injEq, PyData.bool.injEq, PyData.int.injEq, PyData.str.injEq, PyData.list.injEq, PyData.tuple.injEq, Opn.v.injEq, true_and, and_true, decide_eq_true_eq, reduceIte, Bool.false_eq_true, if_true, if_false, isStr, Option.any_some, okRes, reduceCtorEq, Zero.zero, Nat.succ_eq_add_one, Nat.reduceLeDiff, ite_true, ite_false, Bool.not_eq_true, decide_eq_false_iff_not]
      exact ⟨w, rfl, by omega, hR _ rfl⟩
    · rw [rdD_map]
      have pe : partBy readW p = allS ((Txt.split p " ").map readW) := if_neg h0
      rw [pe] at q
      simp (config := { maxSteps := 3000000 }) only [dCall, dCallT, argsOf, argOf, slotsOf_s, slotsOf_v, slotsOf_nil, List.nodup_cons, List.nodup_nil, List.not_mem_nil, not_false_eq_true, updE, sSeq, sNext, sIf, sRet, sDrop, sAsg, sPar, sPar3, sBreak, sCont, gN, gSet, gT, gsCons, gsNil, dC, dVar, dOp, dChain, dNeg, dIfE, dAnd, dOr, dNot, dTup, dLst, dFn, dIsi, dM1, dApp, dExt, dSl, dDict1, qNo, qSm, oV, oS, aNil, aCons, aRev, bV, bAnd, bOr, bNot, bYes, iAny, iRg1, iRg2, iEnD, cont, conts, frz, valsOf, fn1, fn2, slotL, setL, fAdd_i, fSub_i, fLt_i, fLe_i, fGt_i, fGe_i, fEq_i, fEq_s, fNe_i, fNe_s, fIs_n, fNot_n, fIx_l, fIx_t, fLen_l, fLen_t, fInt_i, fSl_l, fSl_t, fMax_i, fMin_i, fAbs_i, fTup_l, fTup_t, fList_l, fList_t, wipeD, List.getElem?_cons_zero, List.getElem?_cons_succ, List.getElem?_nil, List.set_cons_zero, List.set_cons_succ, List.cons_append, List.nil_append, List.length_cons, List.length_nil, Nat.reduceAdd, Nat.reduceSub, List.replicate_succ, List.replicate_zero, List.take_succ_cons, List.take_zero, Option.bind_some, Option.bind_none, Option.map_some, Option.map_none, Option.some.injEq, Option.isSome_some, exists_eq_left', exists_eq_left, exists_and_left, List.cons.injEq, and_assoc, Sl.val.injEq, PyData.bool.injEq, PyData.int.injEq, PyData.str.injEq, PyData.list.injEq, PyData.tuple.injEq, Opn.v.injEq, true_and, and_true, decide_eq_true_eq, reduceIte, Bool.false_eq_true, if_true, if_false, isStr, Option.any_some, okRes, reduceCtorEq, Zero.zero, Nat.succ_eq_add_one, Nat.reduceLeDiff, ite_true, ite_false, Bool.not_eq_true, decide_eq_false_iff_not, fIn_none]
      refine ite_intro (fun h1 => ?_) (fun h1 => ?_)
      · rw [allS_none h1] at q
        exact ⟨ioIn_of (by simp [IoF]), q⟩
      · obtain ⟨ns, h2, h3, h4⟩ := allS_some (Bool.eq_false_iff.mpr h1)
        rw [h2, Option.bind_some] at q
        rw [h3]
        simp (config := { maxSteps := 3000000 }) only [dCall, dCallT, argsOf, argOf, slotsOf_s, slotsOf_v, slotsOf_nil, List.nodup_cons, List.nodup_nil, List.not_mem_nil, not_false_eq_true, updE, sSeq, sNext, sIf, sRet, sDrop, sAsg, sPar, sPar3, sBreak, sCont, gN, gSet, gT, gsCons, gsNil, dC, dVar, dOp, dChain, dNeg, dIfE, dAnd, dOr, dNot, dTup, dLst, dFn, dIsi, dM1, dApp, dExt, dSl, dDict1, qNo, qSm, oV, oS, aNil, aCons, aRev, bV, bAnd, bOr, bNot, bYes, iAny, iRg1, iRg2, iEnD, cont, conts, frz, valsOf, fn1, fn2, slotL, setL, fAdd_i, fSub_i, fLt_i, fLe_i, fGt_i, fGe_i, fEq_i, fEq_s, fNe_i, fNe_s, fIs_n, fNot_n, fIx_l, fIx_t, fLen_l, fLen_t, fInt_i, fSl_l, fSl_t, fMax_i, fMin_i, fAbs_i, fTup_l, fTup_t, fList_l, fList_t, wipeD, List.getElem?_cons_zero, List.getElem?_cons_succ, List.getElem?_nil, List.set_cons_zero, List.set_cons_succ, List.cons_append, List.nil_append, List.length_cons, List.length_nil, Nat.reduceAdd, Nat.reduceSub, List.replicate_succ, List.replicate_zero, List.take_succ_cons, List.take_zero, Option.bind_some, Option.bind_none, Option.map_some, Option.map_none, Option.some.injEq, Option.isSome_some, exists_eq_left', exists_eq_left, exists_and_left, List.cons.injEq, and_assoc, Sl.val.injEq, PyData.bool.injEq, PyData.int.injEq, PyData.str.injEq, PyData.list.injEq, PyData.tuple.injEq, Opn.v.injEq, true_and, and_true, decide_eq_true_eq, reduceIte, Bool.false_eq_true, if_true, if_false, isStr, Option.any_some, okRes, reduceCtorEq, Zero.zero, Nat.succ_eq_add_one, Nat.reduceLeDiff, ite_true, ite_false, Bool.not_eq_true, decide_eq_false_iff_not, iDs_len]
        refine ite_intro (fun h5 => ?_) (fun h5 => ?_)
        · rw [if_neg (by omega)] at q
          exact ⟨ioIn_of (by simp [IoF]), q⟩
        · rw [if_pos (by omega)] at q
          exact ⟨ioIn_of (by simp [IoF]), q⟩
theorem data__law_part {as : List Sl} {Q : Sl → List Sl → Prop} {X : XD} (h : sp__law_part as Q X) : sd__law_part { nx := fun e => IoIn as e ∧ Q (.val .none) (e.take 1), rt := fun s e => okRes s ∧ IoIn as e ∧ Q s (e.take 1), ex := fun C f d e => IoIn as e ∧ X C f d (e.take 1) } (as ++ List.replicate (3 - as.length) .un) := by
  obtain ⟨p, rfl, hp, q⟩ := h
  unfold sd__law_part
  simp (config := { maxSteps := 3000000 }) only [dCall, dCallT, argsOf, argOf, slotsOf_s, slotsOf_v, slotsOf_nil, List.nodup_cons, List.nodup_nil, List.not_mem_nil, not_false_eq_true, updE, sSeq, sNext, sIf, sRet, sDrop, sAsg, sPar, sPar3, sBreak, sCont, gN, gSet, gT, gsCons, gsNil, dC, dVar, dOp, dChain, dNeg, dIfE, dAnd, dOr, dNot, dTup, dLst, dFn, dIsi, dM1, dApp, dExt, dSl, dDict1, qNo, qSm, oV, oS, aNil, aCons, aRev, bV, bAnd, bOr, bNot, bYes, iAny, iRg1, iRg2, iEnD, cont, conts, frz, valsOf, fn1, fn2, slotL, setL, fAdd_i, fSub_i, fLt_i, fLe_i, fGt_i, fGe_i, fEq_i, fEq_s, fNe_i, fNe_s, fIs_n, fNot_n, fIx_l, fIx_t, fLen_l, fLen_t, fInt_i, fSl_l, fSl_t, fMax_i, fMin_i, fAbs_i, fTup_l, fTup_t, fList_l, fList_t, wipeD, List.getElem?_cons_zero, List.getElem?_cons_succ, List.getElem?_nil, List.set_cons_zero, List.set_cons_succ, List.cons_append, List.nil_append, List.length_cons, List.length_nil, Nat.reduceAdd, Nat.reduceSub, List.replicate_succ, List.replicate_zero, List.take_succ_cons, List.take_zero, Option.bind_some, Option.bind_none, Option.map_some, Option.map_none, Option.some.injEq, Option.isSome_some, exists_eq_left', exists_eq_left, exists_and_left, List.cons.injEq, and_assoc, Sl.val.injEq, PyData.bool.injEq, PyData.int.injEq, PyData.str.injEq, PyData.list.injEq, PyData.tuple.injEq, Opn.v.injEq, true_and, and_true, decide_eq_true_eq, reduceIte, Bool.false_eq_true, if_true, if_false, isStr, Option.any_some, okRes, reduceCtorEq, Zero.zero, Nat.succ_eq_add_one, Nat.reduceLeDiff, ite_true, ite_false, Bool.not_eq_true, decide_eq_false_iff_not, len1, fSplit_s (a := p) (b := " ") ⟨sp_len, by omega⟩]
  refine ite_intro (fun h0 => ?_) (fun h0 => ?_)
  · subst h0
    refine ⟨ioIn_of (by simp [IoF]), ?_⟩
    have e : partBy lawW "-" = some [] := by
      unfold partBy
      rw [if_pos rfl]
    rw [e] at q
    exact q
  · have hl := split_len (a := p) sp_ne sp_all
    refine lc_gen ((Txt.split p " ").map .str) (rdD lawW) [.val (.str p), .un, .un] (fun R hR => ?_) (fun x hx R hR => ?_) ?_
    · simp (config := { maxSteps := 3000000 }) only [dCall, dCallT, argsOf, argOf, slotsOf_s, slotsOf_v, slotsOf_nil, List.nodup_cons, List.nodup_nil, List.not_mem_nil, not_false_eq_true, updE, sSeq, sNext, sIf, sRet, sDrop, sAsg, sPar, sPar3, sBreak, sCont, gN, gSet, gT, gsCons, gsNil, dC, dVar, dOp, dChain, dNeg, dIfE, dAnd, dOr, dNot, dTup, dLst, dFn, dIsi, dM1, dApp, dExt, dSl, dDict1, qNo, qSm, oV, oS, aNil, aCons, aRev, bV, bAnd, bOr, bNot, bYes, iAny, iRg1, iRg2, iEnD, cont, conts, frz, valsOf, fn1, fn2, slotL, setL, fAdd_i, fSub_i, fLt_i, fLe_i, fGt_i, fGe_i, fEq_i, fEq_s, fNe_i, fNe_s, fIs_n, fNot_n, fIx_l, fIx_t, fLen_l, fLen_t, fInt_i, fSl_l, fSl_t, fMax_i, fMin_i, fAbs_i, fTup_l, fTup_t, fList_l, fList_t, wipeD, List.getElem?_cons_zero, List.getElem?_cons_succ, List.getElem?_nil, List.set_cons_zero, List.set_cons_succ, List.cons_append, List.nil_append, List.length_cons, List.length_nil, Nat.reduceAdd, Nat.reduceSub, List.replicate_succ, List.replicate_zero, List.take_succ_cons, List.take_zero, Option.bind_some, Option.bind_none, Option.map_some, Option.map_none, Option.some.injEq, Option.isSome_some, exists_eq_left', exists_eq_left, exists_and_left, List.cons.injEq, and_assoc, Sl.val.injEq, PyData.bool.injEq, PyData.int.injEq, PyData.str.injEq, PyData.list.injEq, PyData.tuple.injEq, Opn.v.injEq, true_and, and_true, decide_eq_true_eq, reduceIte, Bool.false_eq_true, if_true, if_false, isStr, Option.any_some, okRes, reduceCtorEq, Zero.zero, Nat.succ_eq_add_one, Nat.reduceLeDiff, ite_true, ite_false, Bool.not_eq_true, decide_eq_false_iff_not, fSplit_s (a := p) (b := " ") ⟨sp_len, by omega⟩, walk_l (ds := (Txt.split p " ").map PyData.str) (by rw [List.length_map]; omega)]
      exact hR
    · obtain ⟨w, hw, rfl⟩ := List.mem_map.mp hx
      have := split_mem sp_ne sp_all hw
      simp (config := { maxSteps := 3000000 }) only [dCall, dCallT, argsOf, argOf, slotsOf_s, slotsOf_v, slotsOf_nil, List.nodup_cons, List.nodup_nil, List.not_mem_nil, not_false_eq_true, updE, sSeq, sNext, sIf, sRet, sDrop, sAsg, sPar, sPar3, sBreak, sCont, gN, gSet, gT, gsCons, gsNil, dC, dVar, dOp, dChain, dNeg, dIfE, dAnd, dOr, dNot, dTup, dLst, dFn, dIsi, dM1, dApp, dExt, dSl, dDict1, qNo, qSm, oV, oS, aNil, aCons, aRev, bV, bAnd, bOr, bNot, bYes, iAny, iRg1, iRg2, iEnD, cont, conts, frz, valsOf, fn1, fn2, slotL, setL, fAdd_i, fSub_i, fLt_i, fLe_i, fGt_i, fGe_i, fEq_i, fEq_s, fNe_i, fNe_s, fIs_n, fNot_n, fIx_l, fIx_t, fLen_l, fLen_t, fInt_i, fSl_l, fSl_t, fMax_i, fMin_i, fAbs_i, fTup_l, fTup_t, fList_l, fList_t, wipeD, List.getElem?_cons_zero, List.getElem?_cons_succ, List.getElem?_nil, List.set_cons_zero, List.set_cons_succ, List.cons_append, List.nil_append, List.length_cons, List.length_nil, Nat.reduceAdd, Nat.reduceSub, List.replicate_succ, List.replicate_zero, List.take_succ_cons, List.take_zero, Option.bind_some, Option.bind_none, Option.map_some, Option.map_none, Option.some.injEq, Option.isSome_some, exists_eq_left', exists_eq_left, exists_and_left, List.cons.injEq, and_assoc, Sl.val.injEq, PyData.bool.injEq, PyData.int.injEq, PyData.str.injEq, PyData.list.injEq, PyData.tuple.injEq, Opn.v.injEq, true_and, and_true, decide_eq_true_eq, reduceIte, Bool.false_eq_true, if_true, if_false, isStr, Option.any_some, okRes, reduceCtorEq, Zero.zero, Nat.succ_eq_add_one, Nat.reduceLeDiff, ite_true, ite_false, Bool.not_eq_true, decide_eq_false_iff_not]
      exact ⟨w, rfl, by omega, hR _ rfl⟩
    · rw [rdD_map]
      have pe : partBy lawW p = allS ((Txt.split p " ").map lawW) := if_neg h0
      rw [pe] at q
      simp (config := { maxSteps := 3000000 }) only [dCall, dCallT, argsOf, argOf, slotsOf_s, slotsOf_v, slotsOf_nil, List.nodup_cons, List.nodup_nil, List.not_mem_nil, not_false_eq_true, updE, sSeq, sNext, sIf, sRet, sDrop, sAsg, sPar, sPar3, sBreak, sCont, gN, gSet, gT, gsCons, gsNil, dC, dVar, dOp, dChain, dNeg, dIfE, dAnd, dOr, dNot, dTup, dLst, dFn, dIsi, dM1, dApp, dExt, dSl, dDict1, qNo, qSm, oV, oS, aNil, aCons, aRev, bV, bAnd, bOr, bNot, bYes, iAny, iRg1, iRg2, iEnD, cont, conts, frz, valsOf, fn1, fn2, slotL, setL, fAdd_i, fSub_i, fLt_i, fLe_i, fGt_i, fGe_i, fEq_i, fEq_s, fNe_i, fNe_s, fIs_n, fNot_n, fIx_l, fIx_t, fLen_l, fLen_t, fInt_i, fSl_l, fSl_t, fMax_i, fMin_i, fAbs_i, fTup_l, fTup_t, fList_l, fList_t, wipeD, List.getElem?_cons_zero, List.getElem?_cons_succ, List.getElem?_nil, List.set_cons_zero, List.set_cons_succ, List.cons_append, List.nil_append, List.length_cons, List.length_nil, Nat.reduceAdd, Nat.reduceSub, List.replicate_succ, List.replicate_zero, List.take_succ_cons, List.take_zero, Option.bind_some, Option.bind_none, Option.map_some, Option.map_none, Option.some.injEq, Option.isSome_some, exists_eq_left', exists_eq_left, exists_and_left, List.cons.injEq, and_assoc, Sl.val.injEq, PyData.bool.injEq, PyData.int.injEq, PyData.str.injEq, PyData.list.injEq, PyData.tuple.injEq, Opn.v.injEq, true_and, and_true, decide_eq_true_eq, reduceIte, Bool.false_eq_true, if_true, if_false, isStr, Option.any_some, okRes, reduceCtorEq, Zero.zero, Nat.succ_eq_add_one, Nat.reduceLeDiff, ite_true, ite_false, Bool.not_eq_true, decide_eq_false_iff_not, fIn_none]
      refine ite_intro (fun h1 => ?_) (fun h1 => ?_)
      · rw [allS_none h1] at q
        exact ⟨ioIn_of (by simp [IoF]), q⟩
      · obtain ⟨ns, h2, h3, h4⟩ := allS_some (Bool.eq_false_iff.mpr h1)
        rw [h2] at q
        rw [h3]
        exact ⟨ioIn_of (by simp [IoF]), q⟩
end K35
namespace K35
open PySem L2 PySem.Spec PyProof.Rows PD PySem.NumText TL
theorem kit_none : kitB "NoneType" "str" = some false := by decide +kernel
theorem kit_bool : kitB "bool" "str" = some false := by decide +kernel
theorem kit_int : kitB "int" "str" = some false := by decide +kernel
theorem kit_str : kitB "str" "str" = some true := by decide +kernel
theorem kit_list : kitB "list" "str" = some false := by decide +kernel
theorem kit_tuple : kitB "tuple" "str" = some false := by decide +kernel
theorem kit_dict : kitB "dict" "str" = some false := by decide +kernel
theorem fIsi_str (d : PyData) : fIsi "str" d = some (.val (.bool (isS d))) := by
  cases d with
  | none => show (kitB "NoneType" "str").map _ = _; rw [kit_none]; rfl
  | bool b => show (kitB "bool" "str").map _ = _; rw [kit_bool]; rfl
  | int b => show (kitB "int" "str").map _ = _; rw [kit_int]; rfl
  | str b => show (kitB "str" "str").map _ = _; rw [kit_str]; rfl
  | list b => show (kitB "list" "str").map _ = _; rw [kit_list]; rfl
  | tuple b => show (kitB "tuple" "str").map _ = _; rw [kit_tuple]; rfl
  | dict b => show (kitB "dict" "str").map _ = _; rw [kit_dict]; rfl
def tupD (l : List Int) : PyData := .tuple (iDs l)
/-- what the walk over the parts has found so far -/
def pre (f : Nat → Str → Option (List Int)) (P : List Str) (i : Nat) (ls : List (List Int)) : Prop := ls.length = i ∧ scan f 0 P = (match scan f i (P.drop i) with | .inl j => .inl j | .inr r => .inr (ls ++ r))
theorem pre_0 (f : Nat → Str → Option (List Int)) (P : List Str) : pre f P 0 [] := ⟨rfl, by
  rw [List.drop_zero]
  cases scan f 0 P <;> rfl⟩
theorem drop_get {α : Type} {l : List α} {i : Nat} {a : α} (h : l[i]? = some a) : l.drop i = a :: l.drop (i + 1) := by
  have hi := (List.getElem?_eq_some_iff.mp h).1
  rw [List.drop_eq_getElem_cons hi]
  congr 1
  exact (List.getElem?_eq_some_iff.mp h).2
theorem pre_bad {f : Nat → Str → Option (List Int)} {P : List Str} {i : Nat} {ls : List (List Int)} {p : Str} (h : pre f P i ls) (hp : P[i]? = some p) (hf : f i p = none) : scan f 0 P = .inl i := by
  rw [h.2, drop_get hp]
  simp only [scan, hf]
theorem pre_ok {f : Nat → Str → Option (List Int)} {P : List Str} {i : Nat} {ls : List (List Int)} {p : Str} {l : List Int} (h : pre f P i ls) (hp : P[i]? = some p) (hf : f i p = some l) : pre f P (i + 1) (ls ++ [l]) := by
  refine ⟨by simp [h.1], ?_⟩
  rw [h.2, drop_get hp]
  simp only [scan, hf]
  cases scan f (i + 1) (P.drop (i + 1)) with
  | inl j => rfl
  | inr r => simp
theorem pre_end {f : Nat → Str → Option (List Int)} {P : List Str} {ls : List (List Int)} (h : pre f P P.length ls) : scan f 0 P = .inr ls := by
  rw [h.2, List.drop_length]
  simp [scan]
theorem enum_get {P : List Str} {i : Nat} {d : PyData} (h : (enumD (P.map PyData.str))[i]? = some d) : ∃ p, P[i]? = some p ∧ d = .tuple [.int (i : Nat), .str p] := by
  simp only [enumD, List.getElem?_map, Option.map_eq_some_iff, List.getElem?_zipIdx, Nat.zero_add] at h
  obtain ⟨q, ⟨d0, ⟨p, hp, rfl⟩, rfl⟩, rfl⟩ := h
  exact ⟨p, hp, rfl⟩
theorem ls_at {ls : List (List Int)} (h : 0 < ls.length) : atI (ls.map tupD) 0 = some (tupD ls.head!) := by
  cases ls with
  | nil => simp at h
  | cons a r => exact atI_nat (xs := (a :: r).map tupD) (j := 0) rfl
theorem ls_cut {ls : List (List Int)} (h : 0 < ls.length) : PD.cutD (ls.map tupD) (some 1) none = ls.tail.map tupD := by
  unfold PD.cutD
  rw [HT.sIx_none, show HT.sIx (ls.map tupD).length 0 (some 1) = min 1 (ls.map tupD).length from HT.sIx_nat _ _ 1]
  cases ls with
  | nil => simp at h
  | cons a r =>
    simp
    exact List.take_of_length_le (by
          simp)
theorem isNo_t (l : List Int) : isNo (.tuple (iDs l)) = false := rfl
theorem optT_none : optT none = .none := rfl
theorem optT_some (l : List Int) : optT (some l) = .tuple (iDs l) := rfl
theorem isNo_n : isNo .none = true := rfl
theorem data_inputs_read {C : Addr} {as : List Sl} {Q : Sl → List Sl → Prop} {X : XD} (h : sp_inputs_read C as Q X) : sd_inputs_read C { nx := fun e => IoIn as e ∧ Q (.val .none) (e.take 3), rt := fun s e => okRes s ∧ IoIn as e ∧ Q s (e.take 3), ex := fun C f d e => IoIn as e ∧ X C f d (e.take 3) } (as ++ List.replicate (8 - as.length) .un) := by
  obtain ⟨d, n, r, rfl, h⟩ := h
  unfold sd_inputs_read
  simp (config := { maxSteps := 3000000 }) only [sRaise, dCall, dCallT, argsOf, argOf, slotsOf_s, slotsOf_v, slotsOf_nil, List.nodup_cons, List.nodup_nil, List.not_mem_nil, not_false_eq_true, updE, sSeq, sNext, sIf, sRet, sDrop, sAsg, sPar, sPar3, sBreak, sCont, gN, gSet, gT, gsCons, gsNil, dC, dVar, dOp, dChain, dNeg, dIfE, dAnd, dOr, dNot, dTup, dLst, dFn, dIsi, dM1, dApp, dExt, dSl, dDict1, qNo, qSm, oV, oS, aNil, aCons, aRev, bV, bAnd, bOr, bNot, bYes, iAny, iRg1, iRg2, iEnD, cont, conts, frz, valsOf, fn1, fn2, slotL, setL, fAdd_i, fSub_i, fLt_i, fLe_i, fGt_i, fGe_i, fEq_i, fEq_s, fNe_i, fNe_s, fIs_n, fNot_n, fIx_l, fIx_t, fLen_l, fLen_t, fInt_i, fSl_l, fSl_t, fMax_i, fMin_i, fAbs_i, fTup_l, fTup_t, fList_l, fList_t, wipeD, List.getElem?_cons_zero, List.getElem?_cons_succ, List.getElem?_nil, List.set_cons_zero, List.set_cons_succ, List.cons_append, List.nil_append, List.length_cons, List.length_nil, Nat.reduceAdd, Nat.reduceSub, List.replicate_succ, List.replicate_zero, List.take_succ_cons, List.take_zero, Option.bind_some, Option.bind_none, Option.map_some, Option.map_none, Option.some.injEq, Option.isSome_some, exists_eq_left', exists_eq_left, exists_and_left, List.cons.injEq, and_assoc, Sl.val.injEq, PyData.bool.injEq, PyData.int.injEq, PyData.str.injEq, PyData.list.injEq, PyData.tuple.injEq, Opn.v.injEq, true_and, and_true, decide_eq_true_eq, reduceIte, Bool.false_eq_true, if_true, if_false, isStr, Option.any_some, okRes, reduceCtorEq, Zero.zero, Nat.succ_eq_add_one, Nat.reduceLeDiff, ite_true, ite_false, Bool.not_eq_true, decide_eq_false_iff_not, fIsi_str, sRaise]
  rcases h with ⟨t, rfl, ht, hn, hr, hE, hQ⟩ | ⟨hs, hX⟩
  · have hpl := split_len (a := t) bt_ne bt_all
    simp (config := { maxSteps := 3000000 }) only [sRaise, dCall, dCallT, argsOf, argOf, slotsOf_s, slotsOf_v, slotsOf_nil, List.nodup_cons, List.nodup_nil, List.not_mem_nil, not_false_eq_true, updE, sSeq, sNext, sIf, sRet, sDrop, sAsg, sPar, sPar3, sBreak, sCont, gN, gSet, gT, gsCons, gsNil, dC, dVar, dOp, dChain, dNeg, dIfE, dAnd, dOr, dNot, dTup, dLst, dFn, dIsi, dM1, dApp, dExt, dSl, dDict1, qNo, qSm, oV, oS, aNil, aCons, aRev, bV, bAnd, bOr, bNot, bYes, iAny, iRg1, iRg2, iEnD, cont, conts, frz, valsOf, fn1, fn2, slotL, setL, fAdd_i, fSub_i, fLt_i, fLe_i, fGt_i, fGe_i, fEq_i, fEq_s, fNe_i, fNe_s, fIs_n, fNot_n, fIx_l, fIx_t, fLen_l, fLen_t, fInt_i, fSl_l, fSl_t, fMax_i, fMin_i, fAbs_i, fTup_l, fTup_t, fList_l, fList_t, wipeD, List.getElem?_cons_zero, List.getElem?_cons_succ, List.getElem?_nil, List.set_cons_zero, List.set_cons_succ, List.cons_append, List.nil_append, List.length_cons, List.length_nil, Nat.reduceAdd, Nat.reduceSub, List.replicate_succ, List.replicate_zero, List.take_succ_cons, List.take_zero, Option.bind_some, Option.bind_none, Option.map_some, Option.map_none, Option.some.injEq, Option.isSome_some, exists_eq_left', exists_eq_left, exists_and_left, List.cons.injEq, and_assoc, Sl.val.injEq, PyData.bool.injEq, PyData.int.injEq, PyData.str.injEq, PyData.list.injEq, PyData.tuple.injEq, Opn.v.injEq, true_and, and_true, decide_eq_true_eq, reduceIte, Bool.false_eq_true, if_true, if_false, isStr, Option.any_some, okRes, reduceCtorEq, Zero.zero, Nat.succ_eq_add_one, Nat.reduceLeDiff, ite_true, ite_false, Bool.not_eq_true, decide_eq_false_iff_not, isS, fSplit_s (a := t) (b := "; ") ⟨bt_len, by omega⟩, len1]
    unfold sFor
    simp (config := { maxSteps := 3000000 }) only [sRaise, dCall, dCallT, argsOf, argOf, slotsOf_s, slotsOf_v, slotsOf_nil, List.nodup_cons, List.nodup_nil, List.not_mem_nil, not_false_eq_true, updE, sSeq, sNext, sIf, sRet, sDrop, sAsg, sPar, sPar3, sBreak, sCont, gN, gSet, gT, gsCons, gsNil, dC, dVar, dOp, dChain, dNeg, dIfE, dAnd, dOr, dNot, dTup, dLst, dFn, dIsi, dM1, dApp, dExt, dSl, dDict1, qNo, qSm, oV, oS, aNil, aCons, aRev, bV, bAnd, bOr, bNot, bYes, iAny, iRg1, iRg2, iEnD, cont, conts, frz, valsOf, fn1, fn2, slotL, setL, fAdd_i, fSub_i, fLt_i, fLe_i, fGt_i, fGe_i, fEq_i, fEq_s, fNe_i, fNe_s, fIs_n, fNot_n, fIx_l, fIx_t, fLen_l, fLen_t, fInt_i, fSl_l, fSl_t, fMax_i, fMin_i, fAbs_i, fTup_l, fTup_t, fList_l, fList_t, wipeD, List.getElem?_cons_zero, List.getElem?_cons_succ, List.getElem?_nil, List.set_cons_zero, List.set_cons_succ, List.cons_append, List.nil_append, List.length_cons, List.length_nil, Nat.reduceAdd, Nat.reduceSub, List.replicate_succ, List.replicate_zero, List.take_succ_cons, List.take_zero, Option.bind_some, Option.bind_none, Option.map_some, Option.map_none, Option.some.injEq, Option.isSome_some, exists_eq_left', exists_eq_left, exists_and_left, List.cons.injEq, and_assoc, Sl.val.injEq, PyData.bool.injEq, PyData.int.injEq, PyData.str.injEq, PyData.list.injEq, PyData.tuple.injEq, Opn.v.injEq, true_and, and_true, decide_eq_true_eq, reduceIte, Bool.false_eq_true, if_true, if_false, isStr, Option.any_some, okRes, reduceCtorEq, Zero.zero, Nat.succ_eq_add_one, Nat.reduceLeDiff, ite_true, ite_false, Bool.not_eq_true, decide_eq_false_iff_not]
    refine ⟨by rw [sizeLine_eq, List.length_map]; omega, fun i e => ∃ ls x y z, pre (okI readW n r) (Txt.split t "; ") i ls ∧ e = [.val (.str t), .val (.int n), .val (.int r), .val (.list ((Txt.split t "; ").map .str)), .own (.lst (ls.map tupD)), x, y, z], ⟨[], .un, .un, .un, pre_0 _ _, rfl⟩, fun i d e hd hI => ?_, fun e hI => ?_⟩
    · obtain ⟨ls, x, y, z, hpre, rfl⟩ := hI
      obtain ⟨p, hp, rfl⟩ := enum_get hd
      have hpl : p.length ≤ 10000 := Nat.le_trans (split_mem bt_ne bt_all (List.mem_of_getElem? hp)) ht
      have hil := (List.getElem?_eq_some_iff.mp hp).1
      simp (config := { maxSteps := 3000000 }) only [sRaise, dCall, dCallT, argsOf, argOf, slotsOf_s, slotsOf_v, slotsOf_nil, List.nodup_cons, List.nodup_nil, List.not_mem_nil, not_false_eq_true, updE, sSeq, sNext, sIf, sRet, sDrop, sAsg, sPar, sPar3, sBreak, sCont, gN, gSet, gT, gsCons, gsNil, dC, dVar, dOp, dChain, dNeg, dIfE, dAnd, dOr, dNot, dTup, dLst, dFn, dIsi, dM1, dApp, dExt, dSl, dDict1, qNo, qSm, oV, oS, aNil, aCons, aRev, bV, bAnd, bOr, bNot, bYes, iAny, iRg1, iRg2, iEnD, cont, conts, frz, valsOf, fn1, fn2, slotL, setL, fAdd_i, fSub_i, fLt_i, fLe_i, fGt_i, fGe_i, fEq_i, fEq_s, fNe_i, fNe_s, fIs_n, fNot_n, fIx_l, fIx_t, fLen_l, fLen_t, fInt_i, fSl_l, fSl_t, fMax_i, fMin_i, fAbs_i, fTup_l, fTup_t, fList_l, fList_t, wipeD, List.getElem?_cons_zero, List.getElem?_cons_succ, List.getElem?_nil, List.set_cons_zero, List.set_cons_succ, List.cons_append, List.nil_append, List.length_cons, List.length_nil, Nat.reduceAdd, Nat.reduceSub, List.replicate_succ, List.replicate_zero, List.take_succ_cons, List.take_zero, Option.bind_some, Option.bind_none, Option.map_some, Option.map_none, Option.some.injEq, Option.isSome_some, exists_eq_left', exists_eq_left, exists_and_left, List.cons.injEq, and_assoc, Sl.val.injEq, PyData.bool.injEq, PyData.int.injEq, PyData.str.injEq, PyData.list.injEq, PyData.tuple.injEq, Opn.v.injEq, true_and, and_true, decide_eq_true_eq, reduceIte, Bool.false_eq_true, if_true, if_false, isStr, Option.any_some, okRes, reduceCtorEq, Zero.zero, Nat.succ_eq_add_one, Nat.reduceLeDiff, ite_true, ite_false, Bool.not_eq_true, decide_eq_false_iff_not]
      refine ite_intro (fun h0 => ?_) (fun h0 => ?_)
      · refine ⟨p, _, rfl, hpl, by omega, ?_⟩
        cases hv : (partBy readW p) with
        | none =>
          have hfn : okI readW n r i p = none := by unfold okI; rw [hv]; rfl
          have hs := pre_bad hpre hp hfn
          have hdue : due readW t n r = .inl i := by unfold due; rw [hs]
          simp (config := { maxSteps := 3000000 }) only [sRaise, dCall, dCallT, argsOf, argOf, slotsOf_s, slotsOf_v, slotsOf_nil, List.nodup_cons, List.nodup_nil, List.not_mem_nil, not_false_eq_true, updE, sSeq, sNext, sIf, sRet, sDrop, sAsg, sPar, sPar3, sBreak, sCont, gN, gSet, gT, gsCons, gsNil, dC, dVar, dOp, dChain, dNeg, dIfE, dAnd, dOr, dNot, dTup, dLst, dFn, dIsi, dM1, dApp, dExt, dSl, dDict1, qNo, qSm, oV, oS, aNil, aCons, aRev, bV, bAnd, bOr, bNot, bYes, iAny, iRg1, iRg2, iEnD, cont, conts, frz, valsOf, fn1, fn2, slotL, setL, fAdd_i, fSub_i, fLt_i, fLe_i, fGt_i, fGe_i, fEq_i, fEq_s, fNe_i, fNe_s, fIs_n, fNot_n, fIx_l, fIx_t, fLen_l, fLen_t, fInt_i, fSl_l, fSl_t, fMax_i, fMin_i, fAbs_i, fTup_l, fTup_t, fList_l, fList_t, wipeD, List.getElem?_cons_zero, List.getElem?_cons_succ, List.getElem?_nil, List.set_cons_zero, List.set_cons_succ, List.cons_append, List.nil_append, List.length_cons, List.length_nil, Nat.reduceAdd, Nat.reduceSub, List.replicate_succ, List.replicate_zero, List.take_succ_cons, List.take_zero, Option.bind_some, Option.bind_none, Option.map_some, Option.map_none, Option.some.injEq, Option.isSome_some, exists_eq_left', exists_eq_left, exists_and_left, List.cons.injEq, and_assoc, Sl.val.injEq, PyData.bool.injEq, PyData.int.injEq, PyData.str.injEq, PyData.list.injEq, PyData.tuple.injEq, Opn.v.injEq, true_and, and_true, decide_eq_true_eq, reduceIte, Bool.false_eq_true, if_true, if_false, isStr, Option.any_some, okRes, reduceCtorEq, Zero.zero, Nat.succ_eq_add_one, Nat.reduceLeDiff, ite_true, ite_false, Bool.not_eq_true, decide_eq_false_iff_not, hv, optT_none, isNo_n]
          exact ⟨ioIn_of (by simp [IoF]), hE i hdue⟩
        | some l =>
          simp (config := { maxSteps := 3000000 }) only [sRaise, dCall, dCallT, argsOf, argOf, slotsOf_s, slotsOf_v, slotsOf_nil, List.nodup_cons, List.nodup_nil, List.not_mem_nil, not_false_eq_true, updE, sSeq, sNext, sIf, sRet, sDrop, sAsg, sPar, sPar3, sBreak, sCont, gN, gSet, gT, gsCons, gsNil, dC, dVar, dOp, dChain, dNeg, dIfE, dAnd, dOr, dNot, dTup, dLst, dFn, dIsi, dM1, dApp, dExt, dSl, dDict1, qNo, qSm, oV, oS, aNil, aCons, aRev, bV, bAnd, bOr, bNot, bYes, iAny, iRg1, iRg2, iEnD, cont, conts, frz, valsOf, fn1, fn2, slotL, setL, fAdd_i, fSub_i, fLt_i, fLe_i, fGt_i, fGe_i, fEq_i, fEq_s, fNe_i, fNe_s, fIs_n, fNot_n, fIx_l, fIx_t, fLen_l, fLen_t, fInt_i, fSl_l, fSl_t, fMax_i, fMin_i, fAbs_i, fTup_l, fTup_t, fList_l, fList_t, wipeD, List.getElem?_cons_zero, List.getElem?_cons_succ, List.getElem?_nil, List.set_cons_zero, List.set_cons_succ, List.cons_append, List.nil_append, List.length_cons, List.length_nil, Nat.reduceAdd, Nat.reduceSub, List.replicate_succ, List.replicate_zero, List.take_succ_cons, List.take_zero, Option.bind_some, Option.bind_none, Option.map_some, Option.map_none, Option.some.injEq, Option.isSome_some, exists_eq_left', exists_eq_left, exists_and_left, List.cons.injEq, and_assoc, Sl.val.injEq, PyData.bool.injEq, PyData.int.injEq, PyData.str.injEq, PyData.list.injEq, PyData.tuple.injEq, Opn.v.injEq, true_and, and_true, decide_eq_true_eq, reduceIte, Bool.false_eq_true, if_true, if_false, isStr, Option.any_some, okRes, reduceCtorEq, Zero.zero, Nat.succ_eq_add_one, Nat.reduceLeDiff, ite_true, ite_false, Bool.not_eq_true, decide_eq_false_iff_not, hv]
          by_cases hm : (l.length : Int) ≤ n
          · rw [if_pos hm]
            simp (config := { maxSteps := 3000000 }) only [sRaise, dCall, dCallT, argsOf, argOf, slotsOf_s, slotsOf_v, slotsOf_nil, List.nodup_cons, List.nodup_nil, List.not_mem_nil, not_false_eq_true, updE, sSeq, sNext, sIf, sRet, sDrop, sAsg, sPar, sPar3, sBreak, sCont, gN, gSet, gT, gsCons, gsNil, dC, dVar, dOp, dChain, dNeg, dIfE, dAnd, dOr, dNot, dTup, dLst, dFn, dIsi, dM1, dApp, dExt, dSl, dDict1, qNo, qSm, oV, oS, aNil, aCons, aRev, bV, bAnd, bOr, bNot, bYes, iAny, iRg1, iRg2, iEnD, cont, conts, frz, valsOf, fn1, fn2, slotL, setL, fAdd_i, fSub_i, fLt_i, fLe_i, fGt_i, fGe_i, fEq_i, fEq_s, fNe_i, fNe_s, fIs_n, fNot_n, fIx_l, fIx_t, fLen_l, fLen_t, fInt_i, fSl_l, fSl_t, fMax_i, fMin_i, fAbs_i, fTup_l, fTup_t, fList_l, fList_t, wipeD, List.getElem?_cons_zero, List.getElem?_cons_succ, List.getElem?_nil, List.set_cons_zero, List.set_cons_succ, List.cons_append, List.nil_append, List.length_cons, List.length_nil, Nat.reduceAdd, Nat.reduceSub, List.replicate_succ, List.replicate_zero, List.take_succ_cons, List.take_zero, Option.bind_some, Option.bind_none, Option.map_some, Option.map_none, Option.some.injEq, Option.isSome_some, exists_eq_left', exists_eq_left, exists_and_left, List.cons.injEq, and_assoc, Sl.val.injEq, PyData.bool.injEq, PyData.int.injEq, PyData.str.injEq, PyData.list.injEq, PyData.tuple.injEq, Opn.v.injEq, true_and, and_true, decide_eq_true_eq, reduceIte, Bool.false_eq_true, if_true, if_false, isStr, Option.any_some, okRes, reduceCtorEq, Zero.zero, Nat.succ_eq_add_one, Nat.reduceLeDiff, ite_true, ite_false, Bool.not_eq_true, decide_eq_false_iff_not, optT_some, isNo_t]
            refine ite_intro (fun h2 => ?_) (fun h2 => ?_)
            · have hfn : okI readW n r i p = none := by unfold okI; rw [hv, Option.bind_some, if_neg (fun z => by omega)]
              have hdue : due readW t n r = .inl i := by unfold due; rw [pre_bad hpre hp hfn]
              exact ⟨ioIn_of (by simp [IoF]), hE i hdue⟩
            · rw [if_pos h0]
              refine ite_intro (fun h3 => ?_) (fun h3 => ?_)
              · have h4 : ¬ (l.length : Int) = n := by rw [iDs_len] at h3; simpa using h3
                have hfn : okI readW n r i p = none := by unfold okI; rw [hv, Option.bind_some, if_neg]; rintro ⟨_, z⟩; rw [if_pos (by omega)] at z; exact h4 z
                have hdue : due readW t n r = .inl i := by unfold due; rw [pre_bad hpre hp hfn]
                exact ⟨ioIn_of (by simp [IoF]), hE i hdue⟩
              · have h4 : (l.length : Int) = n := by rw [iDs_len] at h3; simpa using h3
                have hfs : okI readW n r i p = some l := by unfold okI; rw [hv, Option.bind_some, if_pos ⟨by omega, by rw [if_pos (by omega)]; exact h4⟩]
                refine ⟨by rw [List.length_map, hpre.1]; omega, ls ++ [l], pre_ok hpre hp hfs, by simp [tupD], _, rfl⟩
          · rw [if_neg hm]
            have hfn : okI readW n r i p = none := by
              unfold okI; rw [hv, Option.bind_some, if_neg]
              rintro ⟨_, z⟩
              rw [if_pos (by omega)] at z; omega
            have hdue : due readW t n r = .inl i := by unfold due; rw [pre_bad hpre hp hfn]
            simp (config := { maxSteps := 3000000 }) only [sRaise, dCall, dCallT, argsOf, argOf, slotsOf_s, slotsOf_v, slotsOf_nil, List.nodup_cons, List.nodup_nil, List.not_mem_nil, not_false_eq_true, updE, sSeq, sNext, sIf, sRet, sDrop, sAsg, sPar, sPar3, sBreak, sCont, gN, gSet, gT, gsCons, gsNil, dC, dVar, dOp, dChain, dNeg, dIfE, dAnd, dOr, dNot, dTup, dLst, dFn, dIsi, dM1, dApp, dExt, dSl, dDict1, qNo, qSm, oV, oS, aNil, aCons, aRev, bV, bAnd, bOr, bNot, bYes, iAny, iRg1, iRg2, iEnD, cont, conts, frz, valsOf, fn1, fn2, slotL, setL, fAdd_i, fSub_i, fLt_i, fLe_i, fGt_i, fGe_i, fEq_i, fEq_s, fNe_i, fNe_s, fIs_n, fNot_n, fIx_l, fIx_t, fLen_l, fLen_t, fInt_i, fSl_l, fSl_t, fMax_i, fMin_i, fAbs_i, fTup_l, fTup_t, fList_l, fList_t, wipeD, List.getElem?_cons_zero, List.getElem?_cons_succ, List.getElem?_nil, List.set_cons_zero, List.set_cons_succ, List.cons_append, List.nil_append, List.length_cons, List.length_nil, Nat.reduceAdd, Nat.reduceSub, List.replicate_succ, List.replicate_zero, List.take_succ_cons, List.take_zero, Option.bind_some, Option.bind_none, Option.map_some, Option.map_none, Option.some.injEq, Option.isSome_some, exists_eq_left', exists_eq_left, exists_and_left, List.cons.injEq, and_assoc, Sl.val.injEq, PyData.bool.injEq, PyData.int.injEq, PyData.str.injEq, PyData.list.injEq, PyData.tuple.injEq, Opn.v.injEq, true_and, and_true, decide_eq_true_eq, reduceIte, Bool.false_eq_true, if_true, if_false, isStr, Option.any_some, okRes, reduceCtorEq, Zero.zero, Nat.succ_eq_add_one, Nat.reduceLeDiff, ite_true, ite_false, Bool.not_eq_true, decide_eq_false_iff_not, optT_none, isNo_n]
            exact ⟨ioIn_of (by simp [IoF]), hE i hdue⟩
      · refine ⟨p, _, rfl, hpl, by omega, ?_⟩
        cases hv : (partBy readW p) with
        | none =>
          have hfn : okI readW n r i p = none := by unfold okI; rw [hv]; rfl
          have hs := pre_bad hpre hp hfn
          have hdue : due readW t n r = .inl i := by unfold due; rw [hs]
          simp (config := { maxSteps := 3000000 }) only [sRaise, dCall, dCallT, argsOf, argOf, slotsOf_s, slotsOf_v, slotsOf_nil, List.nodup_cons, List.nodup_nil, List.not_mem_nil, not_false_eq_true, updE, sSeq, sNext, sIf, sRet, sDrop, sAsg, sPar, sPar3, sBreak, sCont, gN, gSet, gT, gsCons, gsNil, dC, dVar, dOp, dChain, dNeg, dIfE, dAnd, dOr, dNot, dTup, dLst, dFn, dIsi, dM1, dApp, dExt, dSl, dDict1, qNo, qSm, oV, oS, aNil, aCons, aRev, bV, bAnd, bOr, bNot, bYes, iAny, iRg1, iRg2, iEnD, cont, conts, frz, valsOf, fn1, fn2, slotL, setL, fAdd_i, fSub_i, fLt_i, fLe_i, fGt_i, fGe_i, fEq_i, fEq_s, fNe_i, fNe_s, fIs_n, fNot_n, fIx_l, fIx_t, fLen_l, fLen_t, fInt_i, fSl_l, fSl_t, fMax_i, fMin_i, fAbs_i, fTup_l, fTup_t, fList_l, fList_t, wipeD, List.getElem?_cons_zero, List.getElem?_cons_succ, List.getElem?_nil, List.set_cons_zero, List.set_cons_succ, List.cons_append, List.nil_append, List.length_cons, List.length_nil, Nat.reduceAdd, Nat.reduceSub, List.replicate_succ, List.replicate_zero, List.take_succ_cons, List.take_zero, Option.bind_some, Option.bind_none, Option.map_some, Option.map_none, Option.some.injEq, Option.isSome_some, exists_eq_left', exists_eq_left, exists_and_left, List.cons.injEq, and_assoc, Sl.val.injEq, PyData.bool.injEq, PyData.int.injEq, PyData.str.injEq, PyData.list.injEq, PyData.tuple.injEq, Opn.v.injEq, true_and, and_true, decide_eq_true_eq, reduceIte, Bool.false_eq_true, if_true, if_false, isStr, Option.any_some, okRes, reduceCtorEq, Zero.zero, Nat.succ_eq_add_one, Nat.reduceLeDiff, ite_true, ite_false, Bool.not_eq_true, decide_eq_false_iff_not, hv, optT_none, isNo_n]
          exact ⟨ioIn_of (by simp [IoF]), hE i hdue⟩
        | some l =>
          simp (config := { maxSteps := 3000000 }) only [sRaise, dCall, dCallT, argsOf, argOf, slotsOf_s, slotsOf_v, slotsOf_nil, List.nodup_cons, List.nodup_nil, List.not_mem_nil, not_false_eq_true, updE, sSeq, sNext, sIf, sRet, sDrop, sAsg, sPar, sPar3, sBreak, sCont, gN, gSet, gT, gsCons, gsNil, dC, dVar, dOp, dChain, dNeg, dIfE, dAnd, dOr, dNot, dTup, dLst, dFn, dIsi, dM1, dApp, dExt, dSl, dDict1, qNo, qSm, oV, oS, aNil, aCons, aRev, bV, bAnd, bOr, bNot, bYes, iAny, iRg1, iRg2, iEnD, cont, conts, frz, valsOf, fn1, fn2, slotL, setL, fAdd_i, fSub_i, fLt_i, fLe_i, fGt_i, fGe_i, fEq_i, fEq_s, fNe_i, fNe_s, fIs_n, fNot_n, fIx_l, fIx_t, fLen_l, fLen_t, fInt_i, fSl_l, fSl_t, fMax_i, fMin_i, fAbs_i, fTup_l, fTup_t, fList_l, fList_t, wipeD, List.getElem?_cons_zero, List.getElem?_cons_succ, List.getElem?_nil, List.set_cons_zero, List.set_cons_succ, List.cons_append, List.nil_append, List.length_cons, List.length_nil, Nat.reduceAdd, Nat.reduceSub, List.replicate_succ, List.replicate_zero, List.take_succ_cons, List.take_zero, Option.bind_some, Option.bind_none, Option.map_some, Option.map_none, Option.some.injEq, Option.isSome_some, exists_eq_left', exists_eq_left, exists_and_left, List.cons.injEq, and_assoc, Sl.val.injEq, PyData.bool.injEq, PyData.int.injEq, PyData.str.injEq, PyData.list.injEq, PyData.tuple.injEq, Opn.v.injEq, true_and, and_true, decide_eq_true_eq, reduceIte, Bool.false_eq_true, if_true, if_false, isStr, Option.any_some, okRes, reduceCtorEq, Zero.zero, Nat.succ_eq_add_one, Nat.reduceLeDiff, ite_true, ite_false, Bool.not_eq_true, decide_eq_false_iff_not, hv]
          by_cases hm : (l.length : Int) ≤ 40
          · rw [if_pos hm]
            simp (config := { maxSteps := 3000000 }) only [sRaise, dCall, dCallT, argsOf, argOf, slotsOf_s, slotsOf_v, slotsOf_nil, List.nodup_cons, List.nodup_nil, List.not_mem_nil, not_false_eq_true, updE, sSeq, sNext, sIf, sRet, sDrop, sAsg, sPar, sPar3, sBreak, sCont, gN, gSet, gT, gsCons, gsNil, dC, dVar, dOp, dChain, dNeg, dIfE, dAnd, dOr, dNot, dTup, dLst, dFn, dIsi, dM1, dApp, dExt, dSl, dDict1, qNo, qSm, oV, oS, aNil, aCons, aRev, bV, bAnd, bOr, bNot, bYes, iAny, iRg1, iRg2, iEnD, cont, conts, frz, valsOf, fn1, fn2, slotL, setL, fAdd_i, fSub_i, fLt_i, fLe_i, fGt_i, fGe_i, fEq_i, fEq_s, fNe_i, fNe_s, fIs_n, fNot_n, fIx_l, fIx_t, fLen_l, fLen_t, fInt_i, fSl_l, fSl_t, fMax_i, fMin_i, fAbs_i, fTup_l, fTup_t, fList_l, fList_t, wipeD, List.getElem?_cons_zero, List.getElem?_cons_succ, List.getElem?_nil, List.set_cons_zero, List.set_cons_succ, List.cons_append, List.nil_append, List.length_cons, List.length_nil, Nat.reduceAdd, Nat.reduceSub, List.replicate_succ, List.replicate_zero, List.take_succ_cons, List.take_zero, Option.bind_some, Option.bind_none, Option.map_some, Option.map_none, Option.some.injEq, Option.isSome_some, exists_eq_left', exists_eq_left, exists_and_left, List.cons.injEq, and_assoc, Sl.val.injEq, PyData.bool.injEq, PyData.int.injEq, PyData.str.injEq, PyData.list.injEq, PyData.tuple.injEq, Opn.v.injEq, true_and, and_true, decide_eq_true_eq, reduceIte, Bool.false_eq_true, if_true, if_false, isStr, Option.any_some, okRes, reduceCtorEq, Zero.zero, Nat.succ_eq_add_one, Nat.reduceLeDiff, ite_true, ite_false, Bool.not_eq_true, decide_eq_false_iff_not, optT_some, isNo_t]
            refine ite_intro (fun h2 => ?_) (fun h2 => ?_)
            · have hfn : okI readW n r i p = none := by unfold okI; rw [hv, Option.bind_some, if_neg (fun z => by omega)]
              have hdue : due readW t n r = .inl i := by unfold due; rw [pre_bad hpre hp hfn]
              exact ⟨ioIn_of (by simp [IoF]), hE i hdue⟩
            · rw [if_neg h0]
              have hfs : okI readW n r i p = some l := by unfold okI; rw [hv, Option.bind_some, if_pos ⟨by omega, by rw [if_neg (by omega)]; omega⟩]
              refine ⟨by rw [List.length_map, hpre.1]; omega, ls ++ [l], pre_ok hpre hp hfs, by simp [tupD], _, rfl⟩
          · rw [if_neg hm]
            have hfn : okI readW n r i p = none := by
              unfold okI; rw [hv, Option.bind_some, if_neg]
              rintro ⟨_, z⟩
              rw [if_neg (by omega)] at z; omega
            have hdue : due readW t n r = .inl i := by unfold due; rw [pre_bad hpre hp hfn]
            simp (config := { maxSteps := 3000000 }) only [sRaise, dCall, dCallT, argsOf, argOf, slotsOf_s, slotsOf_v, slotsOf_nil, List.nodup_cons, List.nodup_nil, List.not_mem_nil, not_false_eq_true, updE, sSeq, sNext, sIf, sRet, sDrop, sAsg, sPar, sPar3, sBreak, sCont, gN, gSet, gT, gsCons, gsNil, dC, dVar, dOp, dChain, dNeg, dIfE, dAnd, dOr, dNot, dTup, dLst, dFn, dIsi, dM1, dApp, dExt, dSl, dDict1, qNo, qSm, oV, oS, aNil, aCons, aRev, bV, bAnd, bOr, bNot, bYes, iAny, iRg1, iRg2, iEnD, cont, conts, frz, valsOf, fn1, fn2, slotL, setL, fAdd_i, fSub_i, fLt_i, fLe_i, fGt_i, fGe_i, fEq_i, fEq_s, fNe_i, fNe_s, fIs_n, fNot_n, fIx_l, fIx_t, fLen_l, fLen_t, fInt_i, fSl_l, fSl_t, fMax_i, fMin_i, fAbs_i, fTup_l, fTup_t, fList_l, fList_t, wipeD, List.getElem?_cons_zero, List.getElem?_cons_succ, List.getElem?_nil, List.set_cons_zero, List.set_cons_succ, List.cons_append, List.nil_append, List.length_cons, List.length_nil, Nat.reduceAdd, Nat.reduceSub, List.replicate_succ, List.replicate_zero, List.take_succ_cons, List.take_zero, Option.bind_some, Option.bind_none, Option.map_some, Option.map_none, Option.some.injEq, Option.isSome_some, exists_eq_left', exists_eq_left, exists_and_left, List.cons.injEq, and_assoc, Sl.val.injEq, PyData.bool.injEq, PyData.int.injEq, PyData.str.injEq, PyData.list.injEq, PyData.tuple.injEq, Opn.v.injEq, true_and, and_true, decide_eq_true_eq, reduceIte, Bool.false_eq_true, if_true, if_false, isStr, Option.any_some, okRes, reduceCtorEq, Zero.zero, Nat.succ_eq_add_one, Nat.reduceLeDiff, ite_true, ite_false, Bool.not_eq_true, decide_eq_false_iff_not, optT_none, isNo_n]
            exact ⟨ioIn_of (by simp [IoF]), hE i hdue⟩
    · obtain ⟨ls, x, y, z, hpre, rfl⟩ := hI
      have hel : (enumD ((Txt.split t "; ").map PyData.str)).length = (Txt.split t "; ").length := by simp [enumD]
      rw [hel] at hpre
      have hend := pre_end hpre
      simp (config := { maxSteps := 3000000 }) only [sRaise, dCall, dCallT, argsOf, argOf, slotsOf_s, slotsOf_v, slotsOf_nil, List.nodup_cons, List.nodup_nil, List.not_mem_nil, not_false_eq_true, updE, sSeq, sNext, sIf, sRet, sDrop, sAsg, sPar, sPar3, sBreak, sCont, gN, gSet, gT, gsCons, gsNil, dC, dVar, dOp, dChain, dNeg, dIfE, dAnd, dOr, dNot, dTup, dLst, dFn, dIsi, dM1, dApp, dExt, dSl, dDict1, qNo, qSm, oV, oS, aNil, aCons, aRev, bV, bAnd, bOr, bNot, bYes, iAny, iRg1, iRg2, iEnD, cont, conts, frz, valsOf, fn1, fn2, slotL, setL, fAdd_i, fSub_i, fLt_i, fLe_i, fGt_i, fGe_i, fEq_i, fEq_s, fNe_i, fNe_s, fIs_n, fNot_n, fIx_l, fIx_t, fLen_l, fLen_t, fInt_i, fSl_l, fSl_t, fMax_i, fMin_i, fAbs_i, fTup_l, fTup_t, fList_l, fList_t, wipeD, List.getElem?_cons_zero, List.getElem?_cons_succ, List.getElem?_nil, List.set_cons_zero, List.set_cons_succ, List.cons_append, List.nil_append, List.length_cons, List.length_nil, Nat.reduceAdd, Nat.reduceSub, List.replicate_succ, List.replicate_zero, List.take_succ_cons, List.take_zero, Option.bind_some, Option.bind_none, Option.map_some, Option.map_none, Option.some.injEq, Option.isSome_some, exists_eq_left', exists_eq_left, exists_and_left, List.cons.injEq, and_assoc, Sl.val.injEq, PyData.bool.injEq, PyData.int.injEq, PyData.str.injEq, PyData.list.injEq, PyData.tuple.injEq, Opn.v.injEq, true_and, and_true, decide_eq_true_eq, reduceIte, Bool.false_eq_true, if_true, if_false, isStr, Option.any_some, okRes, reduceCtorEq, Zero.zero, Nat.succ_eq_add_one, Nat.reduceLeDiff, ite_true, ite_false, Bool.not_eq_true, decide_eq_false_iff_not]
      refine ite_intro (fun h1 => ?_) (fun h1 => ?_)
      · have h2 : ¬ (ls.length : Int) = r + 1 := by rw [List.length_map] at h1; simpa using h1
        have hdue : due readW t n r = .inl ls.length := by unfold due; rw [hend]; exact if_neg h2
        rw [List.length_map]
        exact ⟨ioIn_of (by simp [IoF]), hE _ hdue⟩
      · have h2 : (ls.length : Int) = r + 1 := by rw [List.length_map] at h1; simpa using h1
        have hdue : due readW t n r = .inr ls := by unfold due; rw [hend]; exact if_pos h2
        have h0 : 0 < ls.length := by omega
        simp (config := { maxSteps := 3000000 }) only [sRaise, dCall, dCallT, argsOf, argOf, slotsOf_s, slotsOf_v, slotsOf_nil, List.nodup_cons, List.nodup_nil, List.not_mem_nil, not_false_eq_true, updE, sSeq, sNext, sIf, sRet, sDrop, sAsg, sPar, sPar3, sBreak, sCont, gN, gSet, gT, gsCons, gsNil, dC, dVar, dOp, dChain, dNeg, dIfE, dAnd, dOr, dNot, dTup, dLst, dFn, dIsi, dM1, dApp, dExt, dSl, dDict1, qNo, qSm, oV, oS, aNil, aCons, aRev, bV, bAnd, bOr, bNot, bYes, iAny, iRg1, iRg2, iEnD, cont, conts, frz, valsOf, fn1, fn2, slotL, setL, fAdd_i, fSub_i, fLt_i, fLe_i, fGt_i, fGe_i, fEq_i, fEq_s, fNe_i, fNe_s, fIs_n, fNot_n, fIx_l, fIx_t, fLen_l, fLen_t, fInt_i, fSl_l, fSl_t, fMax_i, fMin_i, fAbs_i, fTup_l, fTup_t, fList_l, fList_t, wipeD, List.getElem?_cons_zero, List.getElem?_cons_succ, List.getElem?_nil, List.set_cons_zero, List.set_cons_succ, List.cons_append, List.nil_append, List.length_cons, List.length_nil, Nat.reduceAdd, Nat.reduceSub, List.replicate_succ, List.replicate_zero, List.take_succ_cons, List.take_zero, Option.bind_some, Option.bind_none, Option.map_some, Option.map_none, Option.some.injEq, Option.isSome_some, exists_eq_left', exists_eq_left, exists_and_left, List.cons.injEq, and_assoc, Sl.val.injEq, PyData.bool.injEq, PyData.int.injEq, PyData.str.injEq, PyData.list.injEq, PyData.tuple.injEq, Opn.v.injEq, true_and, and_true, decide_eq_true_eq, reduceIte, Bool.false_eq_true, if_true, if_false, isStr, Option.any_some, okRes, reduceCtorEq, Zero.zero, Nat.succ_eq_add_one, Nat.reduceLeDiff, ite_true, ite_false, Bool.not_eq_true, decide_eq_false_iff_not, ls_at h0, ls_cut h0]
        exact ⟨ioIn_of (by simp [IoF]), hQ ls hdue⟩
  · simp (config := { maxSteps := 3000000 }) only [sRaise, dCall, dCallT, argsOf, argOf, slotsOf_s, slotsOf_v, slotsOf_nil, List.nodup_cons, List.nodup_nil, List.not_mem_nil, not_false_eq_true, updE, sSeq, sNext, sIf, sRet, sDrop, sAsg, sPar, sPar3, sBreak, sCont, gN, gSet, gT, gsCons, gsNil, dC, dVar, dOp, dChain, dNeg, dIfE, dAnd, dOr, dNot, dTup, dLst, dFn, dIsi, dM1, dApp, dExt, dSl, dDict1, qNo, qSm, oV, oS, aNil, aCons, aRev, bV, bAnd, bOr, bNot, bYes, iAny, iRg1, iRg2, iEnD, cont, conts, frz, valsOf, fn1, fn2, slotL, setL, fAdd_i, fSub_i, fLt_i, fLe_i, fGt_i, fGe_i, fEq_i, fEq_s, fNe_i, fNe_s, fIs_n, fNot_n, fIx_l, fIx_t, fLen_l, fLen_t, fInt_i, fSl_l, fSl_t, fMax_i, fMin_i, fAbs_i, fTup_l, fTup_t, fList_l, fList_t, wipeD, List.getElem?_cons_zero, List.getElem?_cons_succ, List.getElem?_nil, List.set_cons_zero, List.set_cons_succ, List.cons_append, List.nil_append, List.length_cons, List.length_nil, Nat.reduceAdd, Nat.reduceSub, List.replicate_succ, List.replicate_zero, List.take_succ_cons, List.take_zero, Option.bind_some, Option.bind_none, Option.map_some, Option.map_none, Option.some.injEq, Option.isSome_some, exists_eq_left', exists_eq_left, exists_and_left, List.cons.injEq, and_assoc, Sl.val.injEq, PyData.bool.injEq, PyData.int.injEq, PyData.str.injEq, PyData.list.injEq, PyData.tuple.injEq, Opn.v.injEq, true_and, and_true, decide_eq_true_eq, reduceIte, Bool.false_eq_true, if_true, if_false, isStr, Option.any_some, okRes, reduceCtorEq, Zero.zero, Nat.succ_eq_add_one, Nat.reduceLeDiff, ite_true, ite_false, Bool.not_eq_true, decide_eq_false_iff_not, hs]
    exact ⟨ioIn_of (by simp [IoF]), hX⟩
theorem data__law_due {as : List Sl} {Q : Sl → List Sl → Prop} {X : XD} (h : sp__law_due as Q X) : sd__law_due { nx := fun e => IoIn as e ∧ Q (.val .none) (e.take 3), rt := fun s e => okRes s ∧ IoIn as e ∧ Q s (e.take 3), ex := fun C f d e => IoIn as e ∧ X C f d (e.take 3) } (as ++ List.replicate (8 - as.length) .un) := by
  obtain ⟨t, n, r, rfl, ht, hn, hn40, hr, q⟩ := h
  unfold sd__law_due
  have hpl := split_len (a := t) bt_ne bt_all
  simp (config := { maxSteps := 3000000 }) only [sRaise, dCall, dCallT, argsOf, argOf, slotsOf_s, slotsOf_v, slotsOf_nil, List.nodup_cons, List.nodup_nil, List.not_mem_nil, not_false_eq_true, updE, sSeq, sNext, sIf, sRet, sDrop, sAsg, sPar, sPar3, sBreak, sCont, gN, gSet, gT, gsCons, gsNil, dC, dVar, dOp, dChain, dNeg, dIfE, dAnd, dOr, dNot, dTup, dLst, dFn, dIsi, dM1, dApp, dExt, dSl, dDict1, qNo, qSm, oV, oS, aNil, aCons, aRev, bV, bAnd, bOr, bNot, bYes, iAny, iRg1, iRg2, iEnD, cont, conts, frz, valsOf, fn1, fn2, slotL, setL, fAdd_i, fSub_i, fLt_i, fLe_i, fGt_i, fGe_i, fEq_i, fEq_s, fNe_i, fNe_s, fIs_n, fNot_n, fIx_l, fIx_t, fLen_l, fLen_t, fInt_i, fSl_l, fSl_t, fMax_i, fMin_i, fAbs_i, fTup_l, fTup_t, fList_l, fList_t, wipeD, List.getElem?_cons_zero, List.getElem?_cons_succ, List.getElem?_nil, List.set_cons_zero, List.set_cons_succ, List.cons_append, List.nil_append, List.length_cons, List.length_nil, Nat.reduceAdd, Nat.reduceSub, List.replicate_succ, List.replicate_zero, List.take_succ_cons, List.take_zero, Option.bind_some, Option.bind_none, Option.map_some, Option.map_none, Option.some.injEq, Option.isSome_some, exists_eq_left', exists_eq_left, exists_and_left, List.cons.injEq, and_assoc, Sl.val.injEq, PyData.bool.injEq, PyData.int.injEq, PyData.str.injEq, PyData.list.injEq, PyData.tuple.injEq, Opn.v.injEq, true_and, and_true, decide_eq_true_eq, reduceIte, Bool.false_eq_true, if_true, if_false, isStr, Option.any_some, okRes, reduceCtorEq, Zero.zero, Nat.succ_eq_add_one, Nat.reduceLeDiff, ite_true, ite_false, Bool.not_eq_true, decide_eq_false_iff_not, fSplit_s (a := t) (b := "; ") ⟨bt_len, by omega⟩, len1]
  unfold sFor
  simp (config := { maxSteps := 3000000 }) only [sRaise, dCall, dCallT, argsOf, argOf, slotsOf_s, slotsOf_v, slotsOf_nil, List.nodup_cons, List.nodup_nil, List.not_mem_nil, not_false_eq_true, updE, sSeq, sNext, sIf, sRet, sDrop, sAsg, sPar, sPar3, sBreak, sCont, gN, gSet, gT, gsCons, gsNil, dC, dVar, dOp, dChain, dNeg, dIfE, dAnd, dOr, dNot, dTup, dLst, dFn, dIsi, dM1, dApp, dExt, dSl, dDict1, qNo, qSm, oV, oS, aNil, aCons, aRev, bV, bAnd, bOr, bNot, bYes, iAny, iRg1, iRg2, iEnD, cont, conts, frz, valsOf, fn1, fn2, slotL, setL, fAdd_i, fSub_i, fLt_i, fLe_i, fGt_i, fGe_i, fEq_i, fEq_s, fNe_i, fNe_s, fIs_n, fNot_n, fIx_l, fIx_t, fLen_l, fLen_t, fInt_i, fSl_l, fSl_t, fMax_i, fMin_i, fAbs_i, fTup_l, fTup_t, fList_l, fList_t, wipeD, List.getElem?_cons_zero, List.getElem?_cons_succ, List.getElem?_nil, List.set_cons_zero, List.set_cons_succ, List.cons_append, List.nil_append, List.length_cons, List.length_nil, Nat.reduceAdd, Nat.reduceSub, List.replicate_succ, List.replicate_zero, List.take_succ_cons, List.take_zero, Option.bind_some, Option.bind_none, Option.map_some, Option.map_none, Option.some.injEq, Option.isSome_some, exists_eq_left', exists_eq_left, exists_and_left, List.cons.injEq, and_assoc, Sl.val.injEq, PyData.bool.injEq, PyData.int.injEq, PyData.str.injEq, PyData.list.injEq, PyData.tuple.injEq, Opn.v.injEq, true_and, and_true, decide_eq_true_eq, reduceIte, Bool.false_eq_true, if_true, if_false, isStr, Option.any_some, okRes, reduceCtorEq, Zero.zero, Nat.succ_eq_add_one, Nat.reduceLeDiff, ite_true, ite_false, Bool.not_eq_true, decide_eq_false_iff_not]
  refine ⟨by rw [sizeLine_eq, List.length_map]; omega, fun i e => ∃ ls x y z, pre (okI lawW n r) (Txt.split t "; ") i ls ∧ e = [.val (.str t), .val (.int n), .val (.int r), .val (.list ((Txt.split t "; ").map .str)), .own (.lst (ls.map tupD)), x, y, z], ⟨[], .un, .un, .un, pre_0 _ _, rfl⟩, fun i d e hd hI => ?_, fun e hI => ?_⟩
  · obtain ⟨ls, x, y, z, hpre, rfl⟩ := hI
    obtain ⟨p, hp, rfl⟩ := enum_get hd
    have hpl2 : p.length ≤ 10000 := Nat.le_trans (split_mem bt_ne bt_all (List.mem_of_getElem? hp)) ht
    have hil := (List.getElem?_eq_some_iff.mp hp).1
    have bad : okI lawW n r i p = none → ∀ s, frz s = some (.list [.str "bad", .int (i : Nat)]) → okRes s → Q s [.val (.str t), .val (.int n), .val (.int r)] := fun hf s h1 h2 => by
      have hdue : due lawW t n r = .inl i := by unfold due; rw [pre_bad hpre hp hf]
      rw [hdue] at q
      exact q s h1 h2
    simp (config := { maxSteps := 3000000 }) only [sRaise, dCall, dCallT, argsOf, argOf, slotsOf_s, slotsOf_v, slotsOf_nil, List.nodup_cons, List.nodup_nil, List.not_mem_nil, not_false_eq_true, updE, sSeq, sNext, sIf, sRet, sDrop, sAsg, sPar, sPar3, sBreak, sCont, gN, gSet, gT, gsCons, gsNil, dC, dVar, dOp, dChain, dNeg, dIfE, dAnd, dOr, dNot, dTup, dLst, dFn, dIsi, dM1, dApp, dExt, dSl, dDict1, qNo, qSm, oV, oS, aNil, aCons, aRev, bV, bAnd, bOr, bNot, bYes, iAny, iRg1, iRg2, iEnD, cont, conts, frz, valsOf, fn1, fn2, slotL, setL, fAdd_i, fSub_i, fLt_i, fLe_i, fGt_i, fGe_i, fEq_i, fEq_s, fNe_i, fNe_s, fIs_n, fNot_n, fIx_l, fIx_t, fLen_l, fLen_t, fInt_i, fSl_l, fSl_t, fMax_i, fMin_i, fAbs_i, fTup_l, fTup_t, fList_l, fList_t, wipeD, List.getElem?_cons_zero, List.getElem?_cons_succ, List.getElem?_nil, List.set_cons_zero, List.set_cons_succ, List.cons_append, List.nil_append, List.length_cons, List.length_nil, Nat.reduceAdd, Nat.reduceSub, List.replicate_succ, List.replicate_zero, List.take_succ_cons, List.take_zero, Option.bind_some, Option.bind_none, Option.map_some, Option.map_none, Option.some.injEq, Option.isSome_some, exists_eq_left', exists_eq_left, exists_and_left, List.cons.injEq, and_assoc, Sl.val.injEq, PyData.bool.injEq, PyData.int.injEq, PyData.str.injEq, PyData.list.injEq, PyData.tuple.injEq, Opn.v.injEq, true_and, and_true, decide_eq_true_eq, reduceIte, Bool.false_eq_true, if_true, if_false, isStr, Option.any_some, okRes, reduceCtorEq, Zero.zero, Nat.succ_eq_add_one, Nat.reduceLeDiff, ite_true, ite_false, Bool.not_eq_true, decide_eq_false_iff_not]
    refine ⟨p, rfl, hpl2, ?_⟩
    cases hv : (partBy lawW p) with
    | none =>
      simp (config := { maxSteps := 3000000 }) only [sRaise, dCall, dCallT, argsOf, argOf, slotsOf_s, slotsOf_v, slotsOf_nil, List.nodup_cons, List.nodup_nil, List.not_mem_nil, not_false_eq_true, updE, sSeq, sNext, sIf, sRet, sDrop, sAsg, sPar, sPar3, sBreak, sCont, gN, gSet, gT, gsCons, gsNil, dC, dVar, dOp, dChain, dNeg, dIfE, dAnd, dOr, dNot, dTup, dLst, dFn, dIsi, dM1, dApp, dExt, dSl, dDict1, qNo, qSm, oV, oS, aNil, aCons, aRev, bV, bAnd, bOr, bNot, bYes, iAny, iRg1, iRg2, iEnD, cont, conts, frz, valsOf, fn1, fn2, slotL, setL, fAdd_i, fSub_i, fLt_i, fLe_i, fGt_i, fGe_i, fEq_i, fEq_s, fNe_i, fNe_s, fIs_n, fNot_n, fIx_l, fIx_t, fLen_l, fLen_t, fInt_i, fSl_l, fSl_t, fMax_i, fMin_i, fAbs_i, fTup_l, fTup_t, fList_l, fList_t, wipeD, List.getElem?_cons_zero, List.getElem?_cons_succ, List.getElem?_nil, List.set_cons_zero, List.set_cons_succ, List.cons_append, List.nil_append, List.length_cons, List.length_nil, Nat.reduceAdd, Nat.reduceSub, List.replicate_succ, List.replicate_zero, List.take_succ_cons, List.take_zero, Option.bind_some, Option.bind_none, Option.map_some, Option.map_none, Option.some.injEq, Option.isSome_some, exists_eq_left', exists_eq_left, exists_and_left, List.cons.injEq, and_assoc, Sl.val.injEq, PyData.bool.injEq, PyData.int.injEq, PyData.str.injEq, PyData.list.injEq, PyData.tuple.injEq, Opn.v.injEq, true_and, and_true, decide_eq_true_eq, reduceIte, Bool.false_eq_true, if_true, if_false, isStr, Option.any_some, okRes, reduceCtorEq, Zero.zero, Nat.succ_eq_add_one, Nat.reduceLeDiff, ite_true, ite_false, Bool.not_eq_true, decide_eq_false_iff_not, optT_none, isNo_n, k2]
      exact ⟨ioIn_of (by simp [IoF]), bad (by unfold okI; rw [hv]; rfl) _ rfl trivial⟩
    | some l =>
      simp (config := { maxSteps := 3000000 }) only [sRaise, dCall, dCallT, argsOf, argOf, slotsOf_s, slotsOf_v, slotsOf_nil, List.nodup_cons, List.nodup_nil, List.not_mem_nil, not_false_eq_true, updE, sSeq, sNext, sIf, sRet, sDrop, sAsg, sPar, sPar3, sBreak, sCont, gN, gSet, gT, gsCons, gsNil, dC, dVar, dOp, dChain, dNeg, dIfE, dAnd, dOr, dNot, dTup, dLst, dFn, dIsi, dM1, dApp, dExt, dSl, dDict1, qNo, qSm, oV, oS, aNil, aCons, aRev, bV, bAnd, bOr, bNot, bYes, iAny, iRg1, iRg2, iEnD, cont, conts, frz, valsOf, fn1, fn2, slotL, setL, fAdd_i, fSub_i, fLt_i, fLe_i, fGt_i, fGe_i, fEq_i, fEq_s, fNe_i, fNe_s, fIs_n, fNot_n, fIx_l, fIx_t, fLen_l, fLen_t, fInt_i, fSl_l, fSl_t, fMax_i, fMin_i, fAbs_i, fTup_l, fTup_t, fList_l, fList_t, wipeD, List.getElem?_cons_zero, List.getElem?_cons_succ, List.getElem?_nil, List.set_cons_zero, List.set_cons_succ, List.cons_append, List.nil_append, List.length_cons, List.length_nil, Nat.reduceAdd, Nat.reduceSub, List.replicate_succ, List.replicate_zero, List.take_succ_cons, List.take_zero, Option.bind_some, Option.bind_none, Option.map_some, Option.map_none, Option.some.injEq, Option.isSome_some, exists_eq_left', exists_eq_left, exists_and_left, List.cons.injEq, and_assoc, Sl.val.injEq, PyData.bool.injEq, PyData.int.injEq, PyData.str.injEq, PyData.list.injEq, PyData.tuple.injEq, Opn.v.injEq, true_and, and_true, decide_eq_true_eq, reduceIte, Bool.false_eq_true, if_true, if_false, isStr, Option.any_some, okRes, reduceCtorEq, Zero.zero, Nat.succ_eq_add_one, Nat.reduceLeDiff, ite_true, ite_false, Bool.not_eq_true, decide_eq_false_iff_not, optT_some, isNo_t, iDs_len, k2]
      refine ite_intro (fun h2 => ?_) (fun h2 => ?_)
      · exact ⟨ioIn_of (by simp [IoF]), bad (by unfold okI; rw [hv, Option.bind_some, if_neg (fun z => by omega)]) _ rfl trivial⟩
      · have app : okI lawW n r i p = some l → (List.map tupD ls).length < 16777216 ∧ ∃ ls_1, pre (okI lawW n r) (Txt.split t "; ") (i + 1) ls_1 ∧ Sl.own (MO.lst (List.map tupD ls ++ [PyData.tuple (iDs l)])) = Sl.own (MO.lst (List.map tupD ls_1)) ∧ ∃ x, Sl.val (PyData.tuple (iDs l)) = x := fun hfs =>
          ⟨by rw [List.length_map, hpre.1]; omega, ls ++ [l], pre_ok hpre hp hfs, by simp [tupD], _, rfl⟩
        have neg : ¬ (if i = 0 then (l.length : Int) = n else l.length ≤ 40) → okI lawW n r i p = none := fun z => by unfold okI; rw [hv, Option.bind_some, if_neg (fun y => z y.2)]
        have pos : (if i = 0 then (l.length : Int) = n else l.length ≤ 40) → okI lawW n r i p = some l := fun z => by unfold okI; rw [hv, Option.bind_some, if_pos ⟨by omega, z⟩]
        refine ite_intro (fun h3 => ?_) (fun h3 => ?_)
        · have h4 : ¬ (l.length : Int) = n := by simpa using h3
          refine ite_intro (fun h5 => ?_) (fun h5 => ?_)
          · exact ⟨ioIn_of (by simp [IoF]), bad (neg (by rw [if_pos (by omega)]; exact h4)) _ rfl trivial⟩
          · refine ite_intro (fun h6 => ?_) (fun h6 => ?_)
            · exact ⟨ioIn_of (by simp [IoF]), bad (neg (by rw [if_neg (by omega)]; omega)) _ rfl trivial⟩
            · exact app (pos (by rw [if_neg (by omega)]; omega))
        · have h4 : (l.length : Int) = n := by simpa using h3
          refine ite_intro (fun h6 => ?_) (fun h6 => ?_)
          · exact ⟨ioIn_of (by simp [IoF]), bad (neg (by split <;> omega)) _ rfl trivial⟩
          · exact app (pos (by split <;> omega))
  · obtain ⟨ls, x, y, z, hpre, rfl⟩ := hI
    have hel : (enumD ((Txt.split t "; ").map PyData.str)).length = (Txt.split t "; ").length := by simp [enumD]
    rw [hel] at hpre
    have hend := pre_end hpre
    simp (config := { maxSteps := 3000000 }) only [sRaise, dCall, dCallT, argsOf, argOf, slotsOf_s, slotsOf_v, slotsOf_nil, List.nodup_cons, List.nodup_nil, List.not_mem_nil, not_false_eq_true, updE, sSeq, sNext, sIf, sRet, sDrop, sAsg, sPar, sPar3, sBreak, sCont, gN, gSet, gT, gsCons, gsNil, dC, dVar, dOp, dChain, dNeg, dIfE, dAnd, dOr, dNot, dTup, dLst, dFn, dIsi, dM1, dApp, dExt, dSl, dDict1, qNo, qSm, oV, oS, aNil, aCons, aRev, bV, bAnd, bOr, bNot, bYes, iAny, iRg1, iRg2, iEnD, cont, conts, frz, valsOf, fn1, fn2, slotL, setL, fAdd_i, fSub_i, fLt_i, fLe_i, fGt_i, fGe_i, fEq_i, fEq_s, fNe_i, fNe_s, fIs_n, fNot_n, fIx_l, fIx_t, fLen_l, fLen_t, fInt_i, fSl_l, fSl_t, fMax_i, fMin_i, fAbs_i, fTup_l, fTup_t, fList_l, fList_t, wipeD, List.getElem?_cons_zero, List.getElem?_cons_succ, List.getElem?_nil, List.set_cons_zero, List.set_cons_succ, List.cons_append, List.nil_append, List.length_cons, List.length_nil, Nat.reduceAdd, Nat.reduceSub, List.replicate_succ, List.replicate_zero, List.take_succ_cons, List.take_zero, Option.bind_some, Option.bind_none, Option.map_some, Option.map_none, Option.some.injEq, Option.isSome_some, exists_eq_left', exists_eq_left, exists_and_left, List.cons.injEq, and_assoc, Sl.val.injEq, PyData.bool.injEq, PyData.int.injEq, PyData.str.injEq, PyData.list.injEq, PyData.tuple.injEq, Opn.v.injEq, true_and, and_true, decide_eq_true_eq, reduceIte, Bool.false_eq_true, if_true, if_false, isStr, Option.any_some, okRes, reduceCtorEq, Zero.zero, Nat.succ_eq_add_one, Nat.reduceLeDiff, ite_true, ite_false, Bool.not_eq_true, decide_eq_false_iff_not, k2]
    have hpn := hpre.1
    refine ite_intro (fun h1 => ?_) (fun h1 => ?_)
    · have h2 : (ls.length : Int) = r + 1 := by rw [List.length_map] at h1; omega
      have h0 : 0 < ls.length := by omega
      have hdue : due lawW t n r = .inr ls := by unfold due; rw [hend]; exact if_pos h2
      rw [hdue] at q
      simp (config := { maxSteps := 3000000 }) only [sRaise, dCall, dCallT, argsOf, argOf, slotsOf_s, slotsOf_v, slotsOf_nil, List.nodup_cons, List.nodup_nil, List.not_mem_nil, not_false_eq_true, updE, sSeq, sNext, sIf, sRet, sDrop, sAsg, sPar, sPar3, sBreak, sCont, gN, gSet, gT, gsCons, gsNil, dC, dVar, dOp, dChain, dNeg, dIfE, dAnd, dOr, dNot, dTup, dLst, dFn, dIsi, dM1, dApp, dExt, dSl, dDict1, qNo, qSm, oV, oS, aNil, aCons, aRev, bV, bAnd, bOr, bNot, bYes, iAny, iRg1, iRg2, iEnD, cont, conts, frz, valsOf, fn1, fn2, slotL, setL, fAdd_i, fSub_i, fLt_i, fLe_i, fGt_i, fGe_i, fEq_i, fEq_s, fNe_i, fNe_s, fIs_n, fNot_n, fIx_l, fIx_t, fLen_l, fLen_t, fInt_i, fSl_l, fSl_t, fMax_i, fMin_i, fAbs_i, fTup_l, fTup_t, fList_l, fList_t, wipeD, List.getElem?_cons_zero, List.getElem?_cons_succ, List.getElem?_nil, List.set_cons_zero, List.set_cons_succ, List.cons_append, List.nil_append, List.length_cons, List.length_nil, Nat.reduceAdd, Nat.reduceSub, List.replicate_succ, List.replicate_zero, List.take_succ_cons, List.take_zero, Option.bind_some, Option.bind_none, Option.map_some, Option.map_none, Option.some.injEq, Option.isSome_some, exists_eq_left', exists_eq_left, exists_and_left, List.cons.injEq, and_assoc, Sl.val.injEq, PyData.bool.injEq, PyData.int.injEq, PyData.str.injEq, PyData.list.injEq, PyData.tuple.injEq, Opn.v.injEq, true_and, and_true, decide_eq_true_eq, reduceIte, Bool.false_eq_true, if_true, if_false, isStr, Option.any_some, okRes, reduceCtorEq, Zero.zero, Nat.succ_eq_add_one, Nat.reduceLeDiff, ite_true, ite_false, Bool.not_eq_true, decide_eq_false_iff_not, ls_at h0, ls_cut h0]
      exact ⟨ioIn_of (by simp [IoF]), q _ rfl trivial⟩
    · have h2 : ¬ (ls.length : Int) = r + 1 := by rw [List.length_map] at h1; omega
      have hdue : due lawW t n r = .inl ls.length := by unfold due; rw [hend]; exact if_neg h2
      rw [hdue] at q
      rw [List.length_map, ← hpn]
      exact ⟨ioIn_of (by simp [IoF]), q _ rfl trivial⟩
theorem data__law_heard {C : Addr} {as : List Sl} {Q : Sl → List Sl → Prop} {X : XD} (h : sp__law_heard as Q X) : sd__law_heard C { nx := fun e => IoIn as e ∧ Q (.val .none) (e.take 3), rt := fun s e => okRes s ∧ IoIn as e ∧ Q s (e.take 3), ex := fun C f d e => IoIn as e ∧ X C f d (e.take 3) } (as ++ List.replicate (5 - as.length) .un) := by
  obtain ⟨d, n, r, rfl, h⟩ := h
  unfold sd__law_heard sTry sTell
  simp (config := { maxSteps := 3000000 }) only [sRaise, dCall, dCallT, argsOf, argOf, slotsOf_s, slotsOf_v, slotsOf_nil, List.nodup_cons, List.nodup_nil, List.not_mem_nil, not_false_eq_true, updE, sSeq, sNext, sIf, sRet, sDrop, sAsg, sPar, sPar3, sBreak, sCont, gN, gSet, gT, gsCons, gsNil, dC, dVar, dOp, dChain, dNeg, dIfE, dAnd, dOr, dNot, dTup, dLst, dFn, dIsi, dM1, dApp, dExt, dSl, dDict1, qNo, qSm, oV, oS, aNil, aCons, aRev, bV, bAnd, bOr, bNot, bYes, iAny, iRg1, iRg2, iEnD, cont, conts, frz, valsOf, fn1, fn2, slotL, setL, fAdd_i, fSub_i, fLt_i, fLe_i, fGt_i, fGe_i, fEq_i, fEq_s, fNe_i, fNe_s, fIs_n, fNot_n, fIx_l, fIx_t, fLen_l, fLen_t, fInt_i, fSl_l, fSl_t, fMax_i, fMin_i, fAbs_i, fTup_l, fTup_t, fList_l, fList_t, wipeD, List.getElem?_cons_zero, List.getElem?_cons_succ, List.getElem?_nil, List.set_cons_zero, List.set_cons_succ, List.cons_append, List.nil_append, List.length_cons, List.length_nil, Nat.reduceAdd, Nat.reduceSub, List.replicate_succ, List.replicate_zero, List.take_succ_cons, List.take_zero, Option.bind_some, Option.bind_none, Option.map_some, Option.map_none, Option.some.injEq, Option.isSome_some, exists_eq_left', exists_eq_left, exists_and_left, List.cons.injEq, and_assoc, Sl.val.injEq, PyData.bool.injEq, PyData.int.injEq, PyData.str.injEq, PyData.list.injEq, PyData.tuple.injEq, Opn.v.injEq, true_and, and_true, decide_eq_true_eq, reduceIte, Bool.false_eq_true, if_true, if_false, isStr, Option.any_some, okRes, reduceCtorEq, Zero.zero, Nat.succ_eq_add_one, Nat.reduceLeDiff, ite_true, ite_false, Bool.not_eq_true, decide_eq_false_iff_not]
  refine ⟨d, n, r, rfl, ?_⟩
  rcases h with ⟨t, rfl, ht, hn, hr, q⟩ | ⟨hs, q⟩
  · refine .inl ⟨t, rfl, ht, hn, hr, fun i hi => ?_, fun ls hls => ?_⟩
    · rw [hi] at q
      simp (config := { maxSteps := 3000000 }) only [sRaise, dCall, dCallT, argsOf, argOf, slotsOf_s, slotsOf_v, slotsOf_nil, List.nodup_cons, List.nodup_nil, List.not_mem_nil, not_false_eq_true, updE, sSeq, sNext, sIf, sRet, sDrop, sAsg, sPar, sPar3, sBreak, sCont, gN, gSet, gT, gsCons, gsNil, dC, dVar, dOp, dChain, dNeg, dIfE, dAnd, dOr, dNot, dTup, dLst, dFn, dIsi, dM1, dApp, dExt, dSl, dDict1, qNo, qSm, oV, oS, aNil, aCons, aRev, bV, bAnd, bOr, bNot, bYes, iAny, iRg1, iRg2, iEnD, cont, conts, frz, valsOf, fn1, fn2, slotL, setL, fAdd_i, fSub_i, fLt_i, fLe_i, fGt_i, fGe_i, fEq_i, fEq_s, fNe_i, fNe_s, fIs_n, fNot_n, fIx_l, fIx_t, fLen_l, fLen_t, fInt_i, fSl_l, fSl_t, fMax_i, fMin_i, fAbs_i, fTup_l, fTup_t, fList_l, fList_t, wipeD, List.getElem?_cons_zero, List.getElem?_cons_succ, List.getElem?_nil, List.set_cons_zero, List.set_cons_succ, List.cons_append, List.nil_append, List.length_cons, List.length_nil, Nat.reduceAdd, Nat.reduceSub, List.replicate_succ, List.replicate_zero, List.take_succ_cons, List.take_zero, Option.bind_some, Option.bind_none, Option.map_some, Option.map_none, Option.some.injEq, Option.isSome_some, exists_eq_left', exists_eq_left, exists_and_left, List.cons.injEq, and_assoc, Sl.val.injEq, PyData.bool.injEq, PyData.int.injEq, PyData.str.injEq, PyData.list.injEq, PyData.tuple.injEq, Opn.v.injEq, true_and, and_true, decide_eq_true_eq, reduceIte, Bool.false_eq_true, if_true, if_false, isStr, Option.any_some, okRes, reduceCtorEq, Zero.zero, Nat.succ_eq_add_one, Nat.reduceLeDiff, ite_true, ite_false, Bool.not_eq_true, decide_eq_false_iff_not]
      exact ⟨by decide, ioIn_of (by simp [IoF]), q⟩
    · rw [hls] at q
      simp (config := { maxSteps := 3000000 }) only [sRaise, dCall, dCallT, argsOf, argOf, slotsOf_s, slotsOf_v, slotsOf_nil, List.nodup_cons, List.nodup_nil, List.not_mem_nil, not_false_eq_true, updE, sSeq, sNext, sIf, sRet, sDrop, sAsg, sPar, sPar3, sBreak, sCont, gN, gSet, gT, gsCons, gsNil, dC, dVar, dOp, dChain, dNeg, dIfE, dAnd, dOr, dNot, dTup, dLst, dFn, dIsi, dM1, dApp, dExt, dSl, dDict1, qNo, qSm, oV, oS, aNil, aCons, aRev, bV, bAnd, bOr, bNot, bYes, iAny, iRg1, iRg2, iEnD, cont, conts, frz, valsOf, fn1, fn2, slotL, setL, fAdd_i, fSub_i, fLt_i, fLe_i, fGt_i, fGe_i, fEq_i, fEq_s, fNe_i, fNe_s, fIs_n, fNot_n, fIx_l, fIx_t, fLen_l, fLen_t, fInt_i, fSl_l, fSl_t, fMax_i, fMin_i, fAbs_i, fTup_l, fTup_t, fList_l, fList_t, wipeD, List.getElem?_cons_zero, List.getElem?_cons_succ, List.getElem?_nil, List.set_cons_zero, List.set_cons_succ, List.cons_append, List.nil_append, List.length_cons, List.length_nil, Nat.reduceAdd, Nat.reduceSub, List.replicate_succ, List.replicate_zero, List.take_succ_cons, List.take_zero, Option.bind_some, Option.bind_none, Option.map_some, Option.map_none, Option.some.injEq, Option.isSome_some, exists_eq_left', exists_eq_left, exists_and_left, List.cons.injEq, and_assoc, Sl.val.injEq, PyData.bool.injEq, PyData.int.injEq, PyData.str.injEq, PyData.list.injEq, PyData.tuple.injEq, Opn.v.injEq, true_and, and_true, decide_eq_true_eq, reduceIte, Bool.false_eq_true, if_true, if_false, isStr, Option.any_some, okRes, reduceCtorEq, Zero.zero, Nat.succ_eq_add_one, Nat.reduceLeDiff, ite_true, ite_false, Bool.not_eq_true, decide_eq_false_iff_not]
      exact ⟨ioIn_of (by simp [IoF]), q⟩
  · refine .inr ⟨hs, ?_⟩
    simp (config := { maxSteps := 3000000 }) only [sRaise, dCall, dCallT, argsOf, argOf, slotsOf_s, slotsOf_v, slotsOf_nil, List.nodup_cons, List.nodup_nil, List.not_mem_nil, not_false_eq_true, updE, sSeq, sNext, sIf, sRet, sDrop, sAsg, sPar, sPar3, sBreak, sCont, gN, gSet, gT, gsCons, gsNil, dC, dVar, dOp, dChain, dNeg, dIfE, dAnd, dOr, dNot, dTup, dLst, dFn, dIsi, dM1, dApp, dExt, dSl, dDict1, qNo, qSm, oV, oS, aNil, aCons, aRev, bV, bAnd, bOr, bNot, bYes, iAny, iRg1, iRg2, iEnD, cont, conts, frz, valsOf, fn1, fn2, slotL, setL, fAdd_i, fSub_i, fLt_i, fLe_i, fGt_i, fGe_i, fEq_i, fEq_s, fNe_i, fNe_s, fIs_n, fNot_n, fIx_l, fIx_t, fLen_l, fLen_t, fInt_i, fSl_l, fSl_t, fMax_i, fMin_i, fAbs_i, fTup_l, fTup_t, fList_l, fList_t, wipeD, List.getElem?_cons_zero, List.getElem?_cons_succ, List.getElem?_nil, List.set_cons_zero, List.set_cons_succ, List.cons_append, List.nil_append, List.length_cons, List.length_nil, Nat.reduceAdd, Nat.reduceSub, List.replicate_succ, List.replicate_zero, List.take_succ_cons, List.take_zero, Option.bind_some, Option.bind_none, Option.map_some, Option.map_none, Option.some.injEq, Option.isSome_some, exists_eq_left', exists_eq_left, exists_and_left, List.cons.injEq, and_assoc, Sl.val.injEq, PyData.bool.injEq, PyData.int.injEq, PyData.str.injEq, PyData.list.injEq, PyData.tuple.injEq, Opn.v.injEq, true_and, and_true, decide_eq_true_eq, reduceIte, Bool.false_eq_true, if_true, if_false, isStr, Option.any_some, okRes, reduceCtorEq, Zero.zero, Nat.succ_eq_add_one, Nat.reduceLeDiff, ite_true, ite_false, Bool.not_eq_true, decide_eq_false_iff_not]
    exact ⟨by decide, ioIn_of (by simp [IoF]), q⟩
end K35
namespace K35
open PySem L2 PySem.Spec PyProof.Rows PD PySem.NumText TL
def strI : PyData → PyData
  | .int n => .str (toString n)
  | d => d
theorem strI_iDs (ns : List Int) : (iDs ns).map strI = (ns.map numT).map .str := by simp [iDs, strI, numT, List.map_map, Function.comp_def]
theorem data__law_written {as : List Sl} {Q : Sl → List Sl → Prop} {X : XD} (h : sp__law_written as Q X) : sd__law_written { nx := fun e => IoIn as e ∧ Q (.val .none) (e.take 1), rt := fun s e => okRes s ∧ IoIn as e ∧ Q s (e.take 1), ex := fun C f d e => IoIn as e ∧ X C f d (e.take 1) } (as ++ List.replicate (4 - as.length) .un) := by
  obtain ⟨ns, rs, rfl, hg, q⟩ := h
  unfold sd__law_written inD
  have hr3 : rs.length ≤ 3 := hg.2.2.1
  have hrows : ∀ x ∈ PyData.tuple (iDs ns) :: rs.map (fun r => PyData.tuple (iDs r)), ∃ r, x = .tuple (iDs r) ∧ small r := fun x hx => by
    rcases List.mem_cons.mp hx
          with rfl | hx
    · exact ⟨ns, rfl, hg.2.1⟩
    · obtain ⟨r, hr, rfl⟩ := List.mem_map.mp hx
      exact ⟨r, rfl, hg.2.2.2 r hr⟩
  have fa := fAdd_l (ds := [PyData.tuple (iDs ns)]) (es := rs.map fun r => PyData.tuple (iDs r)) (by simp; omega)
  have wl : walkOf (.list (PyData.tuple (iDs ns) :: rs.map fun r => PyData.tuple (iDs r))) = some (PyData.tuple (iDs ns) :: rs.map fun r => PyData.tuple (iDs r)) := walk_l (by simp; omega)
  simp (config := { maxSteps := 3000000 }) only [sRaise, dCall, dCallT, argsOf, argOf, slotsOf_s, slotsOf_v, slotsOf_nil, List.nodup_cons, List.nodup_nil, List.not_mem_nil, not_false_eq_true, updE, sSeq, sNext, sIf, sRet, sDrop, sAsg, sPar, sPar3, sBreak, sCont, gN, gSet, gT, gsCons, gsNil, dC, dVar, dOp, dChain, dNeg, dIfE, dAnd, dOr, dNot, dTup, dLst, dFn, dIsi, dM1, dApp, dExt, dSl, dDict1, qNo, qSm, oV, oS, aNil, aCons, aRev, bV, bAnd, bOr, bNot, bYes, iAny, iRg1, iRg2, iEnD, cont, conts, frz, valsOf, fn1, fn2, slotL, setL, fAdd_i, fSub_i, fLt_i, fLe_i, fGt_i, fGe_i, fEq_i, fEq_s, fNe_i, fNe_s, fIs_n, fNot_n, fIx_l, fIx_t, fLen_l, fLen_t, fInt_i, fSl_l, fSl_t, fMax_i, fMin_i, fAbs_i, fTup_l, fTup_t, fList_l, fList_t, wipeD, List.getElem?_cons_zero, List.getElem?_cons_succ, List.getElem?_nil, List.set_cons_zero, List.set_cons_succ, List.cons_append, List.nil_append, List.length_cons, List.length_nil, Nat.reduceAdd, Nat.reduceSub, List.replicate_succ, List.replicate_zero, List.take_succ_cons, List.take_zero, Option.bind_some, Option.bind_none, Option.map_some, Option.map_none, Option.some.injEq, Option.isSome_some, exists_eq_left', exists_eq_left, exists_and_left, List.cons.injEq, and_assoc, Sl.val.injEq, PyData.bool.injEq, PyData.int.injEq, PyData.str.injEq, PyData.list.injEq, PyData.tuple.injEq, Opn.v.injEq, true_and, and_true, decide_eq_true_eq, reduceIte, Bool.false_eq_true, if_true, if_false, isStr, Option.any_some, okRes, reduceCtorEq, Zero.zero, Nat.succ_eq_add_one, Nat.reduceLeDiff, ite_true, ite_false, Bool.not_eq_true, decide_eq_false_iff_not, x0, x1]
  refine lc_gen (PyData.tuple (iDs ns) :: rs.map fun r => PyData.tuple (iDs r)) rowD [.val (.tuple [.tuple (iDs ns), .tuple (rs.map fun r => .tuple (iDs r))]), .un, .un, .un] (fun R hR => ?_) (fun x hx R hR => ?_) ?_
  · simp (config := { maxSteps := 3000000 }) only [sRaise, dCall, dCallT, argsOf, argOf, slotsOf_s, slotsOf_v, slotsOf_nil, List.nodup_cons, List.nodup_nil, List.not_mem_nil, not_false_eq_true, updE, sSeq, sNext, sIf, sRet, sDrop, sAsg, sPar, sPar3, sBreak, sCont, gN, gSet, gT, gsCons, gsNil, dC, dVar, dOp, dChain, dNeg, dIfE, dAnd, dOr, dNot, dTup, dLst, dFn, dIsi, dM1, dApp, dExt, dSl, dDict1, qNo, qSm, oV, oS, aNil, aCons, aRev, bV, bAnd, bOr, bNot, bYes, iAny, iRg1, iRg2, iEnD, cont, conts, frz, valsOf, fn1, fn2, slotL, setL, fAdd_i, fSub_i, fLt_i, fLe_i, fGt_i, fGe_i, fEq_i, fEq_s, fNe_i, fNe_s, fIs_n, fNot_n, fIx_l, fIx_t, fLen_l, fLen_t, fInt_i, fSl_l, fSl_t, fMax_i, fMin_i, fAbs_i, fTup_l, fTup_t, fList_l, fList_t, wipeD, List.getElem?_cons_zero, List.getElem?_cons_succ, List.getElem?_nil, List.set_cons_zero, List.set_cons_succ, List.cons_append, List.nil_append, List.length_cons, List.length_nil, Nat.reduceAdd, Nat.reduceSub, List.replicate_succ, List.replicate_zero, List.take_succ_cons, List.take_zero, Option.bind_some, Option.bind_none, Option.map_some, Option.map_none, Option.some.injEq, Option.isSome_some, exists_eq_left', exists_eq_left, exists_and_left, List.cons.injEq, and_assoc, Sl.val.injEq, PyData.bool.injEq, PyData.int.injEq, PyData.str.injEq, PyData.list.injEq, PyData.tuple.injEq, Opn.v.injEq, true_and, and_true, decide_eq_true_eq, reduceIte, Bool.false_eq_true, if_true, if_false, isStr, Option.any_some, okRes, reduceCtorEq, Zero.zero, Nat.succ_eq_add_one, Nat.reduceLeDiff, ite_true, ite_false, Bool.not_eq_true, decide_eq_false_iff_not, x0, x1, k1, fa, wl]
    exact hR
  · obtain ⟨r, rfl, hs⟩ := hrows x hx
    simp (config := { maxSteps := 3000000 }) only [sRaise, dCall, dCallT, argsOf, argOf, slotsOf_s, slotsOf_v, slotsOf_nil, List.nodup_cons, List.nodup_nil, List.not_mem_nil, not_false_eq_true, updE, sSeq, sNext, sIf, sRet, sDrop, sAsg, sPar, sPar3, sBreak, sCont, gN, gSet, gT, gsCons, gsNil, dC, dVar, dOp, dChain, dNeg, dIfE, dAnd, dOr, dNot, dTup, dLst, dFn, dIsi, dM1, dApp, dExt, dSl, dDict1, qNo, qSm, oV, oS, aNil, aCons, aRev, bV, bAnd, bOr, bNot, bYes, iAny, iRg1, iRg2, iEnD, cont, conts, frz, valsOf, fn1, fn2, slotL, setL, fAdd_i, fSub_i, fLt_i, fLe_i, fGt_i, fGe_i, fEq_i, fEq_s, fNe_i, fNe_s, fIs_n, fNot_n, fIx_l, fIx_t, fLen_l, fLen_t, fInt_i, fSl_l, fSl_t, fMax_i, fMin_i, fAbs_i, fTup_l, fTup_t, fList_l, fList_t, wipeD, List.getElem?_cons_zero, List.getElem?_cons_succ, List.getElem?_nil, List.set_cons_zero, List.set_cons_succ, List.cons_append, List.nil_append, List.length_cons, List.length_nil, Nat.reduceAdd, Nat.reduceSub, List.replicate_succ, List.replicate_zero, List.take_succ_cons, List.take_zero, Option.bind_some, Option.bind_none, Option.map_some, Option.map_none, Option.some.injEq, Option.isSome_some, exists_eq_left', exists_eq_left, exists_and_left, List.cons.injEq, and_assoc, Sl.val.injEq, PyData.bool.injEq, PyData.int.injEq, PyData.str.injEq, PyData.list.injEq, PyData.tuple.injEq, Opn.v.injEq, true_and, and_true, decide_eq_true_eq, reduceIte, Bool.false_eq_true, if_true, if_false, isStr, Option.any_some, okRes, reduceCtorEq, Zero.zero, Nat.succ_eq_add_one, Nat.reduceLeDiff, ite_true, ite_false, Bool.not_eq_true, decide_eq_false_iff_not, iDs_len]
    refine ite_intro (fun h0 => ?_) (fun h0 => ?_)
    · refine lc_gen (iDs r) strI [.val (.tuple [.tuple (iDs ns), .tuple (rs.map fun r => .tuple (iDs r))]), .un, .val (.tuple (iDs r)), .un] (fun R hR => ?_) (fun y hy R hR => ?_) ?_
      · simp (config := { maxSteps := 3000000 }) only [sRaise, dCall, dCallT, argsOf, argOf, slotsOf_s, slotsOf_v, slotsOf_nil, List.nodup_cons, List.nodup_nil, List.not_mem_nil, not_false_eq_true, updE, sSeq, sNext, sIf, sRet, sDrop, sAsg, sPar, sPar3, sBreak, sCont, gN, gSet, gT, gsCons, gsNil, dC, dVar, dOp, dChain, dNeg, dIfE, dAnd, dOr, dNot, dTup, dLst, dFn, dIsi, dM1, dApp, dExt, dSl, dDict1, qNo, qSm, oV, oS, aNil, aCons, aRev, bV, bAnd, bOr, bNot, bYes, iAny, iRg1, iRg2, iEnD, cont, conts, frz, valsOf, fn1, fn2, slotL, setL, fAdd_i, fSub_i, fLt_i, fLe_i, fGt_i, fGe_i, fEq_i, fEq_s, fNe_i, fNe_s, fIs_n, fNot_n, fIx_l, fIx_t, fLen_l, fLen_t, fInt_i, fSl_l, fSl_t, fMax_i, fMin_i, fAbs_i, fTup_l, fTup_t, fList_l, fList_t, wipeD, List.getElem?_cons_zero, List.getElem?_cons_succ, List.getElem?_nil, List.set_cons_zero, List.set_cons_succ, List.cons_append, List.nil_append, List.length_cons, List.length_nil, Nat.reduceAdd, Nat.reduceSub, List.replicate_succ, List.replicate_zero, List.take_succ_cons, List.take_zero, Option.bind_some, Option.bind_none, Option.map_some, Option.map_none, Option.some.injEq, Option.isSome_some, exists_eq_left', exists_eq_left, exists_and_left, List.cons.injEq, and_assoc, Sl.val.injEq, PyData.bool.injEq, PyData.int.injEq, PyData.str.injEq, PyData.list.injEq, PyData.tuple.injEq, Opn.v.injEq, true_and, and_true, decide_eq_true_eq, reduceIte, Bool.false_eq_true, if_true, if_false, isStr, Option.any_some, okRes, reduceCtorEq, Zero.zero, Nat.succ_eq_add_one, Nat.reduceLeDiff, ite_true, ite_false, Bool.not_eq_true, decide_eq_false_iff_not, walk_t (iDs_small hs)]
        exact hR
      · simp only [iDs, List.mem_map] at hy
        obtain ⟨n, hn, rfl⟩ := hy
        simp (config := { maxSteps := 3000000 }) only [sRaise, dCall, dCallT, argsOf, argOf, slotsOf_s, slotsOf_v, slotsOf_nil, List.nodup_cons, List.nodup_nil, List.not_mem_nil, not_false_eq_true, updE, sSeq, sNext, sIf, sRet, sDrop, sAsg, sPar, sPar3, sBreak, sCont, gN, gSet, gT, gsCons, gsNil, dC, dVar, dOp, dChain, dNeg, dIfE, dAnd, dOr, dNot, dTup, dLst, dFn, dIsi, dM1, dApp, dExt, dSl, dDict1, qNo, qSm, oV, oS, aNil, aCons, aRev, bV, bAnd, bOr, bNot, bYes, iAny, iRg1, iRg2, iEnD, cont, conts, frz, valsOf, fn1, fn2, slotL, setL, fAdd_i, fSub_i, fLt_i, fLe_i, fGt_i, fGe_i, fEq_i, fEq_s, fNe_i, fNe_s, fIs_n, fNot_n, fIx_l, fIx_t, fLen_l, fLen_t, fInt_i, fSl_l, fSl_t, fMax_i, fMin_i, fAbs_i, fTup_l, fTup_t, fList_l, fList_t, wipeD, List.getElem?_cons_zero, List.getElem?_cons_succ, List.getElem?_nil, List.set_cons_zero, List.set_cons_succ, List.cons_append, List.nil_append, List.length_cons, List.length_nil, Nat.reduceAdd, Nat.reduceSub, List.replicate_succ, List.replicate_zero, List.take_succ_cons, List.take_zero, Option.bind_some, Option.bind_none, Option.map_some, Option.map_none, Option.some.injEq, Option.isSome_some, exists_eq_left', exists_eq_left, exists_and_left, List.cons.injEq, and_assoc, Sl.val.injEq, PyData.bool.injEq, PyData.int.injEq, PyData.str.injEq, PyData.list.injEq, PyData.tuple.injEq, Opn.v.injEq, true_and, and_true, decide_eq_true_eq, reduceIte, Bool.false_eq_true, if_true, if_false, isStr, Option.any_some, okRes, reduceCtorEq, Zero.zero, Nat.succ_eq_add_one, Nat.reduceLeDiff, ite_true, ite_false, Bool.not_eq_true, decide_eq_false_iff_not, fStr_i (log_small (hs.2 n hn))]
        exact hR _ rfl
      · rw [strI_iDs]
        simp (config := { maxSteps := 3000000 }) only [sRaise, dCall, dCallT, argsOf, argOf, slotsOf_s, slotsOf_v, slotsOf_nil, List.nodup_cons, List.nodup_nil, List.not_mem_nil, not_false_eq_true, updE, sSeq, sNext, sIf, sRet, sDrop, sAsg, sPar, sPar3, sBreak, sCont, gN, gSet, gT, gsCons, gsNil, dC, dVar, dOp, dChain, dNeg, dIfE, dAnd, dOr, dNot, dTup, dLst, dFn, dIsi, dM1, dApp, dExt, dSl, dDict1, qNo, qSm, oV, oS, aNil, aCons, aRev, bV, bAnd, bOr, bNot, bYes, iAny, iRg1, iRg2, iEnD, cont, conts, frz, valsOf, fn1, fn2, slotL, setL, fAdd_i, fSub_i, fLt_i, fLe_i, fGt_i, fGe_i, fEq_i, fEq_s, fNe_i, fNe_s, fIs_n, fNot_n, fIx_l, fIx_t, fLen_l, fLen_t, fInt_i, fSl_l, fSl_t, fMax_i, fMin_i, fAbs_i, fTup_l, fTup_t, fList_l, fList_t, wipeD, List.getElem?_cons_zero, List.getElem?_cons_succ, List.getElem?_nil, List.set_cons_zero, List.set_cons_succ, List.cons_append, List.nil_append, List.length_cons, List.length_nil, Nat.reduceAdd, Nat.reduceSub, List.replicate_succ, List.replicate_zero, List.take_succ_cons, List.take_zero, Option.bind_some, Option.bind_none, Option.map_some, Option.map_none, Option.some.injEq, Option.isSome_some, exists_eq_left', exists_eq_left, exists_and_left, List.cons.injEq, and_assoc, Sl.val.injEq, PyData.bool.injEq, PyData.int.injEq, PyData.str.injEq, PyData.list.injEq, PyData.tuple.injEq, Opn.v.injEq, true_and, and_true, decide_eq_true_eq, reduceIte, Bool.false_eq_true, if_true, if_false, isStr, Option.any_some, okRes, reduceCtorEq, Zero.zero, Nat.succ_eq_add_one, Nat.reduceLeDiff, ite_true, ite_false, Bool.not_eq_true, decide_eq_false_iff_not, fJoin_l (Nat.le_trans (rowT_fits hs) (by decide))]
        refine hR _ ?_
        rw [rowD_t]
        unfold rowT
        rw [if_pos (by omega)]
        rfl
    · refine hR _ ?_
      rw [rowD_t]
      unfold rowT
      rw [if_neg (by omega)]
      rfl
  · have e : (PyData.tuple (iDs ns) :: rs.map fun r => PyData.tuple (iDs r)).map rowD = (rowT ns :: rs.map rowT).map .str := by
      simp only [List.map_map, List.map_cons, rowD_t]
      congr 1
      exact List.map_congr_left fun r _ => by simp only [Function.comp_def]; exact rowD_t r
    rw [e]
    simp (config := { maxSteps := 3000000 }) only [sRaise, dCall, dCallT, argsOf, argOf, slotsOf_s, slotsOf_v, slotsOf_nil, List.nodup_cons, List.nodup_nil, List.not_mem_nil, not_false_eq_true, updE, sSeq, sNext, sIf, sRet, sDrop, sAsg, sPar, sPar3, sBreak, sCont, gN, gSet, gT, gsCons, gsNil, dC, dVar, dOp, dChain, dNeg, dIfE, dAnd, dOr, dNot, dTup, dLst, dFn, dIsi, dM1, dApp, dExt, dSl, dDict1, qNo, qSm, oV, oS, aNil, aCons, aRev, bV, bAnd, bOr, bNot, bYes, iAny, iRg1, iRg2, iEnD, cont, conts, frz, valsOf, fn1, fn2, slotL, setL, fAdd_i, fSub_i, fLt_i, fLe_i, fGt_i, fGe_i, fEq_i, fEq_s, fNe_i, fNe_s, fIs_n, fNot_n, fIx_l, fIx_t, fLen_l, fLen_t, fInt_i, fSl_l, fSl_t, fMax_i, fMin_i, fAbs_i, fTup_l, fTup_t, fList_l, fList_t, wipeD, List.getElem?_cons_zero, List.getElem?_cons_succ, List.getElem?_nil, List.set_cons_zero, List.set_cons_succ, List.cons_append, List.nil_append, List.length_cons, List.length_nil, Nat.reduceAdd, Nat.reduceSub, List.replicate_succ, List.replicate_zero, List.take_succ_cons, List.take_zero, Option.bind_some, Option.bind_none, Option.map_some, Option.map_none, Option.some.injEq, Option.isSome_some, exists_eq_left', exists_eq_left, exists_and_left, List.cons.injEq, and_assoc, Sl.val.injEq, PyData.bool.injEq, PyData.int.injEq, PyData.str.injEq, PyData.list.injEq, PyData.tuple.injEq, Opn.v.injEq, true_and, and_true, decide_eq_true_eq, reduceIte, Bool.false_eq_true, if_true, if_false, isStr, Option.any_some, okRes, reduceCtorEq, Zero.zero, Nat.succ_eq_add_one, Nat.reduceLeDiff, ite_true, ite_false, Bool.not_eq_true, decide_eq_false_iff_not, fJoin_l (Nat.le_trans (inT_fits hg) (by decide))]
    exact ⟨ioIn_of (by simp [IoF]), q⟩
/-! ### drawn inputs -/
def isNum (d : PyData) : Prop := ∃ n : Int, d = .int n ∧ n.natAbs ≤ 1000000000000000000
theorem nums_of : ∀ {ys : List PyData}, (∀ y ∈ ys, isNum y) → ∃ ns, ys = iDs ns ∧ ns.length = ys.length ∧ ∀ n ∈ ns, n.natAbs ≤ 1000000000000000000
  | [], _ => ⟨[], rfl, rfl, by simp⟩
  | y :: ys, h => by
    obtain ⟨n, rfl, hn⟩ := h y (List.mem_cons_self ..)
    obtain ⟨ns, rfl, h2, h3⟩ := nums_of fun z hz => h z (List.mem_cons_of_mem _ hz)
    refine ⟨n :: ns, rfl, by simp [h2], fun m hm => ?_⟩
    rcases List.mem_cons.mp hm
          with rfl | hm
    · exact hn
    · exact h3 m hm
theorem rowsD_shaped {rs : List (List Int)} (h : ∀ r ∈ rs, small r) : SeqAt.shaped (.list (rs.map tupD)) = true := by
  have c1 : ∀ l : List Int, PyData.canLayAll0 (iDs l) = true := fun l => by
    induction l with
    | nil => rfl
    | cons a l ih => simp only [iDs, List.map_cons, PyData.canLayAll0, PyData.canLay0, Bool.true_and]; exact ih
  have d1 : ∀ l : List Int, PyData.depthAll (iDs l) ≤ 1 := fun l => by
    induction l with
    | nil => simp [iDs, PyData.depthAll]
    | cons a l ih => simp only [iDs, List.map_cons, PyData.depthAll, PyData.depth]; simp only [iDs] at ih; omega
  have c2 : ∀ l : List (List Int), PyData.canLayAll0 (l.map tupD) = true := fun l => by
    induction l with
    | nil => rfl
    | cons a l ih => simp only [List.map_cons, PyData.canLayAll0, tupD, PyData.canLay0, c1, Bool.true_and]; exact ih
  have d2 : ∀ l : List (List Int), PyData.depthAll (l.map tupD) ≤ 2 := fun l => by
    induction l with
    | nil => simp [PyData.depthAll]
    | cons a l ih => simp only [List.map_cons, PyData.depthAll, tupD, PyData.depth]; have := d1 a; omega
  unfold SeqAt.shaped
  rw [Bool.and_eq_true]
  refine ⟨by simp only [PyData.canLay0]; exact c2 rs, decide_eq_true ?_⟩
  simp only [PyData.depth]
  have := d2 rs
  omega
theorem rg_len {n : Int} : (rangeD 0 n.toNat).length = n.toNat := rangeD_len
/-- [_law_number(pot) for at in range(n)], n in slot j -/
theorem lc_nums {a b sz : Int} {A B C' D : Sl} {j : Nat} {Q : Sl → PD.Env → Prop} {X : XD} (hp : potOk a b) (h0 : sz ≤ 16777216) (h1 : -4611686018427387904 ≤ sz) (hj : cont [potS a b, A, B, C', D, .un] (.s j) = some (.int sz))
    (hq : ∀ a' b' ns, potOk a' b' → ns.length = sz.toNat → (∀ n ∈ ns, n.natAbs ≤ 1000000000000000000) → Q (.own (.lst (iDs ns))) [potS a' b', A, B, C', D, .un]) :
    dLc (iRg1 (aCons (oS j) aNil)) (gN 5) bYes (dCall sp__law_number (aCons (oS 0) aNil)) [5] [potS a b, A, B, C', D, .un] Q X := by
  refine lc_rel (rangeD 0 sz.toNat) isNum (fun e => ∃ a b, potOk a b ∧ e = [potS a b, A, B, C', D, .un]) [potS a b, A, B, C', D, .un] (fun R hR => ?_) ⟨a, b, hp, rfl⟩ (fun d hd e he R hR => ?_) (fun ys e hl hy he => ?_)
  · exact ⟨by rw [hj]; rfl, sz, ⟨.s j, rfl, hj⟩, h0, h1, hR⟩
  · obtain ⟨a1, b1, hp1, rfl⟩ := he
    simp (config := { maxSteps := 3000000 }) only [sRaise, dCall, dCallT, argsOf, argOf, slotsOf_s, slotsOf_v, slotsOf_nil, List.nodup_cons, List.nodup_nil, List.not_mem_nil, not_false_eq_true, updE, sSeq, sNext, sIf, sRet, sDrop, sAsg, sPar, sPar3, sBreak, sCont, gN, gSet, gT, gsCons, gsNil, dC, dVar, dOp, dChain, dNeg, dIfE, dAnd, dOr, dNot, dTup, dLst, dFn, dIsi, dM1, dApp, dExt, dSl, dDict1, qNo, qSm, oV, oS, aNil, aCons, aRev, bV, bAnd, bOr, bNot, bYes, iAny, iRg1, iRg2, iEnD, cont, conts, frz, valsOf, fn1, fn2, slotL, setL, fAdd_i, fSub_i, fLt_i, fLe_i, fGt_i, fGe_i, fEq_i, fEq_s, fNe_i, fNe_s, fIs_n, fNot_n, fIx_l, fIx_t, fLen_l, fLen_t, fInt_i, fSl_l, fSl_t, fMax_i, fMin_i, fAbs_i, fTup_l, fTup_t, fList_l, fList_t, wipeD, List.getElem?_cons_zero, List.getElem?_cons_succ, List.getElem?_nil, List.set_cons_zero, List.set_cons_succ, List.cons_append, List.nil_append, List.length_cons, List.length_nil, Nat.reduceAdd, Nat.reduceSub, List.replicate_succ, List.replicate_zero, List.take_succ_cons, List.take_zero, Option.bind_some, Option.bind_none, Option.map_some, Option.map_none, Option.some.injEq, Option.isSome_some, exists_eq_left', exists_eq_left, exists_and_left, List.cons.injEq, and_assoc, Sl.val.injEq, PyData.bool.injEq, PyData.int.injEq, PyData.str.injEq, PyData.list.injEq, PyData.tuple.injEq, Opn.v.injEq, true_and, and_true, decide_eq_true_eq, reduceIte, Bool.false_eq_true, if_true, if_false, isStr, Option.any_some, okRes, reduceCtorEq, Zero.zero, Nat.succ_eq_add_one, Nat.reduceLeDiff, ite_true, ite_false, Bool.not_eq_true, decide_eq_false_iff_not]
    refine ⟨a1, b1, rfl, hp1, fun a2 b2 n hp2 hn => ?_⟩
    simp (config := { maxSteps := 3000000 }) only [sRaise, dCall, dCallT, argsOf, argOf, slotsOf_s, slotsOf_v, slotsOf_nil, List.nodup_cons, List.nodup_nil, List.not_mem_nil, not_false_eq_true, updE, sSeq, sNext, sIf, sRet, sDrop, sAsg, sPar, sPar3, sBreak, sCont, gN, gSet, gT, gsCons, gsNil, dC, dVar, dOp, dChain, dNeg, dIfE, dAnd, dOr, dNot, dTup, dLst, dFn, dIsi, dM1, dApp, dExt, dSl, dDict1, qNo, qSm, oV, oS, aNil, aCons, aRev, bV, bAnd, bOr, bNot, bYes, iAny, iRg1, iRg2, iEnD, cont, conts, frz, valsOf, fn1, fn2, slotL, setL, fAdd_i, fSub_i, fLt_i, fLe_i, fGt_i, fGe_i, fEq_i, fEq_s, fNe_i, fNe_s, fIs_n, fNot_n, fIx_l, fIx_t, fLen_l, fLen_t, fInt_i, fSl_l, fSl_t, fMax_i, fMin_i, fAbs_i, fTup_l, fTup_t, fList_l, fList_t, wipeD, List.getElem?_cons_zero, List.getElem?_cons_succ, List.getElem?_nil, List.set_cons_zero, List.set_cons_succ, List.cons_append, List.nil_append, List.length_cons, List.length_nil, Nat.reduceAdd, Nat.reduceSub, List.replicate_succ, List.replicate_zero, List.take_succ_cons, List.take_zero, Option.bind_some, Option.bind_none, Option.map_some, Option.map_none, Option.some.injEq, Option.isSome_some, exists_eq_left', exists_eq_left, exists_and_left, List.cons.injEq, and_assoc, Sl.val.injEq, PyData.bool.injEq, PyData.int.injEq, PyData.str.injEq, PyData.list.injEq, PyData.tuple.injEq, Opn.v.injEq, true_and, and_true, decide_eq_true_eq, reduceIte, Bool.false_eq_true, if_true, if_false, isStr, Option.any_some, okRes, reduceCtorEq, Zero.zero, Nat.succ_eq_add_one, Nat.reduceLeDiff, ite_true, ite_false, Bool.not_eq_true, decide_eq_false_iff_not]
    exact hR _ _ _ rfl ⟨n, rfl, hn⟩ ⟨a2, b2, hp2, rfl⟩
  · obtain ⟨a1, b1, hp1, rfl⟩ := he
    obtain ⟨ns, rfl, h3, h4⟩ := nums_of hy
    rw [rg_len] at hl
    exact hq a1 b1 ns hp1 (by rw [h3, hl]) h4
theorem eqv_nil (l : List PyData) : PyData.eqv (.list l) (.list []) = l.isEmpty := by
  cases l <;> simp [PyData.eqv, PyData.eqvAll]
theorem rowsD_nil : SeqAt.shaped (.list []) = true := by decide
theorem sizes {d : PyData} (h : d ∈ [PyData.int 0, .int 1, .int 2, .int 3, .int 39, .int 40]) : ∃ n : Int, d = .int n ∧ 0 ≤ n ∧ n ≤ 40 := by
  simp only [List.mem_cons, List.not_mem_nil, or_false] at h
  rcases h with rfl | rfl | rfl | rfl | rfl | rfl <;> exact ⟨_, rfl, by decide, by decide⟩
theorem data__law_inputs {as : List Sl} {Q : Sl → List Sl → Prop} {X : XD} (h : sp__law_inputs as Q X) : sd__law_inputs { nx := fun e => IoIn as e ∧ Q (.val .none) (e.take 1), rt := fun s e => okRes s ∧ IoIn as e ∧ Q s (e.take 1), ex := fun C f d e => IoIn as e ∧ X C f d (e.take 1) } (as ++ List.replicate (6 - as.length) .un) := by
  obtain ⟨a, b, rfl, hp, q⟩ := h
  unfold sd__law_inputs
  simp (config := { maxSteps := 3000000 }) only [sRaise, dCall, dCallT, argsOf, argOf, slotsOf_s, slotsOf_v, slotsOf_nil, List.nodup_cons, List.nodup_nil, List.not_mem_nil, not_false_eq_true, updE, sSeq, sNext, sIf, sRet, sDrop, sAsg, sPar, sPar3, sBreak, sCont, gN, gSet, gT, gsCons, gsNil, dC, dVar, dOp, dChain, dNeg, dIfE, dAnd, dOr, dNot, dTup, dLst, dFn, dIsi, dM1, dApp, dExt, dSl, dDict1, qNo, qSm, oV, oS, aNil, aCons, aRev, bV, bAnd, bOr, bNot, bYes, iAny, iRg1, iRg2, iEnD, cont, conts, frz, valsOf, fn1, fn2, slotL, setL, fAdd_i, fSub_i, fLt_i, fLe_i, fGt_i, fGe_i, fEq_i, fEq_s, fNe_i, fNe_s, fIs_n, fNot_n, fIx_l, fIx_t, fLen_l, fLen_t, fInt_i, fSl_l, fSl_t, fMax_i, fMin_i, fAbs_i, fTup_l, fTup_t, fList_l, fList_t, wipeD, List.getElem?_cons_zero, List.getElem?_cons_succ, List.getElem?_nil, List.set_cons_zero, List.set_cons_succ, List.cons_append, List.nil_append, List.length_cons, List.length_nil, Nat.reduceAdd, Nat.reduceSub, List.replicate_succ, List.replicate_zero, List.take_succ_cons, List.take_zero, Option.bind_some, Option.bind_none, Option.map_some, Option.map_none, Option.some.injEq, Option.isSome_some, exists_eq_left', exists_eq_left, exists_and_left, List.cons.injEq, and_assoc, Sl.val.injEq, PyData.bool.injEq, PyData.int.injEq, PyData.str.injEq, PyData.list.injEq, PyData.tuple.injEq, Opn.v.injEq, true_and, and_true, decide_eq_true_eq, reduceIte, Bool.false_eq_true, if_true, if_false, isStr, Option.any_some, okRes, reduceCtorEq, Zero.zero, Nat.succ_eq_add_one, Nat.reduceLeDiff, ite_true, ite_false, Bool.not_eq_true, decide_eq_false_iff_not, len1]
  refine ⟨a, b, 6, rfl, hp, by decide, by decide, fun a1 b1 many hp1 hm0 hm6 => ?_⟩
  unfold sFor
  simp (config := { maxSteps := 3000000 }) only [sRaise, dCall, dCallT, argsOf, argOf, slotsOf_s, slotsOf_v, slotsOf_nil, List.nodup_cons, List.nodup_nil, List.not_mem_nil, not_false_eq_true, updE, sSeq, sNext, sIf, sRet, sDrop, sAsg, sPar, sPar3, sBreak, sCont, gN, gSet, gT, gsCons, gsNil, dC, dVar, dOp, dChain, dNeg, dIfE, dAnd, dOr, dNot, dTup, dLst, dFn, dIsi, dM1, dApp, dExt, dSl, dDict1, qNo, qSm, oV, oS, aNil, aCons, aRev, bV, bAnd, bOr, bNot, bYes, iAny, iRg1, iRg2, iEnD, cont, conts, frz, valsOf, fn1, fn2, slotL, setL, fAdd_i, fSub_i, fLt_i, fLe_i, fGt_i, fGe_i, fEq_i, fEq_s, fNe_i, fNe_s, fIs_n, fNot_n, fIx_l, fIx_t, fLen_l, fLen_t, fInt_i, fSl_l, fSl_t, fMax_i, fMin_i, fAbs_i, fTup_l, fTup_t, fList_l, fList_t, wipeD, List.getElem?_cons_zero, List.getElem?_cons_succ, List.getElem?_nil, List.set_cons_zero, List.set_cons_succ, List.cons_append, List.nil_append, List.length_cons, List.length_nil, Nat.reduceAdd, Nat.reduceSub, List.replicate_succ, List.replicate_zero, List.take_succ_cons, List.take_zero, Option.bind_some, Option.bind_none, Option.map_some, Option.map_none, Option.some.injEq, Option.isSome_some, exists_eq_left', exists_eq_left, exists_and_left, List.cons.injEq, and_assoc, Sl.val.injEq, PyData.bool.injEq, PyData.int.injEq, PyData.str.injEq, PyData.list.injEq, PyData.tuple.injEq, Opn.v.injEq, true_and, and_true, decide_eq_true_eq, reduceIte, Bool.false_eq_true, if_true, if_false, isStr, Option.any_some, okRes, reduceCtorEq, Zero.zero, Nat.succ_eq_add_one, Nat.reduceLeDiff, ite_true, ite_false, Bool.not_eq_true, decide_eq_false_iff_not]
  refine ⟨a1, b1, 4, rfl, hp1, by decide, by decide, fun a2 b2 cnt hp2 hc0 hc4 => ?_⟩
  simp (config := { maxSteps := 3000000 }) only [sRaise, dCall, dCallT, argsOf, argOf, slotsOf_s, slotsOf_v, slotsOf_nil, List.nodup_cons, List.nodup_nil, List.not_mem_nil, not_false_eq_true, updE, sSeq, sNext, sIf, sRet, sDrop, sAsg, sPar, sPar3, sBreak, sCont, gN, gSet, gT, gsCons, gsNil, dC, dVar, dOp, dChain, dNeg, dIfE, dAnd, dOr, dNot, dTup, dLst, dFn, dIsi, dM1, dApp, dExt, dSl, dDict1, qNo, qSm, oV, oS, aNil, aCons, aRev, bV, bAnd, bOr, bNot, bYes, iAny, iRg1, iRg2, iEnD, cont, conts, frz, valsOf, fn1, fn2, slotL, setL, fAdd_i, fSub_i, fLt_i, fLe_i, fGt_i, fGe_i, fEq_i, fEq_s, fNe_i, fNe_s, fIs_n, fNot_n, fIx_l, fIx_t, fLen_l, fLen_t, fInt_i, fSl_l, fSl_t, fMax_i, fMin_i, fAbs_i, fTup_l, fTup_t, fList_l, fList_t, wipeD, List.getElem?_cons_zero, List.getElem?_cons_succ, List.getElem?_nil, List.set_cons_zero, List.set_cons_succ, List.cons_append, List.nil_append, List.length_cons, List.length_nil, Nat.reduceAdd, Nat.reduceSub, List.replicate_succ, List.replicate_zero, List.take_succ_cons, List.take_zero, Option.bind_some, Option.bind_none, Option.map_some, Option.map_none, Option.some.injEq, Option.isSome_some, exists_eq_left', exists_eq_left, exists_and_left, List.cons.injEq, and_assoc, Sl.val.injEq, PyData.bool.injEq, PyData.int.injEq, PyData.str.injEq, PyData.list.injEq, PyData.tuple.injEq, Opn.v.injEq, true_and, and_true, decide_eq_true_eq, reduceIte, Bool.false_eq_true, if_true, if_false, isStr, Option.any_some, okRes, reduceCtorEq, Zero.zero, Nat.succ_eq_add_one, Nat.reduceLeDiff, ite_true, ite_false, Bool.not_eq_true, decide_eq_false_iff_not]
  refine ⟨by omega, by omega, fun i e => ∃ (a b : Int) (rs : List (List Int)) (y z : Sl), potOk a b ∧ rs.length = i ∧ (∀ r ∈ rs, small r) ∧ e = [potS a b, .own (.lst (rs.map tupD)), .val (.int many), y, z, .un], ⟨a2, b2, [], .un, .un, hp2, rfl, by simp, rfl⟩, fun i d e hd hI => ?_, fun e hI => ?_⟩
  · obtain ⟨a, b, rs, y, z, hp, hl, hr, rfl⟩ := hI
    obtain ⟨k, hk, rfl⟩ := range_mem (List.mem_of_getElem? hd)
    have hi3 : i < 3 := by have := (List.getElem?_eq_some_iff.mp hd).1; rw [rg_len] at this; omega
    have k6 : 6 ≤ 1000 := by decide
    simp (config := { maxSteps := 3000000 }) only [sRaise, dCall, dCallT, argsOf, argOf, slotsOf_s, slotsOf_v, slotsOf_nil, List.nodup_cons, List.nodup_nil, List.not_mem_nil, not_false_eq_true, updE, sSeq, sNext, sIf, sRet, sDrop, sAsg, sPar, sPar3, sBreak, sCont, gN, gSet, gT, gsCons, gsNil, dC, dVar, dOp, dChain, dNeg, dIfE, dAnd, dOr, dNot, dTup, dLst, dFn, dIsi, dM1, dApp, dExt, dSl, dDict1, qNo, qSm, oV, oS, aNil, aCons, aRev, bV, bAnd, bOr, bNot, bYes, iAny, iRg1, iRg2, iEnD, cont, conts, frz, valsOf, fn1, fn2, slotL, setL, fAdd_i, fSub_i, fLt_i, fLe_i, fGt_i, fGe_i, fEq_i, fEq_s, fNe_i, fNe_s, fIs_n, fNot_n, fIx_l, fIx_t, fLen_l, fLen_t, fInt_i, fSl_l, fSl_t, fMax_i, fMin_i, fAbs_i, fTup_l, fTup_t, fList_l, fList_t, wipeD, List.getElem?_cons_zero, List.getElem?_cons_succ, List.getElem?_nil, List.set_cons_zero, List.set_cons_succ, List.cons_append, List.nil_append, List.length_cons, List.length_nil, Nat.reduceAdd, Nat.reduceSub, List.replicate_succ, List.replicate_zero, List.take_succ_cons, List.take_zero, Option.bind_some, Option.bind_none, Option.map_some, Option.map_none, Option.some.injEq, Option.isSome_some, exists_eq_left', exists_eq_left, exists_and_left, List.cons.injEq, and_assoc, Sl.val.injEq, PyData.bool.injEq, PyData.int.injEq, PyData.str.injEq, PyData.list.injEq, PyData.tuple.injEq, Opn.v.injEq, true_and, and_true, decide_eq_true_eq, reduceIte, Bool.false_eq_true, if_true, if_false, isStr, Option.any_some, okRes, reduceCtorEq, Zero.zero, Nat.succ_eq_add_one, Nat.reduceLeDiff, ite_true, ite_false, Bool.not_eq_true, decide_eq_false_iff_not, k1]
    refine ⟨a, b, _, rfl, hp, by decide, by decide, fun a3 b3 d hp3 hm => ?_⟩
    obtain ⟨sz, rfl, hs0, hs40⟩ := sizes hm
    have hsh := rowsD_shaped hr
    have fn := fNe_l hsh rowsD_nil
    rw [eqv_nil] at fn
    have go : ∀ (a b : Int) (r : List Int), potOk a b → small r → ∃ a' b', potOk a' b' ∧ ∃ x : List (List Int), x.length = i + 1 ∧ (∀ r ∈ x, small r) ∧ potS a b = potS a' b' ∧ Sl.own (.lst (rs.map tupD ++ [tupD r])) = Sl.own (.lst (x.map tupD)) ∧ ∃ y, Sl.val (.int sz) = y := fun a b r hp hs =>
      ⟨a, b, hp, rs ++ [r], by simp [hl], fun x hx => by
        rcases List.mem_append.mp hx
              with hx | hx
        · exact hr x hx
        · rw [List.mem_singleton.mp hx]; exact hs, rfl, by rw [List.map_append]; rfl, _, rfl⟩
    have hlen : (rs.map tupD).length < 16777216 := by rw [List.length_map]; omega
    simp (config := { maxSteps := 3000000 }) only [sRaise, dCall, dCallT, argsOf, argOf, slotsOf_s, slotsOf_v, slotsOf_nil, List.nodup_cons, List.nodup_nil, List.not_mem_nil, not_false_eq_true, updE, sSeq, sNext, sIf, sRet, sDrop, sAsg, sPar, sPar3, sBreak, sCont, gN, gSet, gT, gsCons, gsNil, dC, dVar, dOp, dChain, dNeg, dIfE, dAnd, dOr, dNot, dTup, dLst, dFn, dIsi, dM1, dApp, dExt, dSl, dDict1, qNo, qSm, oV, oS, aNil, aCons, aRev, bV, bAnd, bOr, bNot, bYes, iAny, iRg1, iRg2, iEnD, cont, conts, frz, valsOf, fn1, fn2, slotL, setL, fAdd_i, fSub_i, fLt_i, fLe_i, fGt_i, fGe_i, fEq_i, fEq_s, fNe_i, fNe_s, fIs_n, fNot_n, fIx_l, fIx_t, fLen_l, fLen_t, fInt_i, fSl_l, fSl_t, fMax_i, fMin_i, fAbs_i, fTup_l, fTup_t, fList_l, fList_t, wipeD, List.getElem?_cons_zero, List.getElem?_cons_succ, List.getElem?_nil, List.set_cons_zero, List.set_cons_succ, List.cons_append, List.nil_append, List.length_cons, List.length_nil, Nat.reduceAdd, Nat.reduceSub, List.replicate_succ, List.replicate_zero, List.take_succ_cons, List.take_zero, Option.bind_some, Option.bind_none, Option.map_some, Option.map_none, Option.some.injEq, Option.isSome_some, exists_eq_left', exists_eq_left, exists_and_left, List.cons.injEq, and_assoc, Sl.val.injEq, PyData.bool.injEq, PyData.int.injEq, PyData.str.injEq, PyData.list.injEq, PyData.tuple.injEq, Opn.v.injEq, true_and, and_true, decide_eq_true_eq, reduceIte, Bool.false_eq_true, if_true, if_false, isStr, Option.any_some, okRes, reduceCtorEq, Zero.zero, Nat.succ_eq_add_one, Nat.reduceLeDiff, ite_true, ite_false, Bool.not_eq_true, decide_eq_false_iff_not, fn, len1]
    refine ite_intro (fun h1 => ?_) (fun h1 => ?_)
    · have hne : rs ≠ [] := by
        intro z; rw [z] at h1; simp at h1
      refine ⟨a3, b3, 3, rfl, hp3, by decide, by decide, fun a4 b4 c hp4 hc1 hc2 => ?_⟩
      simp (config := { maxSteps := 3000000 }) only [sRaise, dCall, dCallT, argsOf, argOf, slotsOf_s, slotsOf_v, slotsOf_nil, List.nodup_cons, List.nodup_nil, List.not_mem_nil, not_false_eq_true, updE, sSeq, sNext, sIf, sRet, sDrop, sAsg, sPar, sPar3, sBreak, sCont, gN, gSet, gT, gsCons, gsNil, dC, dVar, dOp, dChain, dNeg, dIfE, dAnd, dOr, dNot, dTup, dLst, dFn, dIsi, dM1, dApp, dExt, dSl, dDict1, qNo, qSm, oV, oS, aNil, aCons, aRev, bV, bAnd, bOr, bNot, bYes, iAny, iRg1, iRg2, iEnD, cont, conts, frz, valsOf, fn1, fn2, slotL, setL, fAdd_i, fSub_i, fLt_i, fLe_i, fGt_i, fGe_i, fEq_i, fEq_s, fNe_i, fNe_s, fIs_n, fNot_n, fIx_l, fIx_t, fLen_l, fLen_t, fInt_i, fSl_l, fSl_t, fMax_i, fMin_i, fAbs_i, fTup_l, fTup_t, fList_l, fList_t, wipeD, List.getElem?_cons_zero, List.getElem?_cons_succ, List.getElem?_nil, List.set_cons_zero, List.set_cons_succ, List.cons_append, List.nil_append, List.length_cons, List.length_nil, Nat.reduceAdd, Nat.reduceSub, List.replicate_succ, List.replicate_zero, List.take_succ_cons, List.take_zero, Option.bind_some, Option.bind_none, Option.map_some, Option.map_none, Option.some.injEq, Option.isSome_some, exists_eq_left', exists_eq_left, exists_and_left, List.cons.injEq, and_assoc, Sl.val.injEq, PyData.bool.injEq, PyData.int.injEq, PyData.str.injEq, PyData.list.injEq, PyData.tuple.injEq, Opn.v.injEq, true_and, and_true, decide_eq_true_eq, reduceIte, Bool.false_eq_true, if_true, if_false, isStr, Option.any_some, okRes, reduceCtorEq, Zero.zero, Nat.succ_eq_add_one, Nat.reduceLeDiff, ite_true, ite_false, Bool.not_eq_true, decide_eq_false_iff_not]
      refine ite_intro (fun h2 => ?_) (fun h2 => ?_)
      · obtain ⟨l', x, hlx⟩ : ∃ l' x, rs = l' ++ [x] := ⟨rs.dropLast, rs.getLast hne, (List.dropLast_concat_getLast hne).symm⟩
        have hat : atI (rs.map tupD) (-1) = some (tupD x) := by rw [hlx, List.map_append]; exact atI_last _ _
        simp (config := { maxSteps := 3000000 }) only [sRaise, dCall, dCallT, argsOf, argOf, slotsOf_s, slotsOf_v, slotsOf_nil, List.nodup_cons, List.nodup_nil, List.not_mem_nil, not_false_eq_true, updE, sSeq, sNext, sIf, sRet, sDrop, sAsg, sPar, sPar3, sBreak, sCont, gN, gSet, gT, gsCons, gsNil, dC, dVar, dOp, dChain, dNeg, dIfE, dAnd, dOr, dNot, dTup, dLst, dFn, dIsi, dM1, dApp, dExt, dSl, dDict1, qNo, qSm, oV, oS, aNil, aCons, aRev, bV, bAnd, bOr, bNot, bYes, iAny, iRg1, iRg2, iEnD, cont, conts, frz, valsOf, fn1, fn2, slotL, setL, fAdd_i, fSub_i, fLt_i, fLe_i, fGt_i, fGe_i, fEq_i, fEq_s, fNe_i, fNe_s, fIs_n, fNot_n, fIx_l, fIx_t, fLen_l, fLen_t, fInt_i, fSl_l, fSl_t, fMax_i, fMin_i, fAbs_i, fTup_l, fTup_t, fList_l, fList_t, wipeD, List.getElem?_cons_zero, List.getElem?_cons_succ, List.getElem?_nil, List.set_cons_zero, List.set_cons_succ, List.cons_append, List.nil_append, List.length_cons, List.length_nil, Nat.reduceAdd, Nat.reduceSub, List.replicate_succ, List.replicate_zero, List.take_succ_cons, List.take_zero, Option.bind_some, Option.bind_none, Option.map_some, Option.map_none, Option.some.injEq, Option.isSome_some, exists_eq_left', exists_eq_left, exists_and_left, List.cons.injEq, and_assoc, Sl.val.injEq, PyData.bool.injEq, PyData.int.injEq, PyData.str.injEq, PyData.list.injEq, PyData.tuple.injEq, Opn.v.injEq, true_and, and_true, decide_eq_true_eq, reduceIte, Bool.false_eq_true, if_true, if_false, isStr, Option.any_some, okRes, reduceCtorEq, Zero.zero, Nat.succ_eq_add_one, Nat.reduceLeDiff, ite_true, ite_false, Bool.not_eq_true, decide_eq_false_iff_not, hat]
        exact ⟨hlen, go a4 b4 x hp4 (hr x (by rw [hlx]; simp))⟩
      · refine lc_nums hp4 (by omega) (by omega) rfl fun a5 b5 ns hp5 hnl hns => ?_
        simp (config := { maxSteps := 3000000 }) only [sRaise, dCall, dCallT, argsOf, argOf, slotsOf_s, slotsOf_v, slotsOf_nil, List.nodup_cons, List.nodup_nil, List.not_mem_nil, not_false_eq_true, updE, sSeq, sNext, sIf, sRet, sDrop, sAsg, sPar, sPar3, sBreak, sCont, gN, gSet, gT, gsCons, gsNil, dC, dVar, dOp, dChain, dNeg, dIfE, dAnd, dOr, dNot, dTup, dLst, dFn, dIsi, dM1, dApp, dExt, dSl, dDict1, qNo, qSm, oV, oS, aNil, aCons, aRev, bV, bAnd, bOr, bNot, bYes, iAny, iRg1, iRg2, iEnD, cont, conts, frz, valsOf, fn1, fn2, slotL, setL, fAdd_i, fSub_i, fLt_i, fLe_i, fGt_i, fGe_i, fEq_i, fEq_s, fNe_i, fNe_s, fIs_n, fNot_n, fIx_l, fIx_t, fLen_l, fLen_t, fInt_i, fSl_l, fSl_t, fMax_i, fMin_i, fAbs_i, fTup_l, fTup_t, fList_l, fList_t, wipeD, List.getElem?_cons_zero, List.getElem?_cons_succ, List.getElem?_nil, List.set_cons_zero, List.set_cons_succ, List.cons_append, List.nil_append, List.length_cons, List.length_nil, Nat.reduceAdd, Nat.reduceSub, List.replicate_succ, List.replicate_zero, List.take_succ_cons, List.take_zero, Option.bind_some, Option.bind_none, Option.map_some, Option.map_none, Option.some.injEq, Option.isSome_some, exists_eq_left', exists_eq_left, exists_and_left, List.cons.injEq, and_assoc, Sl.val.injEq, PyData.bool.injEq, PyData.int.injEq, PyData.str.injEq, PyData.list.injEq, PyData.tuple.injEq, Opn.v.injEq, true_and, and_true, decide_eq_true_eq, reduceIte, Bool.false_eq_true, if_true, if_false, isStr, Option.any_some, okRes, reduceCtorEq, Zero.zero, Nat.succ_eq_add_one, Nat.reduceLeDiff, ite_true, ite_false, Bool.not_eq_true, decide_eq_false_iff_not]
        exact ⟨hlen, go a5 b5 ns hp5 ⟨by omega, hns⟩⟩
    · refine lc_nums hp3 (by omega) (by omega) rfl fun a5 b5 ns hp5 hnl hns => ?_
      simp (config := { maxSteps := 3000000 }) only [sRaise, dCall, dCallT, argsOf, argOf, slotsOf_s, slotsOf_v, slotsOf_nil, List.nodup_cons, List.nodup_nil, List.not_mem_nil, not_false_eq_true, updE, sSeq, sNext, sIf, sRet, sDrop, sAsg, sPar, sPar3, sBreak, sCont, gN, gSet, gT, gsCons, gsNil, dC, dVar, dOp, dChain, dNeg, dIfE, dAnd, dOr, dNot, dTup, dLst, dFn, dIsi, dM1, dApp, dExt, dSl, dDict1, qNo, qSm, oV, oS, aNil, aCons, aRev, bV, bAnd, bOr, bNot, bYes, iAny, iRg1, iRg2, iEnD, cont, conts, frz, valsOf, fn1, fn2, slotL, setL, fAdd_i, fSub_i, fLt_i, fLe_i, fGt_i, fGe_i, fEq_i, fEq_s, fNe_i, fNe_s, fIs_n, fNot_n, fIx_l, fIx_t, fLen_l, fLen_t, fInt_i, fSl_l, fSl_t, fMax_i, fMin_i, fAbs_i, fTup_l, fTup_t, fList_l, fList_t, wipeD, List.getElem?_cons_zero, List.getElem?_cons_succ, List.getElem?_nil, List.set_cons_zero, List.set_cons_succ, List.cons_append, List.nil_append, List.length_cons, List.length_nil, Nat.reduceAdd, Nat.reduceSub, List.replicate_succ, List.replicate_zero, List.take_succ_cons, List.take_zero, Option.bind_some, Option.bind_none, Option.map_some, Option.map_none, Option.some.injEq, Option.isSome_some, exists_eq_left', exists_eq_left, exists_and_left, List.cons.injEq, and_assoc, Sl.val.injEq, PyData.bool.injEq, PyData.int.injEq, PyData.str.injEq, PyData.list.injEq, PyData.tuple.injEq, Opn.v.injEq, true_and, and_true, decide_eq_true_eq, reduceIte, Bool.false_eq_true, if_true, if_false, isStr, Option.any_some, okRes, reduceCtorEq, Zero.zero, Nat.succ_eq_add_one, Nat.reduceLeDiff, ite_true, ite_false, Bool.not_eq_true, decide_eq_false_iff_not]
      exact ⟨hlen, go a5 b5 ns hp5 ⟨by omega, hns⟩⟩
  · obtain ⟨a, b, rs, y, z, hp, hl, hr, rfl⟩ := hI
    rw [rg_len] at hl
    refine lc_nums hp (by omega) (by omega) rfl fun a5 b5 ns hp5 hnl hns => ?_
    simp (config := { maxSteps := 3000000 }) only [sRaise, dCall, dCallT, argsOf, argOf, slotsOf_s, slotsOf_v, slotsOf_nil, List.nodup_cons, List.nodup_nil, List.not_mem_nil, not_false_eq_true, updE, sSeq, sNext, sIf, sRet, sDrop, sAsg, sPar, sPar3, sBreak, sCont, gN, gSet, gT, gsCons, gsNil, dC, dVar, dOp, dChain, dNeg, dIfE, dAnd, dOr, dNot, dTup, dLst, dFn, dIsi, dM1, dApp, dExt, dSl, dDict1, qNo, qSm, oV, oS, aNil, aCons, aRev, bV, bAnd, bOr, bNot, bYes, iAny, iRg1, iRg2, iEnD, cont, conts, frz, valsOf, fn1, fn2, slotL, setL, fAdd_i, fSub_i, fLt_i, fLe_i, fGt_i, fGe_i, fEq_i, fEq_s, fNe_i, fNe_s, fIs_n, fNot_n, fIx_l, fIx_t, fLen_l, fLen_t, fInt_i, fSl_l, fSl_t, fMax_i, fMin_i, fAbs_i, fTup_l, fTup_t, fList_l, fList_t, wipeD, List.getElem?_cons_zero, List.getElem?_cons_succ, List.getElem?_nil, List.set_cons_zero, List.set_cons_succ, List.cons_append, List.nil_append, List.length_cons, List.length_nil, Nat.reduceAdd, Nat.reduceSub, List.replicate_succ, List.replicate_zero, List.take_succ_cons, List.take_zero, Option.bind_some, Option.bind_none, Option.map_some, Option.map_none, Option.some.injEq, Option.isSome_some, exists_eq_left', exists_eq_left, exists_and_left, List.cons.injEq, and_assoc, Sl.val.injEq, PyData.bool.injEq, PyData.int.injEq, PyData.str.injEq, PyData.list.injEq, PyData.tuple.injEq, Opn.v.injEq, true_and, and_true, decide_eq_true_eq, reduceIte, Bool.false_eq_true, if_true, if_false, isStr, Option.any_some, okRes, reduceCtorEq, Zero.zero, Nat.succ_eq_add_one, Nat.reduceLeDiff, ite_true, ite_false, Bool.not_eq_true, decide_eq_false_iff_not]
    exact ⟨ioIn_of (by simp [IoF]), q a5 b5 ns rs hp5 ⟨by omega, ⟨by omega, hns⟩, by omega, hr⟩⟩
end K35
namespace K35
open PySem L2 PySem.Spec PyProof.Rows PD PySem.NumText TL
theorem spl_pos {S : List Nat} : ∀ (l : List Nat) (k : Nat) (acc : List Nat), 0 < (spl S k acc l).length
  | [], k, acc => by rw [spl_nil]; simp
  | c :: r, 0, acc => by
    show 0 < (if TL.pre S (c :: r) = true then acc :: spl S (S.length - 1) [] r else spl S 0 (acc ++ [c]) r).length
    split
    · simp
    · exact spl_pos r 0 (acc ++ [c])
  | c :: r, k + 1, acc => spl_pos r k acc
theorem spl_sum {S : List Nat} (hS : S ≠ []) : ∀ (l : List Nat) (k : Nat) (acc : List Nat), ((spl S k acc l).map List.length).sum + (spl S k acc l).length * S.length ≤ acc.length + (l.length - k) + S.length
  | [], k, acc => by rw [spl_nil]; simp
  | c :: r, 0, acc => by
    have hs : 0 < S.length := List.length_pos_iff.mpr hS
    show ((if TL.pre S (c :: r) = true then acc :: spl S (S.length - 1) [] r else spl S 0 (acc ++ [c]) r).map List.length).sum + (if TL.pre S (c :: r) = true then acc :: spl S (S.length - 1) [] r else spl S 0 (acc ++ [c]) r).length * S.length ≤ _
    by_cases h : TL.pre S (c :: r) = true
    · rw [if_pos h]
      have ih := spl_sum hS r (S.length - 1) []
      have e : (c :: r).take S.length = S := eq_of_beq h
      have e1 :=
            congrArg List.length e
      rw [List.length_take, List.length_cons] at e1
      rw [List.map_cons, List.sum_cons, List.length_cons, List.length_cons, Nat.succ_mul]
      rw [List.length_nil] at ih
      omega
    · rw [if_neg h]
      have ih := spl_sum hS r 0 (acc ++ [c])
      rw [List.length_append, List.length_singleton] at ih
      rw [List.length_cons]
      omega
  | c :: r, k + 1, acc => by
    show ((spl S k acc r).map List.length).sum + (spl S k acc r).length * S.length ≤ _
    have ih := spl_sum hS r k acc
    rw [List.length_cons]
    omega
def wgt (qs : List Str) : Nat := (qs.map (·.length)).sum + qs.length * ("; " : Str).length
theorem bt2 : ("; " : Str).length = 2 := by decide
theorem split_wgt (t : Str) : wgt (Txt.split t "; ") ≤ t.length + 2 := by
  have h1 := split_tl (a := t) bt_ne bt_all
  have h2 := spl_sum bt_ne (tl t) 0 []
  rw [← h1, List.map_map, List.length_map] at h2
  unfold wgt
  rw [show (Txt.split t "; ").map (·.length) = (Txt.split t "; ").map (List.length ∘ tl) from List.map_congr_left fun x _ => len_tl x, bt2, len_tl t]
  rw [show (tl ("; " : Str)).length = 2 from by decide] at h2
  simpa using h2
theorem split_pos (t : Str) : 0 < (Txt.split t "; ").length := by
  have h1 := congrArg List.length (split_tl (a := t) bt_ne bt_all)
  rw [List.length_map] at h1
  rw [h1]; exact spl_pos _ _ _
theorem wgt_app (a b : List Str) : wgt (a ++ b) = wgt a + wgt b := by
  unfold wgt
  rw [List.map_append, List.sum_append, List.length_append, Nat.add_mul]; omega
theorem wgt_cut (s : Nat) (P : List Str) : wgt (P.take s) + wgt (P.drop s) = wgt P := by rw [← wgt_app, List.take_append_drop]
theorem wgt_one (z : Str) : wgt [z] = z.length + 2 := by simp [wgt, bt2]
theorem wgt_len (P : List Str) : P.length ≤ wgt P := by
  unfold wgt
  rw [bt2]; omega
theorem wgt_take (s : Nat) (P : List Str) : wgt (P.take s) ≤ wgt P := by have := wgt_cut s P; omega
theorem wgt_drop (s : Nat) (P : List Str) : wgt (P.drop s) ≤ wgt P := by have := wgt_cut s P; omega
theorem join_wgt (P : List Str) : (Txt.join "; " P).length ≤ wgt P := join_len "; " P
theorem cut_to {α : Type} (f : α → PyData) (P : List α) (k : Nat) : PD.cutD (P.map f) none (some (k : Int)) = (P.take k).map f := by
  unfold PD.cutD
  rw [HT.sIx_none, show HT.sIx (P.map f).length (P.map f).length (some (k : Int)) = min k (P.map f).length from HT.sIx_nat _ _ k, List.drop_zero, Nat.sub_zero, List.length_map, List.map_take]
  by_cases h : k ≤ P.length
  · rw [Nat.min_eq_left h]
  · rw [Nat.min_eq_right (by omega), List.take_of_length_le (by simp), List.take_of_length_le (by simp; omega)]
theorem cut_from {α : Type} (f : α → PyData) (P : List α) (k : Nat) : PD.cutD (P.map f) (some (k : Int)) none = (P.drop k).map f := by
  unfold PD.cutD
  rw [HT.sIx_none, show HT.sIx (P.map f).length 0 (some (k : Int)) = min k (P.map f).length from HT.sIx_nat _ _ k, List.length_map, List.map_drop]
  by_cases h : k ≤ P.length
  · rw [Nat.min_eq_left h,
        List.take_of_length_le (by simp)]
  · rw [Nat.min_eq_right (by omega), List.drop_eq_nil_of_le (by simp), List.drop_eq_nil_of_le (by simp; omega)]; simp
theorem cut_mid {α : Type} (f : α → PyData) (P : List α) (i j : Nat) : ∃ m, PD.cutD (P.map f) (some (i : Int)) (some (j : Int)) = (((P.drop i).take m)).map f := by
  unfold PD.cutD
  rw [show HT.sIx (P.map f).length 0 (some (i : Int)) = min i (P.map f).length from HT.sIx_nat _ _ i]
  by_cases h : i ≤ (P.map f).length
  · rw [Nat.min_eq_left h]
    exact ⟨_, by rw [List.map_take, List.map_drop]⟩
  · rw [Nat.min_eq_right (by omega)]
    refine ⟨0, ?_⟩
    rw [List.drop_eq_nil_of_le (Nat.le_refl _)]; simp
theorem addS {A B : List Str} (h : A.length + B.length ≤ 16777216) : fAdd (.list (A.map .str)) (.list (B.map .str)) = some (.own (.lst ((A ++ B).map .str))) := by
  rw [fAdd_l (by simpa using h), List.map_append]
theorem joinS {ys : List Str} (h : wgt ys ≤ 16777216) : fJoin (.str "; ") (.list (ys.map .str)) = some (.val (.str (Txt.join "; " ys))) := fJoin_l h
theorem strs_mem {d : PyData} {l : List Str} (h : d ∈ l.map PyData.str) : ∃ z, d = .str z ∧ z ∈ l := by
  obtain ⟨z, hz,
        rfl⟩ := List.mem_map.mp h
  exact ⟨z, rfl, hz⟩
theorem short {l : List Str} {z : Str} (h : z ∈ l) (hl : l.all (fun y => decide (y.length ≤ 22)) = true) : z.length ≤ 22 := by
  have := List.all_eq_true.mp hl z h
  exact of_decide_eq_true this
theorem str_app_len (a b : Str) : (a ++ b).length = a.length + b.length := by
  rw [len_tl, tl_append, List.length_append, ← len_tl, ← len_tl]
theorem data__law_bent {as : List Sl} {Q : Sl → List Sl → Prop} {X : XD} (h : sp__law_bent as Q X) : sd__law_bent { nx := fun e => IoIn as e ∧ Q (.val .none) (e.take 2), rt := fun s e => okRes s ∧ IoIn as e ∧ Q s (e.take 2), ex := fun C f d e => IoIn as e ∧ X C f d (e.take 2) } (as ++ List.replicate (7 - as.length) .un) := by
  obtain ⟨a, b, t, rfl, hp, ht, q⟩ := h
  unfold sd__law_bent
  have hsp := fSplit_s (a := t) (b := "; ") ⟨bt_len, by omega⟩
  have hw := split_wgt t
  have hpos := split_pos t
  have htl := fLen_s (a := t) (by omega)
  simp (config := { maxSteps := 3000000 }) only [sRaise, dCall, dCallT, argsOf, argOf, slotsOf_s, slotsOf_v, slotsOf_nil, List.nodup_cons, List.nodup_nil, List.not_mem_nil, not_false_eq_true, updE, sSeq, sNext, sIf, sRet, sDrop, sAsg, sPar, sPar3, sBreak, sCont, gN, gSet, gT, gsCons, gsNil, dC, dVar, dOp, dChain, dNeg, dIfE, dAnd, dOr, dNot, dTup, dLst, dFn, dIsi, dM1, dApp, dExt, dSl, dDict1, qNo, qSm, oV, oS, aNil, aCons, aRev, bV, bAnd, bOr, bNot, bYes, iAny, iRg1, iRg2, iEnD, cont, conts, frz, valsOf, fn1, fn2, slotL, setL, fAdd_i, fSub_i, fLt_i, fLe_i, fGt_i, fGe_i, fEq_i, fEq_s, fNe_i, fNe_s, fIs_n, fNot_n, fIx_l, fIx_t, fLen_l, fLen_t, fInt_i, fSl_l, fSl_t, fMax_i, fMin_i, fAbs_i, fTup_l, fTup_t, fList_l, fList_t, wipeD, List.getElem?_cons_zero, List.getElem?_cons_succ, List.getElem?_nil, List.set_cons_zero, List.set_cons_succ, List.cons_append, List.nil_append, List.length_cons, List.length_nil, Nat.reduceAdd, Nat.reduceSub, List.replicate_succ, List.replicate_zero, List.take_succ_cons, List.take_zero, Option.bind_some, Option.bind_none, Option.map_some, Option.map_none, Option.some.injEq, Option.isSome_some, exists_eq_left', exists_eq_left, exists_and_left, List.cons.injEq, and_assoc, Sl.val.injEq, PyData.bool.injEq, PyData.int.injEq, PyData.str.injEq, PyData.list.injEq, PyData.tuple.injEq, Opn.v.injEq, true_and, and_true, decide_eq_true_eq, reduceIte, Bool.false_eq_true, if_true, if_false, isStr, Option.any_some, okRes, reduceCtorEq, Zero.zero, Nat.succ_eq_add_one, Nat.reduceLeDiff, ite_true, ite_false, Bool.not_eq_true, decide_eq_false_iff_not, hsp, htl]
  refine ⟨a, b, 9, rfl, hp, by decide, by decide, fun a1 b1 kind hp1 hk0 hk9 => ?_⟩
  simp (config := { maxSteps := 3000000 }) only [sRaise, dCall, dCallT, argsOf, argOf, slotsOf_s, slotsOf_v, slotsOf_nil, List.nodup_cons, List.nodup_nil, List.not_mem_nil, not_false_eq_true, updE, sSeq, sNext, sIf, sRet, sDrop, sAsg, sPar, sPar3, sBreak, sCont, gN, gSet, gT, gsCons, gsNil, dC, dVar, dOp, dChain, dNeg, dIfE, dAnd, dOr, dNot, dTup, dLst, dFn, dIsi, dM1, dApp, dExt, dSl, dDict1, qNo, qSm, oV, oS, aNil, aCons, aRev, bV, bAnd, bOr, bNot, bYes, iAny, iRg1, iRg2, iEnD, cont, conts, frz, valsOf, fn1, fn2, slotL, setL, fAdd_i, fSub_i, fLt_i, fLe_i, fGt_i, fGe_i, fEq_i, fEq_s, fNe_i, fNe_s, fIs_n, fNot_n, fIx_l, fIx_t, fLen_l, fLen_t, fInt_i, fSl_l, fSl_t, fMax_i, fMin_i, fAbs_i, fTup_l, fTup_t, fList_l, fList_t, wipeD, List.getElem?_cons_zero, List.getElem?_cons_succ, List.getElem?_nil, List.set_cons_zero, List.set_cons_succ, List.cons_append, List.nil_append, List.length_cons, List.length_nil, Nat.reduceAdd, Nat.reduceSub, List.replicate_succ, List.replicate_zero, List.take_succ_cons, List.take_zero, Option.bind_some, Option.bind_none, Option.map_some, Option.map_none, Option.some.injEq, Option.isSome_some, exists_eq_left', exists_eq_left, exists_and_left, List.cons.injEq, and_assoc, Sl.val.injEq, PyData.bool.injEq, PyData.int.injEq, PyData.str.injEq, PyData.list.injEq, PyData.tuple.injEq, Opn.v.injEq, true_and, and_true, decide_eq_true_eq, reduceIte, Bool.false_eq_true, if_true, if_false, isStr, Option.any_some, okRes, reduceCtorEq, Zero.zero, Nat.succ_eq_add_one, Nat.reduceLeDiff, ite_true, ite_false, Bool.not_eq_true, decide_eq_false_iff_not, hsp, htl]
  refine ⟨a1, b1, _, rfl, hp1, by omega, by omega, fun a2 b2 at' hp2 ha0 ha9 => ?_⟩
  have hPl := wgt_len (Txt.split t "; ")
  simp (config := { maxSteps := 3000000 }) only [sRaise, dCall, dCallT, argsOf, argOf, slotsOf_s, slotsOf_v, slotsOf_nil, List.nodup_cons, List.nodup_nil, List.not_mem_nil, not_false_eq_true, updE, sSeq, sNext, sIf, sRet, sDrop, sAsg, sPar, sPar3, sBreak, sCont, gN, gSet, gT, gsCons, gsNil, dC, dVar, dOp, dChain, dNeg, dIfE, dAnd, dOr, dNot, dTup, dLst, dFn, dIsi, dM1, dApp, dExt, dSl, dDict1, qNo, qSm, oV, oS, aNil, aCons, aRev, bV, bAnd, bOr, bNot, bYes, iAny, iRg1, iRg2, iEnD, cont, conts, frz, valsOf, fn1, fn2, slotL, setL, fAdd_i, fSub_i, fLt_i, fLe_i, fGt_i, fGe_i, fEq_i, fEq_s, fNe_i, fNe_s, fIs_n, fNot_n, fIx_l, fIx_t, fLen_l, fLen_t, fInt_i, fSl_l, fSl_t, fMax_i, fMin_i, fAbs_i, fTup_l, fTup_t, fList_l, fList_t, wipeD, List.getElem?_cons_zero, List.getElem?_cons_succ, List.getElem?_nil, List.set_cons_zero, List.set_cons_succ, List.cons_append, List.nil_append, List.length_cons, List.length_nil, Nat.reduceAdd, Nat.reduceSub, List.replicate_succ, List.replicate_zero, List.take_succ_cons, List.take_zero, Option.bind_some, Option.bind_none, Option.map_some, Option.map_none, Option.some.injEq, Option.isSome_some, exists_eq_left', exists_eq_left, exists_and_left, List.cons.injEq, and_assoc, Sl.val.injEq, PyData.bool.injEq, PyData.int.injEq, PyData.str.injEq, PyData.list.injEq, PyData.tuple.injEq, Opn.v.injEq, true_and, and_true, decide_eq_true_eq, reduceIte, Bool.false_eq_true, if_true, if_false, isStr, Option.any_some, okRes, reduceCtorEq, Zero.zero, Nat.succ_eq_add_one, Nat.reduceLeDiff, ite_true, ite_false, Bool.not_eq_true, decide_eq_false_iff_not, hsp, htl, List.length_map]
  refine ⟨a2, b2, _, rfl, hp2, by omega, by omega, fun a3 b3 spot hp3 hs0 hs9 => ?_⟩
  obtain ⟨s, rfl⟩ : ∃ s : Nat, spot = (s : Int) := ⟨spot.toNat, by omega⟩
  obtain ⟨k, rfl⟩ : ∃ k : Nat, at' = (k : Int) := ⟨at'.toNat, by omega⟩
  generalize hP : Txt.split t "; " = P at *
  have c1 := wgt_cut s P
  have c2 := wgt_take s P
  have c3 := wgt_drop s P
  have c4 := wgt_drop (s + 1) P
  have l1 := wgt_len (P.take s)
  have l2 := wgt_len (P.drop s)
  have l3 := wgt_len (P.drop (s + 1))
  have hs1 : ((s : Int) + 1) = ((s + 1 : Nat) : Int) := by omega
  have hat1 : ((k : Int) + 1) = ((k + 1 : Nat) : Int) := by omega
  have to := cut_to PyData.str P s
  have fr := cut_from PyData.str P s
  have fr1 := cut_from PyData.str P (s + 1)
  have fin : ∀ (ys : List Str) (R : Prop), wgt ys ≤ 2 * t.length + 200 → ∀ x : List Sl, (IoIn [potS a b, .val (.str t)] (potS a3 b3 :: .val (.str t) :: x) → Q (.val (.str (Txt.join "; " ys))) [potS a3 b3, .val (.str t)] → R) → R := fun ys R h x f => f (ioIn_of (by simp [IoF])) (q _ _ _ hp3 (Nat.le_trans (join_wgt ys) h))
  have step : ∀ Z : Str, Z.length ≤ t.length + 100 → fAdd (.list ((P.take s).map .str)) (.list [.str Z]) = some (.own (.lst ((P.take s ++ [Z]).map .str))) ∧ fAdd (.list ((P.take s ++ [Z]).map .str)) (.list ((P.drop (s + 1)).map .str)) = some (.own (.lst ((P.take s ++ [Z] ++ P.drop (s + 1)).map .str))) ∧
      fJoin (.str "; ") (.list ((P.take s ++ [Z] ++ P.drop (s + 1)).map .str)) = some (.val (.str (Txt.join "; " (P.take s ++ [Z] ++ P.drop (s + 1))))) ∧ (Txt.join "; " (P.take s ++ [Z] ++ P.drop (s + 1))).length ≤ 2 * t.length + 200 := fun Z hZ => by
    have w1 : wgt (P.take s ++ [Z] ++ P.drop (s + 1)) ≤ 2 * t.length + 110 := by
      rw [wgt_app, wgt_app, wgt_one]
      have : wgt (P.drop (s + 1)) ≤ wgt (P.drop s) := by
        rw [← List.drop_drop]; exact wgt_drop 1 _
      omega
    refine ⟨?_, addS (A := P.take s ++ [Z]) (B := P.drop (s + 1)) (by rw [List.length_append, List.length_singleton]; omega), joinS (by omega), Nat.le_trans (join_wgt _) (by omega)⟩
    exact addS (A := P.take s) (B := [Z]) (by rw [List.length_singleton]; omega)
  have hsl : s < P.length := by omega
  have hps : atI (P.map PyData.str) (s : Int) = some (.str P[s]) := atI_nat (by simp [hsl])
  have hpl : P[s].length ≤ t.length := split_mem bt_ne bt_all (by rw [hP]; exact List.getElem_mem hsl)
  simp (config := { maxSteps := 3000000 }) only [sRaise, dCall, dCallT, argsOf, argOf, slotsOf_s, slotsOf_v, slotsOf_nil, List.nodup_cons, List.nodup_nil, List.not_mem_nil, not_false_eq_true, updE, sSeq, sNext, sIf, sRet, sDrop, sAsg, sPar, sPar3, sBreak, sCont, gN, gSet, gT, gsCons, gsNil, dC, dVar, dOp, dChain, dNeg, dIfE, dAnd, dOr, dNot, dTup, dLst, dFn, dIsi, dM1, dApp, dExt, dSl, dDict1, qNo, qSm, oV, oS, aNil, aCons, aRev, bV, bAnd, bOr, bNot, bYes, iAny, iRg1, iRg2, iEnD, cont, conts, frz, valsOf, fn1, fn2, slotL, setL, fAdd_i, fSub_i, fLt_i, fLe_i, fGt_i, fGe_i, fEq_i, fEq_s, fNe_i, fNe_s, fIs_n, fNot_n, fIx_l, fIx_t, fLen_l, fLen_t, fInt_i, fSl_l, fSl_t, fMax_i, fMin_i, fAbs_i, fTup_l, fTup_t, fList_l, fList_t, wipeD, List.getElem?_cons_zero, List.getElem?_cons_succ, List.getElem?_nil, List.set_cons_zero, List.set_cons_succ, List.cons_append, List.nil_append, List.length_cons, List.length_nil, Nat.reduceAdd, Nat.reduceSub, List.replicate_succ, List.replicate_zero, List.take_succ_cons, List.take_zero, Option.bind_some, Option.bind_none, Option.map_some, Option.map_none, Option.some.injEq, Option.isSome_some, exists_eq_left', exists_eq_left, exists_and_left, List.cons.injEq, and_assoc, Sl.val.injEq, PyData.bool.injEq, PyData.int.injEq, PyData.str.injEq, PyData.list.injEq, PyData.tuple.injEq, Opn.v.injEq, true_and, and_true, decide_eq_true_eq, reduceIte, Bool.false_eq_true, if_true, if_false, isStr, Option.any_some, okRes, reduceCtorEq, Zero.zero, Nat.succ_eq_add_one, Nat.reduceLeDiff, ite_true, ite_false, Bool.not_eq_true, decide_eq_false_iff_not]
  refine ite_intro (fun h0 => ?_) (fun h0 => ?_)
  · have e1 := addS (A := P.take s) (B := P.drop (s + 1)) (by omega)
    have e2 := joinS (ys := P.take s ++ P.drop (s + 1)) (by rw [wgt_app]; omega)
    simp (config := { maxSteps := 3000000 }) only [sRaise, dCall, dCallT, argsOf, argOf, slotsOf_s, slotsOf_v, slotsOf_nil, List.nodup_cons, List.nodup_nil, List.not_mem_nil, not_false_eq_true, updE, sSeq, sNext, sIf, sRet, sDrop, sAsg, sPar, sPar3, sBreak, sCont, gN, gSet, gT, gsCons, gsNil, dC, dVar, dOp, dChain, dNeg, dIfE, dAnd, dOr, dNot, dTup, dLst, dFn, dIsi, dM1, dApp, dExt, dSl, dDict1, qNo, qSm, oV, oS, aNil, aCons, aRev, bV, bAnd, bOr, bNot, bYes, iAny, iRg1, iRg2, iEnD, cont, conts, frz, valsOf, fn1, fn2, slotL, setL, fAdd_i, fSub_i, fLt_i, fLe_i, fGt_i, fGe_i, fEq_i, fEq_s, fNe_i, fNe_s, fIs_n, fNot_n, fIx_l, fIx_t, fLen_l, fLen_t, fInt_i, fSl_l, fSl_t, fMax_i, fMin_i, fAbs_i, fTup_l, fTup_t, fList_l, fList_t, wipeD, List.getElem?_cons_zero, List.getElem?_cons_succ, List.getElem?_nil, List.set_cons_zero, List.set_cons_succ, List.cons_append, List.nil_append, List.length_cons, List.length_nil, Nat.reduceAdd, Nat.reduceSub, List.replicate_succ, List.replicate_zero, List.take_succ_cons, List.take_zero, Option.bind_some, Option.bind_none, Option.map_some, Option.map_none, Option.some.injEq, Option.isSome_some, exists_eq_left', exists_eq_left, exists_and_left, List.cons.injEq, and_assoc, Sl.val.injEq, PyData.bool.injEq, PyData.int.injEq, PyData.str.injEq, PyData.list.injEq, PyData.tuple.injEq, Opn.v.injEq, true_and, and_true, decide_eq_true_eq, reduceIte, Bool.false_eq_true, if_true, if_false, isStr, Option.any_some, okRes, reduceCtorEq, Zero.zero, Nat.succ_eq_add_one, Nat.reduceLeDiff, ite_true, ite_false, Bool.not_eq_true, decide_eq_false_iff_not, hs1, to, fr1, e1, e2]
    exact ⟨ioIn_of (by simp [IoF]), q _ _ _ hp3 (Nat.le_trans (join_wgt _) (by rw [wgt_app]; omega))⟩
  refine ite_intro (fun h0 => ?_) (fun h0 => ?_)
  · obtain ⟨m, hm⟩ := cut_mid PyData.str P s (s + 1)
    have c5 := wgt_take m (P.drop s)
    have l5 := wgt_len ((P.drop s).take m)
    have e1 := addS (A := P.take s) (B := (P.drop s).take m) (by omega)
    have e2 := addS (A := P.take s ++ (P.drop s).take m) (B := P.drop s) (by rw [List.length_append]; omega)
    have e3 := joinS (ys := P.take s ++ (P.drop s).take m ++ P.drop s) (by rw [wgt_app, wgt_app]; omega)
    simp (config := { maxSteps := 3000000 }) only [sRaise, dCall, dCallT, argsOf, argOf, slotsOf_s, slotsOf_v, slotsOf_nil, List.nodup_cons, List.nodup_nil, List.not_mem_nil, not_false_eq_true, updE, sSeq, sNext, sIf, sRet, sDrop, sAsg, sPar, sPar3, sBreak, sCont, gN, gSet, gT, gsCons, gsNil, dC, dVar, dOp, dChain, dNeg, dIfE, dAnd, dOr, dNot, dTup, dLst, dFn, dIsi, dM1, dApp, dExt, dSl, dDict1, qNo, qSm, oV, oS, aNil, aCons, aRev, bV, bAnd, bOr, bNot, bYes, iAny, iRg1, iRg2, iEnD, cont, conts, frz, valsOf, fn1, fn2, slotL, setL, fAdd_i, fSub_i, fLt_i, fLe_i, fGt_i, fGe_i, fEq_i, fEq_s, fNe_i, fNe_s, fIs_n, fNot_n, fIx_l, fIx_t, fLen_l, fLen_t, fInt_i, fSl_l, fSl_t, fMax_i, fMin_i, fAbs_i, fTup_l, fTup_t, fList_l, fList_t, wipeD, List.getElem?_cons_zero, List.getElem?_cons_succ, List.getElem?_nil, List.set_cons_zero, List.set_cons_succ, List.cons_append, List.nil_append, List.length_cons, List.length_nil, Nat.reduceAdd, Nat.reduceSub, List.replicate_succ, List.replicate_zero, List.take_succ_cons, List.take_zero, Option.bind_some, Option.bind_none, Option.map_some, Option.map_none, Option.some.injEq, Option.isSome_some, exists_eq_left', exists_eq_left, exists_and_left, List.cons.injEq, and_assoc, Sl.val.injEq, PyData.bool.injEq, PyData.int.injEq, PyData.str.injEq, PyData.list.injEq, PyData.tuple.injEq, Opn.v.injEq, true_and, and_true, decide_eq_true_eq, reduceIte, Bool.false_eq_true, if_true, if_false, isStr, Option.any_some, okRes, reduceCtorEq, Zero.zero, Nat.succ_eq_add_one, Nat.reduceLeDiff, ite_true, ite_false, Bool.not_eq_true, decide_eq_false_iff_not, hs1, to, hm, fr, e1, e2, e3]
    exact ⟨ioIn_of (by simp [IoF]), q _ _ _ hp3 (Nat.le_trans (join_wgt _) (by rw [wgt_app, wgt_app]; omega))⟩
  refine ite_intro (fun h0 => ?_) (fun h0 => ?_)
  · have e1 := addS (A := P.drop s) (B := P.take s) (by omega)
    have e2 := joinS (ys := P.drop s ++ P.take s) (by rw [wgt_app]; omega)
    simp (config := { maxSteps := 3000000 }) only [sRaise, dCall, dCallT, argsOf, argOf, slotsOf_s, slotsOf_v, slotsOf_nil, List.nodup_cons, List.nodup_nil, List.not_mem_nil, not_false_eq_true, updE, sSeq, sNext, sIf, sRet, sDrop, sAsg, sPar, sPar3, sBreak, sCont, gN, gSet, gT, gsCons, gsNil, dC, dVar, dOp, dChain, dNeg, dIfE, dAnd, dOr, dNot, dTup, dLst, dFn, dIsi, dM1, dApp, dExt, dSl, dDict1, qNo, qSm, oV, oS, aNil, aCons, aRev, bV, bAnd, bOr, bNot, bYes, iAny, iRg1, iRg2, iEnD, cont, conts, frz, valsOf, fn1, fn2, slotL, setL, fAdd_i, fSub_i, fLt_i, fLe_i, fGt_i, fGe_i, fEq_i, fEq_s, fNe_i, fNe_s, fIs_n, fNot_n, fIx_l, fIx_t, fLen_l, fLen_t, fInt_i, fSl_l, fSl_t, fMax_i, fMin_i, fAbs_i, fTup_l, fTup_t, fList_l, fList_t, wipeD, List.getElem?_cons_zero, List.getElem?_cons_succ, List.getElem?_nil, List.set_cons_zero, List.set_cons_succ, List.cons_append, List.nil_append, List.length_cons, List.length_nil, Nat.reduceAdd, Nat.reduceSub, List.replicate_succ, List.replicate_zero, List.take_succ_cons, List.take_zero, Option.bind_some, Option.bind_none, Option.map_some, Option.map_none, Option.some.injEq, Option.isSome_some, exists_eq_left', exists_eq_left, exists_and_left, List.cons.injEq, and_assoc, Sl.val.injEq, PyData.bool.injEq, PyData.int.injEq, PyData.str.injEq, PyData.list.injEq, PyData.tuple.injEq, Opn.v.injEq, true_and, and_true, decide_eq_true_eq, reduceIte, Bool.false_eq_true, if_true, if_false, isStr, Option.any_some, okRes, reduceCtorEq, Zero.zero, Nat.succ_eq_add_one, Nat.reduceLeDiff, ite_true, ite_false, Bool.not_eq_true, decide_eq_false_iff_not, to, fr, e1, e2]
    exact ⟨ioIn_of (by simp [IoF]), q _ _ _ hp3 (Nat.le_trans (join_wgt _) (by rw [wgt_app]; omega))⟩
  refine ite_intro (fun h0 => ?_) (fun h0 => ?_)
  · simp (config := { maxSteps := 3000000 }) only [sRaise, dCall, dCallT, argsOf, argOf, slotsOf_s, slotsOf_v, slotsOf_nil, List.nodup_cons, List.nodup_nil, List.not_mem_nil, not_false_eq_true, updE, sSeq, sNext, sIf, sRet, sDrop, sAsg, sPar, sPar3, sBreak, sCont, gN, gSet, gT, gsCons, gsNil, dC, dVar, dOp, dChain, dNeg, dIfE, dAnd, dOr, dNot, dTup, dLst, dFn, dIsi, dM1, dApp, dExt, dSl, dDict1, qNo, qSm, oV, oS, aNil, aCons, aRev, bV, bAnd, bOr, bNot, bYes, iAny, iRg1, iRg2, iEnD, cont, conts, frz, valsOf, fn1, fn2, slotL, setL, fAdd_i, fSub_i, fLt_i, fLe_i, fGt_i, fGe_i, fEq_i, fEq_s, fNe_i, fNe_s, fIs_n, fNot_n, fIx_l, fIx_t, fLen_l, fLen_t, fInt_i, fSl_l, fSl_t, fMax_i, fMin_i, fAbs_i, fTup_l, fTup_t, fList_l, fList_t, wipeD, List.getElem?_cons_zero, List.getElem?_cons_succ, List.getElem?_nil, List.set_cons_zero, List.set_cons_succ, List.cons_append, List.nil_append, List.length_cons, List.length_nil, Nat.reduceAdd, Nat.reduceSub, List.replicate_succ, List.replicate_zero, List.take_succ_cons, List.take_zero, Option.bind_some, Option.bind_none, Option.map_some, Option.map_none, Option.some.injEq, Option.isSome_some, exists_eq_left', exists_eq_left, exists_and_left, List.cons.injEq, and_assoc, Sl.val.injEq, PyData.bool.injEq, PyData.int.injEq, PyData.str.injEq, PyData.list.injEq, PyData.tuple.injEq, Opn.v.injEq, true_and, and_true, decide_eq_true_eq, reduceIte, Bool.false_eq_true, if_true, if_false, isStr, Option.any_some, okRes, reduceCtorEq, Zero.zero, Nat.succ_eq_add_one, Nat.reduceLeDiff, ite_true, ite_false, Bool.not_eq_true, decide_eq_false_iff_not, fSl_s (a := t) (by omega)]
    refine ⟨a3, b3, _, rfl, hp3, by decide, by decide, fun a4 b4 d hp4 hm => ?_⟩
    obtain ⟨z, rfl, hz⟩ := strs_mem (l := [" ", ";", "-", "0", "7", "; ", "a", "+", ".", "\n"]) hm
    have hz2 := short hz (by decide)
    have z1 := cutS_le (w := t) (lo := none) (hi := some (k : Int))
    have z2 := cutS_le (w := t) (lo := some (k : Int)) (hi := none)
    have e1 := fAdd_s (a := cutS t none (some (k : Int))) (b := z) (by omega)
    have e2 := fAdd_s (a := cutS t none (some (k : Int)) ++ z) (b := cutS t (some (k : Int)) none) (by rw [str_app_len]; omega)
    simp (config := { maxSteps := 3000000 }) only [sRaise, dCall, dCallT, argsOf, argOf, slotsOf_s, slotsOf_v, slotsOf_nil, List.nodup_cons, List.nodup_nil, List.not_mem_nil, not_false_eq_true, updE, sSeq, sNext, sIf, sRet, sDrop, sAsg, sPar, sPar3, sBreak, sCont, gN, gSet, gT, gsCons, gsNil, dC, dVar, dOp, dChain, dNeg, dIfE, dAnd, dOr, dNot, dTup, dLst, dFn, dIsi, dM1, dApp, dExt, dSl, dDict1, qNo, qSm, oV, oS, aNil, aCons, aRev, bV, bAnd, bOr, bNot, bYes, iAny, iRg1, iRg2, iEnD, cont, conts, frz, valsOf, fn1, fn2, slotL, setL, fAdd_i, fSub_i, fLt_i, fLe_i, fGt_i, fGe_i, fEq_i, fEq_s, fNe_i, fNe_s, fIs_n, fNot_n, fIx_l, fIx_t, fLen_l, fLen_t, fInt_i, fSl_l, fSl_t, fMax_i, fMin_i, fAbs_i, fTup_l, fTup_t, fList_l, fList_t, wipeD, List.getElem?_cons_zero, List.getElem?_cons_succ, List.getElem?_nil, List.set_cons_zero, List.set_cons_succ, List.cons_append, List.nil_append, List.length_cons, List.length_nil, Nat.reduceAdd, Nat.reduceSub, List.replicate_succ, List.replicate_zero, List.take_succ_cons, List.take_zero, Option.bind_some, Option.bind_none, Option.map_some, Option.map_none, Option.some.injEq, Option.isSome_some, exists_eq_left', exists_eq_left, exists_and_left, List.cons.injEq, and_assoc, Sl.val.injEq, PyData.bool.injEq, PyData.int.injEq, PyData.str.injEq, PyData.list.injEq, PyData.tuple.injEq, Opn.v.injEq, true_and, and_true, decide_eq_true_eq, reduceIte, Bool.false_eq_true, if_true, if_false, isStr, Option.any_some, okRes, reduceCtorEq, Zero.zero, Nat.succ_eq_add_one, Nat.reduceLeDiff, ite_true, ite_false, Bool.not_eq_true, decide_eq_false_iff_not, fSl_s (a := t) (by omega), e1, e2]
    exact ⟨ioIn_of (by simp [IoF]), q _ _ _ hp4 (by rw [str_app_len, str_app_len]; omega)⟩
  refine ite_intro (fun h0 => ?_) (fun h0 => ?_)
  · have z1 := cutS_le (w := t) (lo := none) (hi := some (k : Int))
    have z2 := cutS_le (w := t) (lo := some ((k + 1 : Nat) : Int)) (hi := none)
    simp (config := { maxSteps := 3000000 }) only [sRaise, dCall, dCallT, argsOf, argOf, slotsOf_s, slotsOf_v, slotsOf_nil, List.nodup_cons, List.nodup_nil, List.not_mem_nil, not_false_eq_true, updE, sSeq, sNext, sIf, sRet, sDrop, sAsg, sPar, sPar3, sBreak, sCont, gN, gSet, gT, gsCons, gsNil, dC, dVar, dOp, dChain, dNeg, dIfE, dAnd, dOr, dNot, dTup, dLst, dFn, dIsi, dM1, dApp, dExt, dSl, dDict1, qNo, qSm, oV, oS, aNil, aCons, aRev, bV, bAnd, bOr, bNot, bYes, iAny, iRg1, iRg2, iEnD, cont, conts, frz, valsOf, fn1, fn2, slotL, setL, fAdd_i, fSub_i, fLt_i, fLe_i, fGt_i, fGe_i, fEq_i, fEq_s, fNe_i, fNe_s, fIs_n, fNot_n, fIx_l, fIx_t, fLen_l, fLen_t, fInt_i, fSl_l, fSl_t, fMax_i, fMin_i, fAbs_i, fTup_l, fTup_t, fList_l, fList_t, wipeD, List.getElem?_cons_zero, List.getElem?_cons_succ, List.getElem?_nil, List.set_cons_zero, List.set_cons_succ, List.cons_append, List.nil_append, List.length_cons, List.length_nil, Nat.reduceAdd, Nat.reduceSub, List.replicate_succ, List.replicate_zero, List.take_succ_cons, List.take_zero, Option.bind_some, Option.bind_none, Option.map_some, Option.map_none, Option.some.injEq, Option.isSome_some, exists_eq_left', exists_eq_left, exists_and_left, List.cons.injEq, and_assoc, Sl.val.injEq, PyData.bool.injEq, PyData.int.injEq, PyData.str.injEq, PyData.list.injEq, PyData.tuple.injEq, Opn.v.injEq, true_and, and_true, decide_eq_true_eq, reduceIte, Bool.false_eq_true, if_true, if_false, isStr, Option.any_some, okRes, reduceCtorEq, Zero.zero, Nat.succ_eq_add_one, Nat.reduceLeDiff, ite_true, ite_false, Bool.not_eq_true, decide_eq_false_iff_not, hat1, fSl_s (a := t) (by omega), fAdd_s (a := cutS t none (some (k : Int))) (b := cutS t (some ((k + 1 : Nat) : Int)) none) (by omega)]
    exact ⟨ioIn_of (by simp [IoF]), q _ _ _ hp3 (by rw [str_app_len]; omega)⟩
  refine ite_intro (fun h0 => ?_) (fun h0 => ?_)
  · refine ⟨a3, b3, _, rfl, hp3, by decide, by decide, fun a4 b4 d hp4 hm => ?_⟩
    obtain ⟨z, rfl, hz⟩ := strs_mem (l := ["-0", "00", "07", "1000000000000000001", "-1000000000000000001", "--1", "1-", "", "99999999999999999999"]) hm
    have hz2 := short hz (by decide)
    have e1 := fAdd_s (a := P[s]) (b := " ") (by rw [show (" " : Str).length = 1 from by decide]; omega)
    have e2 := fAdd_s (a := P[s] ++ " ") (b := z) (by rw [str_app_len, show (" " : Str).length = 1 from by decide]; omega)
    obtain ⟨s1, s2, s3, s4⟩ := step (P[s] ++ " " ++ z) (by rw [str_app_len, str_app_len, show (" " : Str).length = 1 from by decide]; omega)
    simp (config := { maxSteps := 3000000 }) only [sRaise, dCall, dCallT, argsOf, argOf, slotsOf_s, slotsOf_v, slotsOf_nil, List.nodup_cons, List.nodup_nil, List.not_mem_nil, not_false_eq_true, updE, sSeq, sNext, sIf, sRet, sDrop, sAsg, sPar, sPar3, sBreak, sCont, gN, gSet, gT, gsCons, gsNil, dC, dVar, dOp, dChain, dNeg, dIfE, dAnd, dOr, dNot, dTup, dLst, dFn, dIsi, dM1, dApp, dExt, dSl, dDict1, qNo, qSm, oV, oS, aNil, aCons, aRev, bV, bAnd, bOr, bNot, bYes, iAny, iRg1, iRg2, iEnD, cont, conts, frz, valsOf, fn1, fn2, slotL, setL, fAdd_i, fSub_i, fLt_i, fLe_i, fGt_i, fGe_i, fEq_i, fEq_s, fNe_i, fNe_s, fIs_n, fNot_n, fIx_l, fIx_t, fLen_l, fLen_t, fInt_i, fSl_l, fSl_t, fMax_i, fMin_i, fAbs_i, fTup_l, fTup_t, fList_l, fList_t, wipeD, List.getElem?_cons_zero, List.getElem?_cons_succ, List.getElem?_nil, List.set_cons_zero, List.set_cons_succ, List.cons_append, List.nil_append, List.length_cons, List.length_nil, Nat.reduceAdd, Nat.reduceSub, List.replicate_succ, List.replicate_zero, List.take_succ_cons, List.take_zero, Option.bind_some, Option.bind_none, Option.map_some, Option.map_none, Option.some.injEq, Option.isSome_some, exists_eq_left', exists_eq_left, exists_and_left, List.cons.injEq, and_assoc, Sl.val.injEq, PyData.bool.injEq, PyData.int.injEq, PyData.str.injEq, PyData.list.injEq, PyData.tuple.injEq, Opn.v.injEq, true_and, and_true, decide_eq_true_eq, reduceIte, Bool.false_eq_true, if_true, if_false, isStr, Option.any_some, okRes, reduceCtorEq, Zero.zero, Nat.succ_eq_add_one, Nat.reduceLeDiff, ite_true, ite_false, Bool.not_eq_true, decide_eq_false_iff_not, hs1, to, fr1, hps, e1, e2, k1, s1, s2, s3]
    exact ⟨ioIn_of (by simp [IoF]), q _ _ _ hp4 s4⟩
  refine ite_intro (fun h0 => ?_) (fun h0 => ?_)
  · simp (config := { maxSteps := 3000000 }) only [sRaise, dCall, dCallT, argsOf, argOf, slotsOf_s, slotsOf_v, slotsOf_nil, List.nodup_cons, List.nodup_nil, List.not_mem_nil, not_false_eq_true, updE, sSeq, sNext, sIf, sRet, sDrop, sAsg, sPar, sPar3, sBreak, sCont, gN, gSet, gT, gsCons, gsNil, dC, dVar, dOp, dChain, dNeg, dIfE, dAnd, dOr, dNot, dTup, dLst, dFn, dIsi, dM1, dApp, dExt, dSl, dDict1, qNo, qSm, oV, oS, aNil, aCons, aRev, bV, bAnd, bOr, bNot, bYes, iAny, iRg1, iRg2, iEnD, cont, conts, frz, valsOf, fn1, fn2, slotL, setL, fAdd_i, fSub_i, fLt_i, fLe_i, fGt_i, fGe_i, fEq_i, fEq_s, fNe_i, fNe_s, fIs_n, fNot_n, fIx_l, fIx_t, fLen_l, fLen_t, fInt_i, fSl_l, fSl_t, fMax_i, fMin_i, fAbs_i, fTup_l, fTup_t, fList_l, fList_t, wipeD, List.getElem?_cons_zero, List.getElem?_cons_succ, List.getElem?_nil, List.set_cons_zero, List.set_cons_succ, List.cons_append, List.nil_append, List.length_cons, List.length_nil, Nat.reduceAdd, Nat.reduceSub, List.replicate_succ, List.replicate_zero, List.take_succ_cons, List.take_zero, Option.bind_some, Option.bind_none, Option.map_some, Option.map_none, Option.some.injEq, Option.isSome_some, exists_eq_left', exists_eq_left, exists_and_left, List.cons.injEq, and_assoc, Sl.val.injEq, PyData.bool.injEq, PyData.int.injEq, PyData.str.injEq, PyData.list.injEq, PyData.tuple.injEq, Opn.v.injEq, true_and, and_true, decide_eq_true_eq, reduceIte, Bool.false_eq_true, if_true, if_false, isStr, Option.any_some, okRes, reduceCtorEq, Zero.zero, Nat.succ_eq_add_one, Nat.reduceLeDiff, ite_true, ite_false, Bool.not_eq_true, decide_eq_false_iff_not, hs1, to, fr1, k1]
    refine ⟨a3, b3, _, rfl, hp3, by decide, by decide, fun a4 b4 d hp4 hm => ?_⟩
    have hd : d = .int ((40 : Nat) : Int) ∨ d = .int ((41 : Nat) : Int) := by simpa using hm
    have fv : ∀ n : Nat, n ≤ 41 → ∃ (L : List Str) (Z : Str), fMul (.list [.str "5"]) (.int (n : Int)) = some (.own (.lst (L.map .str))) ∧ fJoin (.str " ") (.list (L.map .str)) = some (.val (.str Z)) ∧ Z.length ≤ 100 := fun n hn => by
      have hsum : ((List.replicate n ("5" : Str)).map (·.length)).sum + (List.replicate n ("5" : Str)).length * (" " : Str).length ≤ 100 := by
        have : ((List.replicate n ("5" : Str)).map (·.length)).sum ≤ ((List.replicate n ("5" : Str)).map (·.length)).length * 1 := sum_le fun x hx => by
          simp only [List.map_replicate, List.mem_replicate] at hx
          rw [hx.2]; decide
        rw [List.length_map, List.length_replicate] at this
        rw [List.length_replicate, show (" " : Str).length = 1 from by decide]; omega
      refine ⟨List.replicate n "5", _, ?_, fJoin_l (Nat.le_trans hsum (by decide)), Nat.le_trans (join_len _ _) hsum⟩
      rw [fMul_l ⟨by omega, by omega, by simp; omega⟩]
      congr 4
      rw [Int.toNat_natCast, List.map_replicate]
      clear hsum hn
      induction n with
      | zero => rfl
      | succ n ih => rw [List.replicate_succ, List.replicate_succ, List.flatten_cons, ih]; rfl
    rcases hd with rfl | rfl
    · obtain ⟨L, Z, f1, f2, f3⟩ := fv 40 (by decide)
      obtain ⟨s1, s2, s3, s4⟩ := step Z (by omega)
      simp (config := { maxSteps := 3000000 }) only [sRaise, dCall, dCallT, argsOf, argOf, slotsOf_s, slotsOf_v, slotsOf_nil, List.nodup_cons, List.nodup_nil, List.not_mem_nil, not_false_eq_true, updE, sSeq, sNext, sIf, sRet, sDrop, sAsg, sPar, sPar3, sBreak, sCont, gN, gSet, gT, gsCons, gsNil, dC, dVar, dOp, dChain, dNeg, dIfE, dAnd, dOr, dNot, dTup, dLst, dFn, dIsi, dM1, dApp, dExt, dSl, dDict1, qNo, qSm, oV, oS, aNil, aCons, aRev, bV, bAnd, bOr, bNot, bYes, iAny, iRg1, iRg2, iEnD, cont, conts, frz, valsOf, fn1, fn2, slotL, setL, fAdd_i, fSub_i, fLt_i, fLe_i, fGt_i, fGe_i, fEq_i, fEq_s, fNe_i, fNe_s, fIs_n, fNot_n, fIx_l, fIx_t, fLen_l, fLen_t, fInt_i, fSl_l, fSl_t, fMax_i, fMin_i, fAbs_i, fTup_l, fTup_t, fList_l, fList_t, wipeD, List.getElem?_cons_zero, List.getElem?_cons_succ, List.getElem?_nil, List.set_cons_zero, List.set_cons_succ, List.cons_append, List.nil_append, List.length_cons, List.length_nil, Nat.reduceAdd, Nat.reduceSub, List.replicate_succ, List.replicate_zero, List.take_succ_cons, List.take_zero, Option.bind_some, Option.bind_none, Option.map_some, Option.map_none, Option.some.injEq, Option.isSome_some, exists_eq_left', exists_eq_left, exists_and_left, List.cons.injEq, and_assoc, Sl.val.injEq, PyData.bool.injEq, PyData.int.injEq, PyData.str.injEq, PyData.list.injEq, PyData.tuple.injEq, Opn.v.injEq, true_and, and_true, decide_eq_true_eq, reduceIte, Bool.false_eq_true, if_true, if_false, isStr, Option.any_some, okRes, reduceCtorEq, Zero.zero, Nat.succ_eq_add_one, Nat.reduceLeDiff, ite_true, ite_false, Bool.not_eq_true, decide_eq_false_iff_not, hs1, to, fr1, f1, f2, k1, s1, s2, s3]
      exact ⟨ioIn_of (by simp [IoF]), q _ _ _ hp4 s4⟩
    · obtain ⟨L, Z, f1, f2, f3⟩ := fv 41 (by decide)
      obtain ⟨s1, s2, s3, s4⟩ := step Z (by omega)
      simp (config := { maxSteps := 3000000 }) only [sRaise, dCall, dCallT, argsOf, argOf, slotsOf_s, slotsOf_v, slotsOf_nil, List.nodup_cons, List.nodup_nil, List.not_mem_nil, not_false_eq_true, updE, sSeq, sNext, sIf, sRet, sDrop, sAsg, sPar, sPar3, sBreak, sCont, gN, gSet, gT, gsCons, gsNil, dC, dVar, dOp, dChain, dNeg, dIfE, dAnd, dOr, dNot, dTup, dLst, dFn, dIsi, dM1, dApp, dExt, dSl, dDict1, qNo, qSm, oV, oS, aNil, aCons, aRev, bV, bAnd, bOr, bNot, bYes, iAny, iRg1, iRg2, iEnD, cont, conts, frz, valsOf, fn1, fn2, slotL, setL, fAdd_i, fSub_i, fLt_i, fLe_i, fGt_i, fGe_i, fEq_i, fEq_s, fNe_i, fNe_s, fIs_n, fNot_n, fIx_l, fIx_t, fLen_l, fLen_t, fInt_i, fSl_l, fSl_t, fMax_i, fMin_i, fAbs_i, fTup_l, fTup_t, fList_l, fList_t, wipeD, List.getElem?_cons_zero, List.getElem?_cons_succ, List.getElem?_nil, List.set_cons_zero, List.set_cons_succ, List.cons_append, List.nil_append, List.length_cons, List.length_nil, Nat.reduceAdd, Nat.reduceSub, List.replicate_succ, List.replicate_zero, List.take_succ_cons, List.take_zero, Option.bind_some, Option.bind_none, Option.map_some, Option.map_none, Option.some.injEq, Option.isSome_some, exists_eq_left', exists_eq_left, exists_and_left, List.cons.injEq, and_assoc, Sl.val.injEq, PyData.bool.injEq, PyData.int.injEq, PyData.str.injEq, PyData.list.injEq, PyData.tuple.injEq, Opn.v.injEq, true_and, and_true, decide_eq_true_eq, reduceIte, Bool.false_eq_true, if_true, if_false, isStr, Option.any_some, okRes, reduceCtorEq, Zero.zero, Nat.succ_eq_add_one, Nat.reduceLeDiff, ite_true, ite_false, Bool.not_eq_true, decide_eq_false_iff_not, hs1, to, fr1, f1, f2, k1, s1, s2, s3]
      exact ⟨ioIn_of (by simp [IoF]), q _ _ _ hp4 s4⟩
  refine ite_intro (fun h0 => ?_) (fun h0 => ?_)
  · refine ⟨a3, b3, _, rfl, hp3, by decide, by decide, fun a4 b4 d hp4 hm => ?_⟩
    obtain ⟨z, rfl, hz⟩ := strs_mem (l := ["-", "", " ", "- -", "1 -"]) hm
    have hz2 := short hz (by decide)
    obtain ⟨s1, s2, s3, s4⟩ := step z (by omega)
    simp (config := { maxSteps := 3000000 }) only [sRaise, dCall, dCallT, argsOf, argOf, slotsOf_s, slotsOf_v, slotsOf_nil, List.nodup_cons, List.nodup_nil, List.not_mem_nil, not_false_eq_true, updE, sSeq, sNext, sIf, sRet, sDrop, sAsg, sPar, sPar3, sBreak, sCont, gN, gSet, gT, gsCons, gsNil, dC, dVar, dOp, dChain, dNeg, dIfE, dAnd, dOr, dNot, dTup, dLst, dFn, dIsi, dM1, dApp, dExt, dSl, dDict1, qNo, qSm, oV, oS, aNil, aCons, aRev, bV, bAnd, bOr, bNot, bYes, iAny, iRg1, iRg2, iEnD, cont, conts, frz, valsOf, fn1, fn2, slotL, setL, fAdd_i, fSub_i, fLt_i, fLe_i, fGt_i, fGe_i, fEq_i, fEq_s, fNe_i, fNe_s, fIs_n, fNot_n, fIx_l, fIx_t, fLen_l, fLen_t, fInt_i, fSl_l, fSl_t, fMax_i, fMin_i, fAbs_i, fTup_l, fTup_t, fList_l, fList_t, wipeD, List.getElem?_cons_zero, List.getElem?_cons_succ, List.getElem?_nil, List.set_cons_zero, List.set_cons_succ, List.cons_append, List.nil_append, List.length_cons, List.length_nil, Nat.reduceAdd, Nat.reduceSub, List.replicate_succ, List.replicate_zero, List.take_succ_cons, List.take_zero, Option.bind_some, Option.bind_none, Option.map_some, Option.map_none, Option.some.injEq, Option.isSome_some, exists_eq_left', exists_eq_left, exists_and_left, List.cons.injEq, and_assoc, Sl.val.injEq, PyData.bool.injEq, PyData.int.injEq, PyData.str.injEq, PyData.list.injEq, PyData.tuple.injEq, Opn.v.injEq, true_and, and_true, decide_eq_true_eq, reduceIte, Bool.false_eq_true, if_true, if_false, isStr, Option.any_some, okRes, reduceCtorEq, Zero.zero, Nat.succ_eq_add_one, Nat.reduceLeDiff, ite_true, ite_false, Bool.not_eq_true, decide_eq_false_iff_not, hs1, to, fr1, k1, s1, s2, s3]
    exact ⟨ioIn_of (by simp [IoF]), q _ _ _ hp4 s4⟩
  · exact ⟨ioIn_of (by simp [IoF]), q _ _ _ hp3 (by omega)⟩
end K35
namespace K35
open PySem L2 PySem.Spec PyProof.Rows PD PySem.NumText TL
/-! ### what is written is read -/
theorem num_chars {n : Int} {c : Nat} (h : c ∈ tl (numT n)) : c = 45 ∨ (48 ≤ c ∧ c ≤ 57) := by
  by_cases h1 : c = 45
  · exact .inl h1
  · right
    by_cases h2 : 48 ≤ c ∧ c ≤ 57
    · exact h2
    · exact absurd h (int_text_free' c ⟨h1, by omega⟩ n)
theorem joinL_mem {S : List Nat} {c : Nat} : ∀ {ps : List (List Nat)}, c ∈ joinL S ps → c ∈ S ∨ ∃ p ∈ ps, c ∈ p
  | [], h => by simp [joinL] at h
  | [p], h => .inr ⟨p, List.mem_singleton.mpr rfl, h⟩
  | p :: q :: r, h => by
    have h' : c ∈ p ++ (S ++ joinL S (q :: r)) := h
    rcases List.mem_append.mp h' with h' | h'
    · exact .inr ⟨p, List.mem_cons_self .., h'⟩
    · rcases List.mem_append.mp h' with h' | h'
      · exact .inl h'
      · rcases joinL_mem h' with h2 | ⟨x, hx, h2⟩
        · exact .inl h2
        · exact .inr ⟨x, List.mem_cons_of_mem _ hx, h2⟩
theorem join_mem {y : Str} {ps : List Str} {c : Nat} (h : c ∈ tl (Txt.join y ps)) : c ∈ tl y ∨ ∃ p ∈ ps, c ∈ tl p := by
  rw [join_eq, tl_join] at h
  rcases joinL_mem h with h | ⟨x, hx, h⟩
  · exact .inl h
  · obtain ⟨p, hp, rfl⟩ := List.mem_map.mp hx
    exact .inr ⟨p, hp, h⟩
theorem tl_sp : tl (" " : Str) = [32] := by decide
theorem tl_bt : tl ("; " : Str) = [59, 32] := by decide
theorem row_chars {ns : List Int} {c : Nat} (h : c ∈ tl (rowT ns)) : c = 32 ∨ c = 45 ∨ (48 ≤ c ∧ c ≤ 57) := by
  unfold rowT at h
  split at h
  · rcases join_mem h with h | ⟨p, hp, h⟩
    · rw [tl_sp] at h; simp at h; exact .inl h
    · obtain ⟨n, _, rfl⟩ := List.mem_map.mp hp
      exact .inr (num_chars h)
  · rw [tl_minus] at h; simp at h; exact .inr (.inl h)
theorem in_chars {ns : List Int} {rs : List (List Int)} {c : Nat} (h : c ∈ tl (inT ns rs)) : c < 1114112 := by
  unfold inT at h
  rcases join_mem h with h | ⟨p, hp, h⟩
  · rw [tl_bt] at h; simp at h; omega
  · rcases List.mem_cons.mp hp
        with rfl | hp
    · rcases row_chars h with h | h | h <;> omega
    · obtain ⟨r, _, rfl⟩ := List.mem_map.mp hp
      rcases row_chars h with h | h | h <;> omega
theorem in_strOk {ns : List Int} {rs : List (List Int)} : PyData.strOk (inT ns rs) = true := by
  unfold PyData.strOk
  rw [Array.all_eq_true']
  intro c hc
  exact decide_eq_true (in_chars (Array.mem_toList_iff.mpr hc))
theorem num_digit (n : Int) : ∃ c ∈ tl (numT n), c ≠ 45 := by
  rcases Int.lt_or_le n 0 with hn | hn
  · obtain ⟨m, rfl⟩ : ∃ m : Nat, n = -((m + 1 : Nat) : Int) := ⟨(-n).toNat - 1, by omega⟩
    rw [show tl (numT (-((m + 1 : Nat) : Int))) = 45 :: numL (m + 1) from tl_negS m]
    cases e : numL (m + 1) with
    | nil => exact absurd e (numL_ne _)
    | cons c r =>
      have := numL_digits (m + 1) c (by rw [e]; exact List.mem_cons_self ..)
      exact ⟨c, by simp, by omega⟩
  · obtain ⟨m, rfl⟩ : ∃ m : Nat, n = (m : Int) := ⟨n.toNat, by omega⟩
    rw [show tl (numT (m : Int)) = numL m from tl_nat m]
    cases e : numL m with
    | nil => exact absurd e (numL_ne _)
    | cons c r =>
      have := numL_digits m c (by rw [e]; exact List.mem_cons_self ..)
      exact ⟨c, by simp, by omega⟩
theorem joinL_has {S : List Nat} {c : Nat} : ∀ {ps : List (List Nat)} {p : List Nat}, p ∈ ps → c ∈ p → c ∈ joinL S ps
  | [q], p, h, hc => by rw [List.mem_singleton.mp h] at hc; exact hc
  | a :: b :: r, p, h, hc => by
    show c ∈ a ++ (S ++ joinL S (b :: r))
    rcases List.mem_cons.mp h
          with rfl | h
    · exact List.mem_append_left _ hc
    · exact List.mem_append_right _ (List.mem_append_right _ (joinL_has h hc))
theorem row_ne {ns : List Int} (h : 0 < ns.length) : rowT ns ≠ "-" := by
  intro e
  cases ns with
  | nil => simp at h
  | cons n r =>
    obtain ⟨c, hc, hne⟩ := num_digit n
    have : c ∈ tl (rowT (n :: r)) := by
      unfold rowT
      rw [if_pos (by simp), join_eq, tl_join]
      exact joinL_has (List.mem_map_of_mem (List.mem_map_of_mem (List.mem_cons_self ..))) hc
    rw [e, tl_minus] at this
    simp at this
    exact hne this
theorem allS_back (ns : List Int) : allS (ns.map some) = some ns := by
  induction ns with
  | nil => rfl
  | cons n ns ih =>
    show (some n).bind (fun n => (allS (ns.map some)).map (n :: ·)) = _
    rw [ih]; rfl
theorem part_row {ns : List Int} (h : small ns) : partBy readW (rowT ns) = some ns := by
  unfold partBy
  by_cases h0 : 0 < ns.length
  · rw [if_neg (row_ne h0)]
    have e : rowT ns = Txt.join " " (ns.map numT) := if_pos h0
    rw [e, split_join (y := " ") tl_sp sp_all (by intro z; rw [List.map_eq_nil_iff] at z; rw [z] at h0; simp at h0) (fun p hp => by
      obtain ⟨n, _, rfl⟩ := List.mem_map.mp hp
      intro hc
      rcases num_chars hc with h | h <;> omega), List.map_map]
    rw [← allS_back]
    congr 1
    exact List.map_congr_left fun n hn => readW_num (h.2 n hn)
  · have : ns = [] := List.length_eq_zero_iff.mp (by omega)
    subst this
    rfl
theorem scan_rows {n r : Int} : ∀ {rs : List (List Int)} {i : Nat}, 0 < i → (∀ l ∈ rs, small l) → (i : Int) + rs.length ≤ r + 1 → scan (okI readW n r) i (rs.map rowT) = .inr rs
  | [], i, _, _, _ => rfl
  | l :: rs, i, hi, hs, hl => by
    have e : okI readW n r i (rowT l) = some l := by
      unfold okI
      rw [part_row (hs l (List.mem_cons_self ..)), Option.bind_some, if_pos]
      rw [List.length_cons] at hl
      exact ⟨by omega, by rw [if_neg (by omega)]; exact (hs l (List.mem_cons_self ..)).1⟩
    simp only [List.map_cons, scan, e]
    rw [scan_rows (by omega) (fun x hx => hs x (List.mem_cons_of_mem _ hx)) (by rw [List.length_cons] at hl; omega)]
theorem due_back {ns : List Int} {rs : List (List Int)} (h : Good ns rs) : due readW (inT ns rs) ns.length rs.length = .inr (ns :: rs) := by
  have e : Txt.split (inT ns rs) "; " = rowT ns :: rs.map rowT := split_join (y := "; ") tl_bt bt_all (by simp) fun p hp => by
    intro hc
    rcases List.mem_cons.mp hp
          with rfl | hp
    · rcases row_chars hc with h | h | h <;> omega
    · obtain ⟨r, _, rfl⟩ := List.mem_map.mp hp
      rcases row_chars hc with h | h | h <;> omega
  have e0 : okI readW ns.length rs.length 0 (rowT ns) = some ns := by
    unfold okI
    rw [part_row h.2.1, Option.bind_some, if_pos ⟨by omega, by rw [if_pos rfl]⟩]
  unfold due
  rw [e]
  simp only [scan, e0]
  rw [scan_rows (by decide) h.2.2.2 (by omega)]
  show (if (((ns :: rs).length : Nat) : Int) = rs.length + 1 then _ else _) = _
  rw [if_pos (by simp)]
/-! ### the two readings agree -/
theorem due_law (t : Str) (n r : Int) : due lawW t n r = due readW t n r := by
  have : (lawW : Str → Option Int) = readW := funext fun w => (readW_law w).symm
  rw [this]
/-! ### what is shown -/
structure Rk (k L : Nat) (d : PyData) : Prop where
  sh : d.showable = true
  nd : d.hasDict = false
  dp : d.depth ≤ k
  ln : d.shown.length ≤ L
theorem rk_int {n : Int} (h : n.natAbs ≤ 1000000000000000000) : Rk 0 20 (.int n) := ⟨by simp only [PyData.showable]; exact decide_eq_true (log_small h), rfl, Nat.le_refl _, by
  show (numT n).length ≤ 20
  exact numT_len h⟩
theorem rk_all {k L : Nat} : ∀ {ds : List PyData}, (∀ d ∈ ds, Rk k L d) → PyData.showableAll ds = true ∧ PyData.hasDictAll ds = false ∧ PyData.depthAll ds ≤ k ∧ ((PyData.shownAll ds).map (·.length)).sum ≤ ds.length * L ∧ (PyData.shownAll ds).length = ds.length
  | [], h => ⟨rfl, rfl, Nat.zero_le _, by simp [PyData.shownAll], rfl⟩
  | d :: ds, h => by
    obtain ⟨h1, h2, h3, h4, h5⟩ := rk_all fun x hx => h x (List.mem_cons_of_mem _ hx)
    have r := h d (List.mem_cons_self ..)
    have r3 := r.dp
    have r4 := r.ln
    refine ⟨by simp only [PyData.showableAll, r.sh, h1, Bool.and_self], by simp only [PyData.hasDictAll, r.nd, h2, Bool.or_self], by simp only [PyData.depthAll]; omega, ?_, by simp only [PyData.shownAll, List.length_cons, h5]⟩
    simp only [PyData.shownAll, List.map_cons, List.sum_cons, List.length_cons, Nat.succ_mul]
    omega
theorem rk_list {k L M : Nat} {ds : List PyData} (h : ∀ d ∈ ds, Rk k L d) (hl : ds.length * L + 2 * ds.length + 3 ≤ M) : Rk (k + 1) M (.list ds) := by
  obtain ⟨h1, h2, h3, h4, h5⟩ := rk_all h
  refine ⟨by simp only [PyData.showable]; exact h1, by simp only [PyData.hasDict]; exact h2, by simp only [PyData.depth]; omega, ?_⟩
  have := listText_len_le (PyData.shownAll ds)
  simp only [PyData.shown]
  rw [h5] at this
  omega
theorem rk_tup {k L M : Nat} {ds : List PyData} (h : ∀ d ∈ ds, Rk k L d) (hl : ds.length * L + 2 * ds.length + 3 ≤ M) : Rk (k + 1) M (.tuple ds) := by
  obtain ⟨h1, h2, h3, h4, h5⟩ := rk_all h
  refine ⟨by simp only [PyData.showable]; exact h1, by simp only [PyData.hasDict]; exact h2, by simp only [PyData.depth]; omega, ?_⟩
  have := tupleText_len_le (PyData.shownAll ds)
  simp only [PyData.shown]
  rw [h5] at this
  omega
theorem Rk.mono {k L k' L' : Nat} {d : PyData} (h : Rk k L d) (hk : k ≤ k') (hL : L ≤ L') : Rk k' L' d := ⟨h.sh, h.nd, Nat.le_trans h.dp hk, Nat.le_trans h.ln hL⟩
theorem Rk.fRepr {k L : Nat} {d : PyData} (h : Rk k L d) (hs : (seqOf d).isSome = true) (hk : k ≤ 60) (hL : L ≤ 16777216) : fRepr d = some (.val (.str d.shown)) := if_pos ⟨hs, h.sh, h.nd, Nat.le_trans h.dp hk, Nat.le_trans h.ln hL⟩
theorem rk_ints {ns : List Int} (h : small ns) : ∀ d ∈ iDs ns, Rk 0 20 d := fun d hd => by
  obtain ⟨n, hn, rfl⟩ := List.mem_map.mp hd
  exact rk_int (h.2 n hn)
theorem rk_rowT {ns : List Int} (h : small ns) : Rk 1 900 (.tuple (iDs ns)) := rk_tup (rk_ints h) (by rw [iDs_len]; have := h.1; omega)
theorem rk_rowL {ns : List Int} (h : small ns) : Rk 1 900 (.list (iDs ns)) := rk_list (rk_ints h) (by rw [iDs_len]; have := h.1; omega)
theorem rk_inD {ns : List Int} {rs : List (List Int)} (h1 : small ns) (h2 : rs.length ≤ 10) (h3 : ∀ r ∈ rs, small r) : Rk 3 30000 (inD ns rs) := by
  refine rk_tup (k := 2) (L := 10000) (fun d hd => ?_) (by simp)
  simp only [List.mem_cons, List.not_mem_nil, or_false] at hd
  rcases hd with rfl | rfl
  · exact (rk_rowT h1).mono (by decide) (by decide)
  · refine rk_tup (k := 1) (L := 900) (fun x hx => ?_) (by rw [List.length_map]; omega)
    obtain ⟨r, hr, rfl⟩ := List.mem_map.mp hx
    exact rk_rowT (h3 r hr)
theorem rk_inL {ns : List Int} {rs : List (List Int)} (h1 : small ns) (h2 : rs.length ≤ 10) (h3 : ∀ r ∈ rs, small r) : Rk 3 30000 (inL ns rs) := by
  refine rk_tup (k := 2) (L := 10000) (fun d hd => ?_) (by simp)
  simp only [List.mem_cons, List.not_mem_nil, or_false] at hd
  rcases hd with rfl | rfl
  · exact (rk_rowL h1).mono (by decide) (by decide)
  · refine rk_list (k := 1) (L := 900) (fun x hx => ?_) (by rw [List.length_map]; omega)
    obtain ⟨r, hr, rfl⟩ := List.mem_map.mp hx
    exact rk_rowL (h3 r hr)
theorem rk_two {d : PyData} (h : Rk 3 30000 d) : Rk 4 70000 (.list [d, d]) := rk_list (fun x hx => by simp only [List.mem_cons, List.not_mem_nil, or_false, or_self] at hx; rw [hx]; exact h) (by simp)
theorem rk_str (z : Str) (h : (reprText z).length ≤ 20) : Rk 0 20 (.str z) := ⟨rfl, rfl, Nat.le_refl _, h⟩
end K35
namespace K35
open PySem L2 PySem.Spec PyProof.Rows PD PySem.NumText TL
theorem readW_small {w : Str} {n : Int} (h : readW w = some n) : n.natAbs ≤ 1000000000000000000 := by
  unfold readW at h
  split at h
  · rw [Option.bind_eq_some_iff] at h
    obtain ⟨m, _, h⟩ := h
    split at h
    · rename_i hc; cases h; exact hc.2
    · cases h
  · cases h
theorem allS_mem {l : List (Option Int)} {ns : List Int} (h : allS l = some ns) : ∀ n ∈ ns, some n ∈ l := by
  induction l generalizing ns with
  | nil => cases h; simp
  | cons o l ih =>
    have h' : (o.bind fun n => (allS l).map (n :: ·)) = some ns := h
    rw [Option.bind_eq_some_iff] at h'
    obtain ⟨m, rfl, h'⟩ := h'
    rw [Option.map_eq_some_iff] at h'
    obtain ⟨ms, h2, rfl⟩ := h'
    intro n hn
    rcases List.mem_cons.mp hn with rfl | hn
    · exact List.mem_cons_self ..
    · exact List.mem_cons_of_mem _ (ih h2 n hn)
theorem okI_small {n r : Int} {i : Nat} {p : Str} {l : List Int} (hn : n ≤ 40) (h : okI readW n r i p = some l) : small l := by
  unfold okI at h
  rw [Option.bind_eq_some_iff] at h
  obtain ⟨m, h1, h⟩ := h
  by_cases hc : (i : Int) ≤ r ∧ (if i = 0 then (m.length : Int) = n else m.length ≤ 40)
  · rw [if_pos hc] at h
    cases h
    refine ⟨?_, fun x hx => ?_⟩
    · have := hc.2
      split at this <;> omega
    · unfold partBy at h1
      split at h1
      · cases h1; simp at hx
      · have := allS_mem h1 x hx
        obtain ⟨w, _, hw⟩ := List.mem_map.mp this
        exact readW_small hw
  · rw [if_neg hc] at h; cases h
theorem scan_small {n r : Int} (hn : n ≤ 40) : ∀ {P : List Str} {i : Nat} {ls : List (List Int)}, scan (okI readW n r) i P = .inr ls → ∀ l ∈ ls, small l
  | [], i, ls, h => by simp [scan] at h; subst h; simp
  | p :: P, i, ls, h => by
    simp only [scan] at h
    split at h
    · cases h
    · rename_i l hl
      split at h
      · cases h
      · rename_i ms hms
        cases h
        intro x hx
        rcases List.mem_cons.mp hx
              with rfl | hx
        · exact okI_small hn hl
        · exact scan_small hn hms x hx
theorem scan_bad {f : Nat → Str → Option (List Int)} : ∀ {P : List Str} {i j : Nat}, scan f i P = .inl j → j < i + P.length
  | [], i, j, h => by simp [scan] at h
  | p :: P, i, j, h => by
    simp only [scan] at h
    split at h
    · cases h; simp
    · split at h
      · rename_i hms; cases h; have := scan_bad hms; simp at this ⊢; omega
      · cases h
theorem scan_len {f : Nat → Str → Option (List Int)} : ∀ {P : List Str} {i : Nat} {ls : List (List Int)}, scan f i P = .inr ls → ls.length = P.length
  | [], i, ls, h => by simp [scan] at h; subst h; rfl
  | p :: P, i, ls, h => by
    simp only [scan] at h
    split at h
    · cases h
    · split at h
      · cases h
      · rename_i hms; cases h; simp [scan_len hms]
theorem told_rk {t : Str} {n r : Int} (ht : t.length ≤ 10000) (hn : n ≤ 40) (hr0 : 0 ≤ r) (hr : r ≤ 9) : Rk 4 70000 (toldD (due readW t n r)) := by
  have hP := split_len (a := t) bt_ne bt_all
  have badR : ∀ i : Nat, i ≤ 20000 → Rk 4 70000 (toldD (.inl i)) := fun i hi => by
    refine (rk_list (k := 0) (L := 20) (M := 100) (fun d hd => ?_) (by simp)).mono (by decide) (by decide)
    simp only [List.mem_cons, List.not_mem_nil, or_false] at hd
    rcases hd with rfl | rfl
    · exact rk_str _ (by decide +kernel)
    · exact rk_int (by omega)
  unfold due
  cases h : scan (okI readW n r) 0 (Txt.split t "; ") with
  | inl i =>
    have := scan_bad h
    exact badR i (by omega)
  | inr ls =>
    have hl := scan_len h
    have hs := scan_small hn h
    show Rk 4 70000 (toldD (if (ls.length : Int) = r + 1 then .inr ls else .inl ls.length))
    by_cases h1 : (ls.length : Int) = r + 1
    · rw [if_pos h1]
      refine rk_list (k := 3) (L := 30000) (fun d hd => ?_) (by simp)
      simp only [List.mem_cons, List.not_mem_nil, or_false] at hd
      rcases hd with rfl | rfl
      · exact (rk_str _ (by decide +kernel)).mono (by decide) (by decide)
      · cases ls with
        | nil => simp at h1; omega
        | cons a ls =>
          exact rk_inD (ns := a) (rs := ls) (hs a (List.mem_cons_self ..)) (by rw [List.length_cons] at h1; omega) fun x hx => hs x (List.mem_cons_of_mem _ hx)
    · rw [if_neg h1]
      exact badR _ (by omega)
theorem told_seq (x : Nat ⊕ List (List Int)) : (seqOf (toldD x)).isSome = true := by cases x <;> rfl
def toL : PyData → PyData
  | .tuple ds => .list ds
  | d => d
theorem canLay_two {x : Str} (h : PyData.strOk x = true) : SeqAt.shaped (.list [.str x, .str x]) = true := by
  unfold SeqAt.shaped
  rw [Bool.and_eq_true]
  exact ⟨by simp [PyData.canLay0, PyData.canLayAll0, h], by simp [PyData.depth, PyData.depthAll]⟩
theorem eqv_two {x : Str} (h : PyData.strOk x = true) : PyData.eqv (.list [.str x, .str x]) (.list [.str x, .str x]) = true := by simp [PyData.eqv, PyData.eqvAll]
theorem bad_shaped : SeqAt.shaped (.list [.str "bad", .none]) = true := by decide +kernel
theorem bad_eq : fEq (.list [.str "bad", .none]) (.list [.str "bad", .none]) = some (.val (.bool true)) := by
  rw [fEq_l bad_shaped bad_shaped]
  simp [PyData.eqv, PyData.eqvAll]
theorem odd_not {d : PyData} (h : d ∈ [PyData.none, .int 7, .bool true, .tuple [], .list [.str "1"], .tuple [.str "1 2"], .dict [(.str "a", .int 1)]]) : isS d = false := by
  simp only [List.mem_cons, List.not_mem_nil, or_false] at h
  rcases h with rfl | rfl | rfl | rfl | rfl | rfl | rfl <;> rfl
theorem frz_cases {s : Sl} {d : PyData} (h : frz s = some d) : s = .val d ∨ ∃ ds, s = .own (.lst ds) ∧ d = .list ds := by
  cases s with
  | un => cases h
  | val d' => cases h; exact .inl rfl
  | own m =>
    cases m with
    | lst ds => cases h; exact .inr ⟨ds, rfl, rfl⟩
  | io j m => cases h
theorem three_mem {d : PyData} (h : d ∈ [PyData.int 0, .int 1, .int (-1)]) : ∃ n : Int, d = .int n ∧ -1 ≤ n ∧ n ≤ 1 := by
  simp only [List.mem_cons, List.not_mem_nil, or_false] at h
  rcases h with rfl | rfl | rfl <;> exact ⟨_, rfl, by decide, by decide⟩
def bnd (i : Nat) : Nat := 3600 * 2 ^ i - 200
theorem bnd_ge (i : Nat) : 3400 ≤ bnd i := by
  have : 1 ≤ 2 ^ i := Nat.one_le_two_pow
  unfold bnd; omega
theorem bnd_up (i : Nat) : 2 * bnd i + 200 ≤ bnd (i + 1) := by
  have : 1 ≤ 2 ^ i := Nat.one_le_two_pow
  unfold bnd; rw [Nat.pow_succ]; omega
theorem bnd_le {i : Nat} (h : i ≤ 8) : bnd i ≤ 3000000 := by
  have : 2 ^ i ≤ 2 ^ 8 := Nat.pow_le_pow_right (by decide) h
  unfold bnd; omega
theorem data__law_right {C : Addr} {as : List Sl} {Q : Sl → List Sl → Prop} {X : XD} (h : sp__law_right as Q X) : sd__law_right C { nx := fun e => IoIn as e ∧ Q (.val .none) (e.take 1), rt := fun s e => okRes s ∧ IoIn as e ∧ Q s (e.take 1), ex := fun C f d e => IoIn as e ∧ X C f d (e.take 1) } (as ++ List.replicate (13 - as.length) .un) := by
  obtain ⟨a, b, rfl, hp, q⟩ := h
  unfold sd__law_right
  simp (config := { maxSteps := 3000000 }) only [sRaise, dCall, dCallT, argsOf, argOf, slotsOf_s, slotsOf_v, slotsOf_nil, List.nodup_cons, List.nodup_nil, List.not_mem_nil, not_false_eq_true, updE, sSeq, sNext, sIf, sRet, sDrop, sAsg, sPar, sPar3, sBreak, sCont, gN, gSet, gT, gsCons, gsNil, dC, dVar, dOp, dChain, dNeg, dIfE, dAnd, dOr, dNot, dTup, dLst, dFn, dIsi, dM1, dApp, dExt, dSl, dDict1, qNo, qSm, oV, oS, aNil, aCons, aRev, bV, bAnd, bOr, bNot, bYes, iAny, iRg1, iRg2, iEnD, cont, conts, frz, valsOf, fn1, fn2, slotL, setL, fAdd_i, fSub_i, fLt_i, fLe_i, fGt_i, fGe_i, fEq_i, fEq_s, fNe_i, fNe_s, fIs_n, fNot_n, fIx_l, fIx_t, fLen_l, fLen_t, fInt_i, fSl_l, fSl_t, fMax_i, fMin_i, fAbs_i, fTup_l, fTup_t, fList_l, fList_t, wipeD, List.getElem?_cons_zero, List.getElem?_cons_succ, List.getElem?_nil, List.set_cons_zero, List.set_cons_succ, List.cons_append, List.nil_append, List.length_cons, List.length_nil, Nat.reduceAdd, Nat.reduceSub, List.replicate_succ, List.replicate_zero, List.take_succ_cons, List.take_zero, List.reverse_cons, List.reverse_nil, Bool.not_true, Bool.not_false, decide_true, eq_self, Option.bind_some, Option.bind_none, Option.map_some, Option.map_none, Option.some.injEq, Option.isSome_some, exists_eq_left', exists_eq_left, exists_and_left, List.cons.injEq, and_assoc, Sl.val.injEq, PyData.bool.injEq, PyData.int.injEq, PyData.str.injEq, PyData.list.injEq, PyData.tuple.injEq, Opn.v.injEq, true_and, and_true, decide_eq_true_eq, reduceIte, Bool.false_eq_true, if_true, if_false, isStr, Option.any_some, okRes, reduceCtorEq, Zero.zero, Nat.succ_eq_add_one, Nat.reduceLeDiff, ite_true, ite_false, Bool.not_eq_true, decide_eq_false_iff_not]
  refine ⟨a, b, rfl, hp, fun a1 b1 ns rs hp1 hg => ?_⟩
  have hgl := inT_len hg
  have hns := hg.1
  have hrs := hg.2.2.1
  unfold inD
  simp (config := { maxSteps := 3000000 }) only [sRaise, dCall, dCallT, argsOf, argOf, slotsOf_s, slotsOf_v, slotsOf_nil, List.nodup_cons, List.nodup_nil, List.not_mem_nil, not_false_eq_true, updE, sSeq, sNext, sIf, sRet, sDrop, sAsg, sPar, sPar3, sBreak, sCont, gN, gSet, gT, gsCons, gsNil, dC, dVar, dOp, dChain, dNeg, dIfE, dAnd, dOr, dNot, dTup, dLst, dFn, dIsi, dM1, dApp, dExt, dSl, dDict1, qNo, qSm, oV, oS, aNil, aCons, aRev, bV, bAnd, bOr, bNot, bYes, iAny, iRg1, iRg2, iEnD, cont, conts, frz, valsOf, fn1, fn2, slotL, setL, fAdd_i, fSub_i, fLt_i, fLe_i, fGt_i, fGe_i, fEq_i, fEq_s, fNe_i, fNe_s, fIs_n, fNot_n, fIx_l, fIx_t, fLen_l, fLen_t, fInt_i, fSl_l, fSl_t, fMax_i, fMin_i, fAbs_i, fTup_l, fTup_t, fList_l, fList_t, wipeD, List.getElem?_cons_zero, List.getElem?_cons_succ, List.getElem?_nil, List.set_cons_zero, List.set_cons_succ, List.cons_append, List.nil_append, List.length_cons, List.length_nil, Nat.reduceAdd, Nat.reduceSub, List.replicate_succ, List.replicate_zero, List.take_succ_cons, List.take_zero, List.reverse_cons, List.reverse_nil, Bool.not_true, Bool.not_false, decide_true, eq_self, Option.bind_some, Option.bind_none, Option.map_some, Option.map_none, Option.some.injEq, Option.isSome_some, exists_eq_left', exists_eq_left, exists_and_left, List.cons.injEq, and_assoc, Sl.val.injEq, PyData.bool.injEq, PyData.int.injEq, PyData.str.injEq, PyData.list.injEq, PyData.tuple.injEq, Opn.v.injEq, true_and, and_true, decide_eq_true_eq, reduceIte, Bool.false_eq_true, if_true, if_false, isStr, Option.any_some, okRes, reduceCtorEq, Zero.zero, Nat.succ_eq_add_one, Nat.reduceLeDiff, ite_true, ite_false, Bool.not_eq_true, decide_eq_false_iff_not]
  refine ⟨ns, rs, rfl, hg, ?_⟩
  simp (config := { maxSteps := 3000000 }) only [sRaise, dCall, dCallT, argsOf, argOf, slotsOf_s, slotsOf_v, slotsOf_nil, List.nodup_cons, List.nodup_nil, List.not_mem_nil, not_false_eq_true, updE, sSeq, sNext, sIf, sRet, sDrop, sAsg, sPar, sPar3, sBreak, sCont, gN, gSet, gT, gsCons, gsNil, dC, dVar, dOp, dChain, dNeg, dIfE, dAnd, dOr, dNot, dTup, dLst, dFn, dIsi, dM1, dApp, dExt, dSl, dDict1, qNo, qSm, oV, oS, aNil, aCons, aRev, bV, bAnd, bOr, bNot, bYes, iAny, iRg1, iRg2, iEnD, cont, conts, frz, valsOf, fn1, fn2, slotL, setL, fAdd_i, fSub_i, fLt_i, fLe_i, fGt_i, fGe_i, fEq_i, fEq_s, fNe_i, fNe_s, fIs_n, fNot_n, fIx_l, fIx_t, fLen_l, fLen_t, fInt_i, fSl_l, fSl_t, fMax_i, fMin_i, fAbs_i, fTup_l, fTup_t, fList_l, fList_t, wipeD, List.getElem?_cons_zero, List.getElem?_cons_succ, List.getElem?_nil, List.set_cons_zero, List.set_cons_succ, List.cons_append, List.nil_append, List.length_cons, List.length_nil, Nat.reduceAdd, Nat.reduceSub, List.replicate_succ, List.replicate_zero, List.take_succ_cons, List.take_zero, List.reverse_cons, List.reverse_nil, Bool.not_true, Bool.not_false, decide_true, eq_self, Option.bind_some, Option.bind_none, Option.map_some, Option.map_none, Option.some.injEq, Option.isSome_some, exists_eq_left', exists_eq_left, exists_and_left, List.cons.injEq, and_assoc, Sl.val.injEq, PyData.bool.injEq, PyData.int.injEq, PyData.str.injEq, PyData.list.injEq, PyData.tuple.injEq, Opn.v.injEq, true_and, and_true, decide_eq_true_eq, reduceIte, Bool.false_eq_true, if_true, if_false, isStr, Option.any_some, okRes, reduceCtorEq, Zero.zero, Nat.succ_eq_add_one, Nat.reduceLeDiff, ite_true, ite_false, Bool.not_eq_true, decide_eq_false_iff_not, x0, x1, iDs_len, List.length_map]
  refine lc_gen (rs.map tupD) toL [potS a1 b1, .val (.tuple [.tuple (iDs ns), .tuple (rs.map tupD)]), .val (.str (inT ns rs)), .val (.int ns.length), .val (.int rs.length), .un, .un, .un, .un, .un, .un, .un, .un] (fun R hR => ?_) (fun x hx R hR => ?_) ?_
  · have wt : walkOf (.tuple (rs.map tupD)) = some (rs.map tupD) := walk_t (by rw [List.length_map]; omega)
    have wt2 : walkOf (.tuple (rs.map fun r => PyData.tuple (iDs r))) = some (rs.map tupD) := wt
    simp (config := { maxSteps := 3000000 }) only [sRaise, dCall, dCallT, argsOf, argOf, slotsOf_s, slotsOf_v, slotsOf_nil, List.nodup_cons, List.nodup_nil, List.not_mem_nil, not_false_eq_true, updE, sSeq, sNext, sIf, sRet, sDrop, sAsg, sPar, sPar3, sBreak, sCont, gN, gSet, gT, gsCons, gsNil, dC, dVar, dOp, dChain, dNeg, dIfE, dAnd, dOr, dNot, dTup, dLst, dFn, dIsi, dM1, dApp, dExt, dSl, dDict1, qNo, qSm, oV, oS, aNil, aCons, aRev, bV, bAnd, bOr, bNot, bYes, iAny, iRg1, iRg2, iEnD, cont, conts, frz, valsOf, fn1, fn2, slotL, setL, fAdd_i, fSub_i, fLt_i, fLe_i, fGt_i, fGe_i, fEq_i, fEq_s, fNe_i, fNe_s, fIs_n, fNot_n, fIx_l, fIx_t, fLen_l, fLen_t, fInt_i, fSl_l, fSl_t, fMax_i, fMin_i, fAbs_i, fTup_l, fTup_t, fList_l, fList_t, wipeD, List.getElem?_cons_zero, List.getElem?_cons_succ, List.getElem?_nil, List.set_cons_zero, List.set_cons_succ, List.cons_append, List.nil_append, List.length_cons, List.length_nil, Nat.reduceAdd, Nat.reduceSub, List.replicate_succ, List.replicate_zero, List.take_succ_cons, List.take_zero, List.reverse_cons, List.reverse_nil, Bool.not_true, Bool.not_false, decide_true, eq_self, Option.bind_some, Option.bind_none, Option.map_some, Option.map_none, Option.some.injEq, Option.isSome_some, exists_eq_left', exists_eq_left, exists_and_left, List.cons.injEq, and_assoc, Sl.val.injEq, PyData.bool.injEq, PyData.int.injEq, PyData.str.injEq, PyData.list.injEq, PyData.tuple.injEq, Opn.v.injEq, true_and, and_true, decide_eq_true_eq, reduceIte, Bool.false_eq_true, if_true, if_false, isStr, Option.any_some, okRes, reduceCtorEq, Zero.zero, Nat.succ_eq_add_one, Nat.reduceLeDiff, ite_true, ite_false, Bool.not_eq_true, decide_eq_false_iff_not, x1, wt2]
    exact hR
  · obtain ⟨r, hr, rfl⟩ := List.mem_map.mp hx
    unfold tupD
    simp (config := { maxSteps := 3000000 }) only [sRaise, dCall, dCallT, argsOf, argOf, slotsOf_s, slotsOf_v, slotsOf_nil, List.nodup_cons, List.nodup_nil, List.not_mem_nil, not_false_eq_true, updE, sSeq, sNext, sIf, sRet, sDrop, sAsg, sPar, sPar3, sBreak, sCont, gN, gSet, gT, gsCons, gsNil, dC, dVar, dOp, dChain, dNeg, dIfE, dAnd, dOr, dNot, dTup, dLst, dFn, dIsi, dM1, dApp, dExt, dSl, dDict1, qNo, qSm, oV, oS, aNil, aCons, aRev, bV, bAnd, bOr, bNot, bYes, iAny, iRg1, iRg2, iEnD, cont, conts, frz, valsOf, fn1, fn2, slotL, setL, fAdd_i, fSub_i, fLt_i, fLe_i, fGt_i, fGe_i, fEq_i, fEq_s, fNe_i, fNe_s, fIs_n, fNot_n, fIx_l, fIx_t, fLen_l, fLen_t, fInt_i, fSl_l, fSl_t, fMax_i, fMin_i, fAbs_i, fTup_l, fTup_t, fList_l, fList_t, wipeD, List.getElem?_cons_zero, List.getElem?_cons_succ, List.getElem?_nil, List.set_cons_zero, List.set_cons_succ, List.cons_append, List.nil_append, List.length_cons, List.length_nil, Nat.reduceAdd, Nat.reduceSub, List.replicate_succ, List.replicate_zero, List.take_succ_cons, List.take_zero, List.reverse_cons, List.reverse_nil, Bool.not_true, Bool.not_false, decide_true, eq_self, Option.bind_some, Option.bind_none, Option.map_some, Option.map_none, Option.some.injEq, Option.isSome_some, exists_eq_left', exists_eq_left, exists_and_left, List.cons.injEq, and_assoc, Sl.val.injEq, PyData.bool.injEq, PyData.int.injEq, PyData.str.injEq, PyData.list.injEq, PyData.tuple.injEq, Opn.v.injEq, true_and, and_true, decide_eq_true_eq, reduceIte, Bool.false_eq_true, if_true, if_false, isStr, Option.any_some, okRes, reduceCtorEq, Zero.zero, Nat.succ_eq_add_one, Nat.reduceLeDiff, ite_true, ite_false, Bool.not_eq_true, decide_eq_false_iff_not]
    exact hR _ rfl
  · have eL : (rs.map tupD).map toL = rs.map fun r => .list (iDs r) := by rw [List.map_map]; rfl
    rw [eL]
    have hL : PyData.tuple [.list (iDs ns), .list (rs.map fun r => .list (iDs r))] = inL ns rs := rfl
    have rL := (rk_inL hg.2.1 (by omega) hg.2.2.2).fRepr rfl (by decide) (by decide)
    rw [← hL] at rL
    simp (config := { maxSteps := 3000000 }) only [sRaise, dCall, dCallT, argsOf, argOf, slotsOf_s, slotsOf_v, slotsOf_nil, List.nodup_cons, List.nodup_nil, List.not_mem_nil, not_false_eq_true, updE, sSeq, sNext, sIf, sRet, sDrop, sAsg, sPar, sPar3, sBreak, sCont, gN, gSet, gT, gsCons, gsNil, dC, dVar, dOp, dChain, dNeg, dIfE, dAnd, dOr, dNot, dTup, dLst, dFn, dIsi, dM1, dApp, dExt, dSl, dDict1, qNo, qSm, oV, oS, aNil, aCons, aRev, bV, bAnd, bOr, bNot, bYes, iAny, iRg1, iRg2, iEnD, cont, conts, frz, valsOf, fn1, fn2, slotL, setL, fAdd_i, fSub_i, fLt_i, fLe_i, fGt_i, fGe_i, fEq_i, fEq_s, fNe_i, fNe_s, fIs_n, fNot_n, fIx_l, fIx_t, fLen_l, fLen_t, fInt_i, fSl_l, fSl_t, fMax_i, fMin_i, fAbs_i, fTup_l, fTup_t, fList_l, fList_t, wipeD, List.getElem?_cons_zero, List.getElem?_cons_succ, List.getElem?_nil, List.set_cons_zero, List.set_cons_succ, List.cons_append, List.nil_append, List.length_cons, List.length_nil, Nat.reduceAdd, Nat.reduceSub, List.replicate_succ, List.replicate_zero, List.take_succ_cons, List.take_zero, List.reverse_cons, List.reverse_nil, Bool.not_true, Bool.not_false, decide_true, eq_self, Option.bind_some, Option.bind_none, Option.map_some, Option.map_none, Option.some.injEq, Option.isSome_some, exists_eq_left', exists_eq_left, exists_and_left, List.cons.injEq, and_assoc, Sl.val.injEq, PyData.bool.injEq, PyData.int.injEq, PyData.str.injEq, PyData.list.injEq, PyData.tuple.injEq, Opn.v.injEq, true_and, and_true, decide_eq_true_eq, reduceIte, Bool.false_eq_true, if_true, if_false, isStr, Option.any_some, okRes, reduceCtorEq, Zero.zero, Nat.succ_eq_add_one, Nat.reduceLeDiff, ite_true, ite_false, Bool.not_eq_true, decide_eq_false_iff_not, k2, rL]
    refine ⟨ns, rs, _, rfl, .inl rfl, hg, ?_⟩
    simp (config := { maxSteps := 3000000 }) only [sRaise, dCall, dCallT, argsOf, argOf, slotsOf_s, slotsOf_v, slotsOf_nil, List.nodup_cons, List.nodup_nil, List.not_mem_nil, not_false_eq_true, updE, sSeq, sNext, sIf, sRet, sDrop, sAsg, sPar, sPar3, sBreak, sCont, gN, gSet, gT, gsCons, gsNil, dC, dVar, dOp, dChain, dNeg, dIfE, dAnd, dOr, dNot, dTup, dLst, dFn, dIsi, dM1, dApp, dExt, dSl, dDict1, qNo, qSm, oV, oS, aNil, aCons, aRev, bV, bAnd, bOr, bNot, bYes, iAny, iRg1, iRg2, iEnD, cont, conts, frz, valsOf, fn1, fn2, slotL, setL, fAdd_i, fSub_i, fLt_i, fLe_i, fGt_i, fGe_i, fEq_i, fEq_s, fNe_i, fNe_s, fIs_n, fNot_n, fIx_l, fIx_t, fLen_l, fLen_t, fInt_i, fSl_l, fSl_t, fMax_i, fMin_i, fAbs_i, fTup_l, fTup_t, fList_l, fList_t, wipeD, List.getElem?_cons_zero, List.getElem?_cons_succ, List.getElem?_nil, List.set_cons_zero, List.set_cons_succ, List.cons_append, List.nil_append, List.length_cons, List.length_nil, Nat.reduceAdd, Nat.reduceSub, List.replicate_succ, List.replicate_zero, List.take_succ_cons, List.take_zero, List.reverse_cons, List.reverse_nil, Bool.not_true, Bool.not_false, decide_true, eq_self, Option.bind_some, Option.bind_none, Option.map_some, Option.map_none, Option.some.injEq, Option.isSome_some, exists_eq_left', exists_eq_left, exists_and_left, List.cons.injEq, and_assoc, Sl.val.injEq, PyData.bool.injEq, PyData.int.injEq, PyData.str.injEq, PyData.list.injEq, PyData.tuple.injEq, Opn.v.injEq, true_and, and_true, decide_eq_true_eq, reduceIte, Bool.false_eq_true, if_true, if_false, isStr, Option.any_some, okRes, reduceCtorEq, Zero.zero, Nat.succ_eq_add_one, Nat.reduceLeDiff, ite_true, ite_false, Bool.not_eq_true, decide_eq_false_iff_not, k2, rL]
    refine ⟨ns, rs, _, rfl, .inr rfl, hg, ?_⟩
    have ok := in_strOk (ns := ns) (rs := rs)
    have f1 := fNe_l (canLay_two ok) (canLay_two ok)
    rw [eqv_two ok] at f1
    simp (config := { maxSteps := 3000000 }) only [sRaise, dCall, dCallT, argsOf, argOf, slotsOf_s, slotsOf_v, slotsOf_nil, List.nodup_cons, List.nodup_nil, List.not_mem_nil, not_false_eq_true, updE, sSeq, sNext, sIf, sRet, sDrop, sAsg, sPar, sPar3, sBreak, sCont, gN, gSet, gT, gsCons, gsNil, dC, dVar, dOp, dChain, dNeg, dIfE, dAnd, dOr, dNot, dTup, dLst, dFn, dIsi, dM1, dApp, dExt, dSl, dDict1, qNo, qSm, oV, oS, aNil, aCons, aRev, bV, bAnd, bOr, bNot, bYes, iAny, iRg1, iRg2, iEnD, cont, conts, frz, valsOf, fn1, fn2, slotL, setL, fAdd_i, fSub_i, fLt_i, fLe_i, fGt_i, fGe_i, fEq_i, fEq_s, fNe_i, fNe_s, fIs_n, fNot_n, fIx_l, fIx_t, fLen_l, fLen_t, fInt_i, fSl_l, fSl_t, fMax_i, fMin_i, fAbs_i, fTup_l, fTup_t, fList_l, fList_t, wipeD, List.getElem?_cons_zero, List.getElem?_cons_succ, List.getElem?_nil, List.set_cons_zero, List.set_cons_succ, List.cons_append, List.nil_append, List.length_cons, List.length_nil, Nat.reduceAdd, Nat.reduceSub, List.replicate_succ, List.replicate_zero, List.take_succ_cons, List.take_zero, List.reverse_cons, List.reverse_nil, Bool.not_true, Bool.not_false, decide_true, eq_self, Option.bind_some, Option.bind_none, Option.map_some, Option.map_none, Option.some.injEq, Option.isSome_some, exists_eq_left', exists_eq_left, exists_and_left, List.cons.injEq, and_assoc, Sl.val.injEq, PyData.bool.injEq, PyData.int.injEq, PyData.str.injEq, PyData.list.injEq, PyData.tuple.injEq, Opn.v.injEq, true_and, and_true, decide_eq_true_eq, reduceIte, Bool.false_eq_true, if_true, if_false, isStr, Option.any_some, okRes, reduceCtorEq, Zero.zero, Nat.succ_eq_add_one, Nat.reduceLeDiff, ite_true, ite_false, Bool.not_eq_true, decide_eq_false_iff_not, k2, rL, f1]
    have rd : ∀ Qs Xs as, as = [Sl.val (.str (inT ns rs)), .val (.int ns.length), .val (.int rs.length)] → Qs (.val (inD ns rs)) as → sp_inputs_read C as Qs Xs := fun Qs Xs as e h => by
      subst e
      refine ⟨_, _, _, rfl, .inl ⟨_, rfl, by omega, by omega, by omega, fun i hi => ?_, fun ls hls => ?_⟩⟩
      · rw [due_back hg] at hi; cases hi
      · rw [due_back hg] at hls; cases hls; exact h
    refine rd _ _ _ rfl ?_
    simp (config := { maxSteps := 3000000 }) only [sRaise, dCall, dCallT, argsOf, argOf, slotsOf_s, slotsOf_v, slotsOf_nil, List.nodup_cons, List.nodup_nil, List.not_mem_nil, not_false_eq_true, updE, sSeq, sNext, sIf, sRet, sDrop, sAsg, sPar, sPar3, sBreak, sCont, gN, gSet, gT, gsCons, gsNil, dC, dVar, dOp, dChain, dNeg, dIfE, dAnd, dOr, dNot, dTup, dLst, dFn, dIsi, dM1, dApp, dExt, dSl, dDict1, qNo, qSm, oV, oS, aNil, aCons, aRev, bV, bAnd, bOr, bNot, bYes, iAny, iRg1, iRg2, iEnD, cont, conts, frz, valsOf, fn1, fn2, slotL, setL, fAdd_i, fSub_i, fLt_i, fLe_i, fGt_i, fGe_i, fEq_i, fEq_s, fNe_i, fNe_s, fIs_n, fNot_n, fIx_l, fIx_t, fLen_l, fLen_t, fInt_i, fSl_l, fSl_t, fMax_i, fMin_i, fAbs_i, fTup_l, fTup_t, fList_l, fList_t, wipeD, List.getElem?_cons_zero, List.getElem?_cons_succ, List.getElem?_nil, List.set_cons_zero, List.set_cons_succ, List.cons_append, List.nil_append, List.length_cons, List.length_nil, Nat.reduceAdd, Nat.reduceSub, List.replicate_succ, List.replicate_zero, List.take_succ_cons, List.take_zero, List.reverse_cons, List.reverse_nil, Bool.not_true, Bool.not_false, decide_true, eq_self, Option.bind_some, Option.bind_none, Option.map_some, Option.map_none, Option.some.injEq, Option.isSome_some, exists_eq_left', exists_eq_left, exists_and_left, List.cons.injEq, and_assoc, Sl.val.injEq, PyData.bool.injEq, PyData.int.injEq, PyData.str.injEq, PyData.list.injEq, PyData.tuple.injEq, Opn.v.injEq, true_and, and_true, decide_eq_true_eq, reduceIte, Bool.false_eq_true, if_true, if_false, isStr, Option.any_some, okRes, reduceCtorEq, Zero.zero, Nat.succ_eq_add_one, Nat.reduceLeDiff, ite_true, ite_false, Bool.not_eq_true, decide_eq_false_iff_not]
    refine rd _ _ _ rfl ?_
    have r2 := (rk_two (rk_inD hg.2.1 (by omega) hg.2.2.2)).fRepr rfl (by decide) (by decide)
    have e2 : PyData.tuple [.tuple (iDs ns), .tuple (rs.map tupD)] = inD ns rs := rfl
    rw [e2]
    simp (config := { maxSteps := 3000000 }) only [sRaise, dCall, dCallT, argsOf, argOf, slotsOf_s, slotsOf_v, slotsOf_nil, List.nodup_cons, List.nodup_nil, List.not_mem_nil, not_false_eq_true, updE, sSeq, sNext, sIf, sRet, sDrop, sAsg, sPar, sPar3, sBreak, sCont, gN, gSet, gT, gsCons, gsNil, dC, dVar, dOp, dChain, dNeg, dIfE, dAnd, dOr, dNot, dTup, dLst, dFn, dIsi, dM1, dApp, dExt, dSl, dDict1, qNo, qSm, oV, oS, aNil, aCons, aRev, bV, bAnd, bOr, bNot, bYes, iAny, iRg1, iRg2, iEnD, cont, conts, frz, valsOf, fn1, fn2, slotL, setL, fAdd_i, fSub_i, fLt_i, fLe_i, fGt_i, fGe_i, fEq_i, fEq_s, fNe_i, fNe_s, fIs_n, fNot_n, fIx_l, fIx_t, fLen_l, fLen_t, fInt_i, fSl_l, fSl_t, fMax_i, fMin_i, fAbs_i, fTup_l, fTup_t, fList_l, fList_t, wipeD, List.getElem?_cons_zero, List.getElem?_cons_succ, List.getElem?_nil, List.set_cons_zero, List.set_cons_succ, List.cons_append, List.nil_append, List.length_cons, List.length_nil, Nat.reduceAdd, Nat.reduceSub, List.replicate_succ, List.replicate_zero, List.take_succ_cons, List.take_zero, List.reverse_cons, List.reverse_nil, Bool.not_true, Bool.not_false, decide_true, eq_self, Option.bind_some, Option.bind_none, Option.map_some, Option.map_none, Option.some.injEq, Option.isSome_some, exists_eq_left', exists_eq_left, exists_and_left, List.cons.injEq, and_assoc, Sl.val.injEq, PyData.bool.injEq, PyData.int.injEq, PyData.str.injEq, PyData.list.injEq, PyData.tuple.injEq, Opn.v.injEq, true_and, and_true, decide_eq_true_eq, reduceIte, Bool.false_eq_true, if_true, if_false, isStr, Option.any_some, okRes, reduceCtorEq, Zero.zero, Nat.succ_eq_add_one, Nat.reduceLeDiff, ite_true, ite_false, Bool.not_eq_true, decide_eq_false_iff_not, k2, r2]
    generalize hSH : (PyData.tuple [.list (iDs ns), .list (rs.map fun r => .list (iDs r))]).shown = SH
    generalize hLS : PyData.tuple [.list (iDs ns), .list (rs.map fun r => .list (iDs r))] = LS
    generalize hIN : inD ns rs = IN
    generalize hDU : inT ns rs = DU at hgl ⊢
    clear hSH hLS hIN hDU r2 rL rd f1 ok hL eL e2
    unfold sFor
    simp (config := { maxSteps := 3000000 }) only [sRaise, dCall, dCallT, argsOf, argOf, slotsOf_s, slotsOf_v, slotsOf_nil, List.nodup_cons, List.nodup_nil, List.not_mem_nil, not_false_eq_true, updE, sSeq, sNext, sIf, sRet, sDrop, sAsg, sPar, sPar3, sBreak, sCont, gN, gSet, gT, gsCons, gsNil, dC, dVar, dOp, dChain, dNeg, dIfE, dAnd, dOr, dNot, dTup, dLst, dFn, dIsi, dM1, dApp, dExt, dSl, dDict1, qNo, qSm, oV, oS, aNil, aCons, aRev, bV, bAnd, bOr, bNot, bYes, iAny, iRg1, iRg2, iEnD, cont, conts, frz, valsOf, fn1, fn2, slotL, setL, fAdd_i, fSub_i, fLt_i, fLe_i, fGt_i, fGe_i, fEq_i, fEq_s, fNe_i, fNe_s, fIs_n, fNot_n, fIx_l, fIx_t, fLen_l, fLen_t, fInt_i, fSl_l, fSl_t, fMax_i, fMin_i, fAbs_i, fTup_l, fTup_t, fList_l, fList_t, wipeD, List.getElem?_cons_zero, List.getElem?_cons_succ, List.getElem?_nil, List.set_cons_zero, List.set_cons_succ, List.cons_append, List.nil_append, List.length_cons, List.length_nil, Nat.reduceAdd, Nat.reduceSub, List.replicate_succ, List.replicate_zero, List.take_succ_cons, List.take_zero, List.reverse_cons, List.reverse_nil, Bool.not_true, Bool.not_false, decide_true, eq_self, Option.bind_some, Option.bind_none, Option.map_some, Option.map_none, Option.some.injEq, Option.isSome_some, exists_eq_left', exists_eq_left, exists_and_left, List.cons.injEq, and_assoc, Sl.val.injEq, PyData.bool.injEq, PyData.int.injEq, PyData.str.injEq, PyData.list.injEq, PyData.tuple.injEq, Opn.v.injEq, true_and, and_true, decide_eq_true_eq, reduceIte, Bool.false_eq_true, if_true, if_false, isStr, Option.any_some, okRes, reduceCtorEq, Zero.zero, Nat.succ_eq_add_one, Nat.reduceLeDiff, ite_true, ite_false, Bool.not_eq_true, decide_eq_false_iff_not, List.getElem?_cons_zero]
    refine ⟨by decide, by decide, fun i e => ∃ (a b : Int) (T : Str) (u v w : Sl), potOk a b ∧ T.length ≤ bnd i ∧ e = [potS a b, .val IN, .val (.str DU), .val (.int ns.length), .val (.int rs.length), .val LS, .val (.str SH), .val (.str T), u, v, w, .un, .un], ⟨a1, b1, DU, .un, .un, .un, hp1, Nat.le_trans hgl (by decide), rfl⟩, fun i d e hd hI => ?_, fun e hI => ?_⟩
    · obtain ⟨a2, b2, T, u, v, w, hp2, hT, rfl⟩ := hI
      obtain ⟨k, hk, rfl⟩ := range_mem (List.mem_of_getElem? hd)
      have hi8 : i < 8 := by have := (List.getElem?_eq_some_iff.mp hd).1; rw [rangeD_len] at this; simpa using this
      have bi := bnd_le (i := i) (by omega)
      have bi2 := bnd_up i
      have bi3 := bnd_ge i
      have k3 : 3 ≤ 1000 := by decide
      simp (config := { maxSteps := 3000000 }) only [sRaise, dCall, dCallT, argsOf, argOf, slotsOf_s, slotsOf_v, slotsOf_nil, List.nodup_cons, List.nodup_nil, List.not_mem_nil, not_false_eq_true, updE, sSeq, sNext, sIf, sRet, sDrop, sAsg, sPar, sPar3, sBreak, sCont, gN, gSet, gT, gsCons, gsNil, dC, dVar, dOp, dChain, dNeg, dIfE, dAnd, dOr, dNot, dTup, dLst, dFn, dIsi, dM1, dApp, dExt, dSl, dDict1, qNo, qSm, oV, oS, aNil, aCons, aRev, bV, bAnd, bOr, bNot, bYes, iAny, iRg1, iRg2, iEnD, cont, conts, frz, valsOf, fn1, fn2, slotL, setL, fAdd_i, fSub_i, fLt_i, fLe_i, fGt_i, fGe_i, fEq_i, fEq_s, fNe_i, fNe_s, fIs_n, fNot_n, fIx_l, fIx_t, fLen_l, fLen_t, fInt_i, fSl_l, fSl_t, fMax_i, fMin_i, fAbs_i, fTup_l, fTup_t, fList_l, fList_t, wipeD, List.getElem?_cons_zero, List.getElem?_cons_succ, List.getElem?_nil, List.set_cons_zero, List.set_cons_succ, List.cons_append, List.nil_append, List.length_cons, List.length_nil, Nat.reduceAdd, Nat.reduceSub, List.replicate_succ, List.replicate_zero, List.take_succ_cons, List.take_zero, List.reverse_cons, List.reverse_nil, Bool.not_true, Bool.not_false, decide_true, eq_self, Option.bind_some, Option.bind_none, Option.map_some, Option.map_none, Option.some.injEq, Option.isSome_some, exists_eq_left', exists_eq_left, exists_and_left, List.cons.injEq, and_assoc, Sl.val.injEq, PyData.bool.injEq, PyData.int.injEq, PyData.str.injEq, PyData.list.injEq, PyData.tuple.injEq, Opn.v.injEq, true_and, and_true, decide_eq_true_eq, reduceIte, Bool.false_eq_true, if_true, if_false, isStr, Option.any_some, okRes, reduceCtorEq, Zero.zero, Nat.succ_eq_add_one, Nat.reduceLeDiff, ite_true, ite_false, Bool.not_eq_true, decide_eq_false_iff_not, k3]
      refine ⟨a2, b2, _, rfl, hp2, by simp, by simp, fun a3 b3 d hp3 hm => ?_⟩
      obtain ⟨D, rfl, hD⟩ : ∃ D : Str, d = .str D ∧ D.length ≤ bnd i := by
        simp only [List.mem_cons,
              List.not_mem_nil, or_false] at hm
        rcases hm with rfl | rfl | rfl
        · exact ⟨_, rfl, by omega⟩
        · exact ⟨_, rfl, by omega⟩
        · exact ⟨_, rfl, hT⟩
      simp (config := { maxSteps := 3000000 }) only [sRaise, dCall, dCallT, argsOf, argOf, slotsOf_s, slotsOf_v, slotsOf_nil, List.nodup_cons, List.nodup_nil, List.not_mem_nil, not_false_eq_true, updE, sSeq, sNext, sIf, sRet, sDrop, sAsg, sPar, sPar3, sBreak, sCont, gN, gSet, gT, gsCons, gsNil, dC, dVar, dOp, dChain, dNeg, dIfE, dAnd, dOr, dNot, dTup, dLst, dFn, dIsi, dM1, dApp, dExt, dSl, dDict1, qNo, qSm, oV, oS, aNil, aCons, aRev, bV, bAnd, bOr, bNot, bYes, iAny, iRg1, iRg2, iEnD, cont, conts, frz, valsOf, fn1, fn2, slotL, setL, fAdd_i, fSub_i, fLt_i, fLe_i, fGt_i, fGe_i, fEq_i, fEq_s, fNe_i, fNe_s, fIs_n, fNot_n, fIx_l, fIx_t, fLen_l, fLen_t, fInt_i, fSl_l, fSl_t, fMax_i, fMin_i, fAbs_i, fTup_l, fTup_t, fList_l, fList_t, wipeD, List.getElem?_cons_zero, List.getElem?_cons_succ, List.getElem?_nil, List.set_cons_zero, List.set_cons_succ, List.cons_append, List.nil_append, List.length_cons, List.length_nil, Nat.reduceAdd, Nat.reduceSub, List.replicate_succ, List.replicate_zero, List.take_succ_cons, List.take_zero, List.reverse_cons, List.reverse_nil, Bool.not_true, Bool.not_false, decide_true, eq_self, Option.bind_some, Option.bind_none, Option.map_some, Option.map_none, Option.some.injEq, Option.isSome_some, exists_eq_left', exists_eq_left, exists_and_left, List.cons.injEq, and_assoc, Sl.val.injEq, PyData.bool.injEq, PyData.int.injEq, PyData.str.injEq, PyData.list.injEq, PyData.tuple.injEq, Opn.v.injEq, true_and, and_true, decide_eq_true_eq, reduceIte, Bool.false_eq_true, if_true, if_false, isStr, Option.any_some, okRes, reduceCtorEq, Zero.zero, Nat.succ_eq_add_one, Nat.reduceLeDiff, ite_true, ite_false, Bool.not_eq_true, decide_eq_false_iff_not]
      refine ⟨a3, b3, D, rfl, hp3, by omega, fun a4 b4 T' hp4 hT' => ?_⟩
      simp (config := { maxSteps := 3000000 }) only [sRaise, dCall, dCallT, argsOf, argOf, slotsOf_s, slotsOf_v, slotsOf_nil, List.nodup_cons, List.nodup_nil, List.not_mem_nil, not_false_eq_true, updE, sSeq, sNext, sIf, sRet, sDrop, sAsg, sPar, sPar3, sBreak, sCont, gN, gSet, gT, gsCons, gsNil, dC, dVar, dOp, dChain, dNeg, dIfE, dAnd, dOr, dNot, dTup, dLst, dFn, dIsi, dM1, dApp, dExt, dSl, dDict1, qNo, qSm, oV, oS, aNil, aCons, aRev, bV, bAnd, bOr, bNot, bYes, iAny, iRg1, iRg2, iEnD, cont, conts, frz, valsOf, fn1, fn2, slotL, setL, fAdd_i, fSub_i, fLt_i, fLe_i, fGt_i, fGe_i, fEq_i, fEq_s, fNe_i, fNe_s, fIs_n, fNot_n, fIx_l, fIx_t, fLen_l, fLen_t, fInt_i, fSl_l, fSl_t, fMax_i, fMin_i, fAbs_i, fTup_l, fTup_t, fList_l, fList_t, wipeD, List.getElem?_cons_zero, List.getElem?_cons_succ, List.getElem?_nil, List.set_cons_zero, List.set_cons_succ, List.cons_append, List.nil_append, List.length_cons, List.length_nil, Nat.reduceAdd, Nat.reduceSub, List.replicate_succ, List.replicate_zero, List.take_succ_cons, List.take_zero, List.reverse_cons, List.reverse_nil, Bool.not_true, Bool.not_false, decide_true, eq_self, Option.bind_some, Option.bind_none, Option.map_some, Option.map_none, Option.some.injEq, Option.isSome_some, exists_eq_left', exists_eq_left, exists_and_left, List.cons.injEq, and_assoc, Sl.val.injEq, PyData.bool.injEq, PyData.int.injEq, PyData.str.injEq, PyData.list.injEq, PyData.tuple.injEq, Opn.v.injEq, true_and, and_true, decide_eq_true_eq, reduceIte, Bool.false_eq_true, if_true, if_false, isStr, Option.any_some, okRes, reduceCtorEq, Zero.zero, Nat.succ_eq_add_one, Nat.reduceLeDiff, ite_true, ite_false, Bool.not_eq_true, decide_eq_false_iff_not, fLen_s (a := T') (by omega)]
      refine ite_intro (fun h1 => ?_) (fun h1 => ?_)
      · refine ⟨a4, b4, _, rfl, hp4, by simp, by simp, fun a5 b5 d5 hp5 hm5 => ?_⟩
        obtain ⟨x5, rfl, h51, h52⟩ := three_mem hm5
        simp (config := { maxSteps := 3000000 }) only [sRaise, dCall, dCallT, argsOf, argOf, slotsOf_s, slotsOf_v, slotsOf_nil, List.nodup_cons, List.nodup_nil, List.not_mem_nil, not_false_eq_true, updE, sSeq, sNext, sIf, sRet, sDrop, sAsg, sPar, sPar3, sBreak, sCont, gN, gSet, gT, gsCons, gsNil, dC, dVar, dOp, dChain, dNeg, dIfE, dAnd, dOr, dNot, dTup, dLst, dFn, dIsi, dM1, dApp, dExt, dSl, dDict1, qNo, qSm, oV, oS, aNil, aCons, aRev, bV, bAnd, bOr, bNot, bYes, iAny, iRg1, iRg2, iEnD, cont, conts, frz, valsOf, fn1, fn2, slotL, setL, fAdd_i, fSub_i, fLt_i, fLe_i, fGt_i, fGe_i, fEq_i, fEq_s, fNe_i, fNe_s, fIs_n, fNot_n, fIx_l, fIx_t, fLen_l, fLen_t, fInt_i, fSl_l, fSl_t, fMax_i, fMin_i, fAbs_i, fTup_l, fTup_t, fList_l, fList_t, wipeD, List.getElem?_cons_zero, List.getElem?_cons_succ, List.getElem?_nil, List.set_cons_zero, List.set_cons_succ, List.cons_append, List.nil_append, List.length_cons, List.length_nil, Nat.reduceAdd, Nat.reduceSub, List.replicate_succ, List.replicate_zero, List.take_succ_cons, List.take_zero, List.reverse_cons, List.reverse_nil, Bool.not_true, Bool.not_false, decide_true, eq_self, Option.bind_some, Option.bind_none, Option.map_some, Option.map_none, Option.some.injEq, Option.isSome_some, exists_eq_left', exists_eq_left, exists_and_left, List.cons.injEq, and_assoc, Sl.val.injEq, PyData.bool.injEq, PyData.int.injEq, PyData.str.injEq, PyData.list.injEq, PyData.tuple.injEq, Opn.v.injEq, true_and, and_true, decide_eq_true_eq, reduceIte, Bool.false_eq_true, if_true, if_false, isStr, Option.any_some, okRes, reduceCtorEq, Zero.zero, Nat.succ_eq_add_one, Nat.reduceLeDiff, ite_true, ite_false, Bool.not_eq_true, decide_eq_false_iff_not]
        refine ⟨a5, b5, _, rfl, hp5, by simp, by simp, fun a6 b6 d6 hp6 hm6 => ?_⟩
        obtain ⟨x6, rfl, h61, h62⟩ := three_mem hm6
        have w2 : ∀ x y : PyData, walkOf (.list [x, y]) = some [x, y] := fun x y => walk_l (by simp)
        simp (config := { maxSteps := 3000000 }) only [sRaise, dCall, dCallT, argsOf, argOf, slotsOf_s, slotsOf_v, slotsOf_nil, List.nodup_cons, List.nodup_nil, List.not_mem_nil, not_false_eq_true, updE, sSeq, sNext, sIf, sRet, sDrop, sAsg, sPar, sPar3, sBreak, sCont, gN, gSet, gT, gsCons, gsNil, dC, dVar, dOp, dChain, dNeg, dIfE, dAnd, dOr, dNot, dTup, dLst, dFn, dIsi, dM1, dApp, dExt, dSl, dDict1, qNo, qSm, oV, oS, aNil, aCons, aRev, bV, bAnd, bOr, bNot, bYes, iAny, iRg1, iRg2, iEnD, cont, conts, frz, valsOf, fn1, fn2, slotL, setL, fAdd_i, fSub_i, fLt_i, fLe_i, fGt_i, fGe_i, fEq_i, fEq_s, fNe_i, fNe_s, fIs_n, fNot_n, fIx_l, fIx_t, fLen_l, fLen_t, fInt_i, fSl_l, fSl_t, fMax_i, fMin_i, fAbs_i, fTup_l, fTup_t, fList_l, fList_t, wipeD, List.getElem?_cons_zero, List.getElem?_cons_succ, List.getElem?_nil, List.set_cons_zero, List.set_cons_succ, List.cons_append, List.nil_append, List.length_cons, List.length_nil, Nat.reduceAdd, Nat.reduceSub, List.replicate_succ, List.replicate_zero, List.take_succ_cons, List.take_zero, List.reverse_cons, List.reverse_nil, Bool.not_true, Bool.not_false, decide_true, eq_self, Option.bind_some, Option.bind_none, Option.map_some, Option.map_none, Option.some.injEq, Option.isSome_some, exists_eq_left', exists_eq_left, exists_and_left, List.cons.injEq, and_assoc, Sl.val.injEq, PyData.bool.injEq, PyData.int.injEq, PyData.str.injEq, PyData.list.injEq, PyData.tuple.injEq, Opn.v.injEq, true_and, and_true, decide_eq_true_eq, reduceIte, Bool.false_eq_true, if_true, if_false, isStr, Option.any_some, okRes, reduceCtorEq, Zero.zero, Nat.succ_eq_add_one, Nat.reduceLeDiff, ite_true, ite_false, Bool.not_eq_true, decide_eq_false_iff_not, k2, w2]
        refine ⟨fun j e => ∃ v w : Sl, e = [potS a6 b6, .val IN, .val (.str DU), .val (.int ns.length), .val (.int rs.length), .val LS, .val (.str SH), .val (.str T'), .val (.int (0 + (k : Int))), v, w, .un, .un], ⟨_, _, rfl⟩, fun j d e hd hI => ?_, fun e hI => ?_⟩
        · obtain ⟨v, w, rfl⟩ := hI
          obtain ⟨x, y, rfl, hx0, hx1, hy0, hy1⟩ : ∃ x y : Int, d = .tuple [.int x, .int y] ∧ 0 ≤ x ∧ x ≤ 40 ∧ 0 ≤ y ∧ y ≤ 9 := by
            have hm := List.mem_of_getElem? hd
            simp only [List.mem_cons,
                  List.not_mem_nil, or_false] at hm
            rcases hm with rfl | rfl
            · exact ⟨_, _, rfl, by omega, by omega, by omega, by omega⟩
            · exact ⟨_, _, rfl, by split <;> omega, by split <;> omega, by split <;> omega, by split <;> omega⟩
          have hT3 : T'.length ≤ 10000 := by omega
          have rk := (told_rk (t := T') (n := x) (r := y) hT3 hx1 hy0 hy1).fRepr (told_seq _) (by decide) (by decide)
          simp (config := { maxSteps := 3000000 }) only [sRaise, dCall, dCallT, argsOf, argOf, slotsOf_s, slotsOf_v, slotsOf_nil, List.nodup_cons, List.nodup_nil, List.not_mem_nil, not_false_eq_true, updE, sSeq, sNext, sIf, sRet, sDrop, sAsg, sPar, sPar3, sBreak, sCont, gN, gSet, gT, gsCons, gsNil, dC, dVar, dOp, dChain, dNeg, dIfE, dAnd, dOr, dNot, dTup, dLst, dFn, dIsi, dM1, dApp, dExt, dSl, dDict1, qNo, qSm, oV, oS, aNil, aCons, aRev, bV, bAnd, bOr, bNot, bYes, iAny, iRg1, iRg2, iEnD, cont, conts, frz, valsOf, fn1, fn2, slotL, setL, fAdd_i, fSub_i, fLt_i, fLe_i, fGt_i, fGe_i, fEq_i, fEq_s, fNe_i, fNe_s, fIs_n, fNot_n, fIx_l, fIx_t, fLen_l, fLen_t, fInt_i, fSl_l, fSl_t, fMax_i, fMin_i, fAbs_i, fTup_l, fTup_t, fList_l, fList_t, wipeD, List.getElem?_cons_zero, List.getElem?_cons_succ, List.getElem?_nil, List.set_cons_zero, List.set_cons_succ, List.cons_append, List.nil_append, List.length_cons, List.length_nil, Nat.reduceAdd, Nat.reduceSub, List.replicate_succ, List.replicate_zero, List.take_succ_cons, List.take_zero, List.reverse_cons, List.reverse_nil, Bool.not_true, Bool.not_false, decide_true, eq_self, Option.bind_some, Option.bind_none, Option.map_some, Option.map_none, Option.some.injEq, Option.isSome_some, exists_eq_left', exists_eq_left, exists_and_left, List.cons.injEq, and_assoc, Sl.val.injEq, PyData.bool.injEq, PyData.int.injEq, PyData.str.injEq, PyData.list.injEq, PyData.tuple.injEq, Opn.v.injEq, true_and, and_true, decide_eq_true_eq, reduceIte, Bool.false_eq_true, if_true, if_false, isStr, Option.any_some, okRes, reduceCtorEq, Zero.zero, Nat.succ_eq_add_one, Nat.reduceLeDiff, ite_true, ite_false, Bool.not_eq_true, decide_eq_false_iff_not]
          refine ⟨.str T', x, y, rfl, .inl ⟨T', rfl, hT3, hx0, hy0, ?_⟩⟩
          simp (config := { maxSteps := 3000000 }) only [sRaise, dCall, dCallT, argsOf, argOf, slotsOf_s, slotsOf_v, slotsOf_nil, List.nodup_cons, List.nodup_nil, List.not_mem_nil, not_false_eq_true, updE, sSeq, sNext, sIf, sRet, sDrop, sAsg, sPar, sPar3, sBreak, sCont, gN, gSet, gT, gsCons, gsNil, dC, dVar, dOp, dChain, dNeg, dIfE, dAnd, dOr, dNot, dTup, dLst, dFn, dIsi, dM1, dApp, dExt, dSl, dDict1, qNo, qSm, oV, oS, aNil, aCons, aRev, bV, bAnd, bOr, bNot, bYes, iAny, iRg1, iRg2, iEnD, cont, conts, frz, valsOf, fn1, fn2, slotL, setL, fAdd_i, fSub_i, fLt_i, fLe_i, fGt_i, fGe_i, fEq_i, fEq_s, fNe_i, fNe_s, fIs_n, fNot_n, fIx_l, fIx_t, fLen_l, fLen_t, fInt_i, fSl_l, fSl_t, fMax_i, fMin_i, fAbs_i, fTup_l, fTup_t, fList_l, fList_t, wipeD, List.getElem?_cons_zero, List.getElem?_cons_succ, List.getElem?_nil, List.set_cons_zero, List.set_cons_succ, List.cons_append, List.nil_append, List.length_cons, List.length_nil, Nat.reduceAdd, Nat.reduceSub, List.replicate_succ, List.replicate_zero, List.take_succ_cons, List.take_zero, List.reverse_cons, List.reverse_nil, Bool.not_true, Bool.not_false, decide_true, eq_self, Option.bind_some, Option.bind_none, Option.map_some, Option.map_none, Option.some.injEq, Option.isSome_some, exists_eq_left', exists_eq_left, exists_and_left, List.cons.injEq, and_assoc, Sl.val.injEq, PyData.bool.injEq, PyData.int.injEq, PyData.str.injEq, PyData.list.injEq, PyData.tuple.injEq, Opn.v.injEq, true_and, and_true, decide_eq_true_eq, reduceIte, Bool.false_eq_true, if_true, if_false, isStr, Option.any_some, okRes, reduceCtorEq, Zero.zero, Nat.succ_eq_add_one, Nat.reduceLeDiff, ite_true, ite_false, Bool.not_eq_true, decide_eq_false_iff_not, rk]
          refine ⟨T', x, y, rfl, hT3, hx0, hx1, hy0, fun s hs hok => ?_⟩
          rw [due_law] at hs
          rcases frz_cases hs with rfl | ⟨ds, rfl, e⟩
          · simp (config := { maxSteps := 3000000 }) only [sRaise, dCall, dCallT, argsOf, argOf, slotsOf_s, slotsOf_v, slotsOf_nil, List.nodup_cons, List.nodup_nil, List.not_mem_nil, not_false_eq_true, updE, sSeq, sNext, sIf, sRet, sDrop, sAsg, sPar, sPar3, sBreak, sCont, gN, gSet, gT, gsCons, gsNil, dC, dVar, dOp, dChain, dNeg, dIfE, dAnd, dOr, dNot, dTup, dLst, dFn, dIsi, dM1, dApp, dExt, dSl, dDict1, qNo, qSm, oV, oS, aNil, aCons, aRev, bV, bAnd, bOr, bNot, bYes, iAny, iRg1, iRg2, iEnD, cont, conts, frz, valsOf, fn1, fn2, slotL, setL, fAdd_i, fSub_i, fLt_i, fLe_i, fGt_i, fGe_i, fEq_i, fEq_s, fNe_i, fNe_s, fIs_n, fNot_n, fIx_l, fIx_t, fLen_l, fLen_t, fInt_i, fSl_l, fSl_t, fMax_i, fMin_i, fAbs_i, fTup_l, fTup_t, fList_l, fList_t, wipeD, List.getElem?_cons_zero, List.getElem?_cons_succ, List.getElem?_nil, List.set_cons_zero, List.set_cons_succ, List.cons_append, List.nil_append, List.length_cons, List.length_nil, Nat.reduceAdd, Nat.reduceSub, List.replicate_succ, List.replicate_zero, List.take_succ_cons, List.take_zero, List.reverse_cons, List.reverse_nil, Bool.not_true, Bool.not_false, decide_true, eq_self, Option.bind_some, Option.bind_none, Option.map_some, Option.map_none, Option.some.injEq, Option.isSome_some, exists_eq_left', exists_eq_left, exists_and_left, List.cons.injEq, and_assoc, Sl.val.injEq, PyData.bool.injEq, PyData.int.injEq, PyData.str.injEq, PyData.list.injEq, PyData.tuple.injEq, Opn.v.injEq, true_and, and_true, decide_eq_true_eq, reduceIte, Bool.false_eq_true, if_true, if_false, isStr, Option.any_some, okRes, reduceCtorEq, Zero.zero, Nat.succ_eq_add_one, Nat.reduceLeDiff, ite_true, ite_false, Bool.not_eq_true, decide_eq_false_iff_not, rk]
            first | exact ⟨_, rfl⟩ | exact ⟨_, _, rfl⟩
          · rw [e] at rk
            rw [e]
            simp (config := { maxSteps := 3000000 }) only [sRaise, dCall, dCallT, argsOf, argOf, slotsOf_s, slotsOf_v, slotsOf_nil, List.nodup_cons, List.nodup_nil, List.not_mem_nil, not_false_eq_true, updE, sSeq, sNext, sIf, sRet, sDrop, sAsg, sPar, sPar3, sBreak, sCont, gN, gSet, gT, gsCons, gsNil, dC, dVar, dOp, dChain, dNeg, dIfE, dAnd, dOr, dNot, dTup, dLst, dFn, dIsi, dM1, dApp, dExt, dSl, dDict1, qNo, qSm, oV, oS, aNil, aCons, aRev, bV, bAnd, bOr, bNot, bYes, iAny, iRg1, iRg2, iEnD, cont, conts, frz, valsOf, fn1, fn2, slotL, setL, fAdd_i, fSub_i, fLt_i, fLe_i, fGt_i, fGe_i, fEq_i, fEq_s, fNe_i, fNe_s, fIs_n, fNot_n, fIx_l, fIx_t, fLen_l, fLen_t, fInt_i, fSl_l, fSl_t, fMax_i, fMin_i, fAbs_i, fTup_l, fTup_t, fList_l, fList_t, wipeD, List.getElem?_cons_zero, List.getElem?_cons_succ, List.getElem?_nil, List.set_cons_zero, List.set_cons_succ, List.cons_append, List.nil_append, List.length_cons, List.length_nil, Nat.reduceAdd, Nat.reduceSub, List.replicate_succ, List.replicate_zero, List.take_succ_cons, List.take_zero, List.reverse_cons, List.reverse_nil, Bool.not_true, Bool.not_false, decide_true, eq_self, Option.bind_some, Option.bind_none, Option.map_some, Option.map_none, Option.some.injEq, Option.isSome_some, exists_eq_left', exists_eq_left, exists_and_left, List.cons.injEq, and_assoc, Sl.val.injEq, PyData.bool.injEq, PyData.int.injEq, PyData.str.injEq, PyData.list.injEq, PyData.tuple.injEq, Opn.v.injEq, true_and, and_true, decide_eq_true_eq, reduceIte, Bool.false_eq_true, if_true, if_false, isStr, Option.any_some, okRes, reduceCtorEq, Zero.zero, Nat.succ_eq_add_one, Nat.reduceLeDiff, ite_true, ite_false, Bool.not_eq_true, decide_eq_false_iff_not, rk]
            first | exact ⟨_, rfl⟩ | exact ⟨_, _, rfl⟩
        · obtain ⟨v, w, rfl⟩ := hI
          exact ⟨a6, b6, hp6, T', by omega, _, _, _, rfl⟩
      · exact ⟨a4, b4, hp4, T', by omega, rfl, rfl, _, rfl⟩
    · obtain ⟨a2, b2, T, u, v, w, hp2, hT, rfl⟩ := hI
      have k7 : 7 ≤ 1000 := by decide
      simp (config := { maxSteps := 3000000 }) only [sRaise, dCall, dCallT, argsOf, argOf, slotsOf_s, slotsOf_v, slotsOf_nil, List.nodup_cons, List.nodup_nil, List.not_mem_nil, not_false_eq_true, updE, sSeq, sNext, sIf, sRet, sDrop, sAsg, sPar, sPar3, sBreak, sCont, gN, gSet, gT, gsCons, gsNil, dC, dVar, dOp, dChain, dNeg, dIfE, dAnd, dOr, dNot, dTup, dLst, dFn, dIsi, dM1, dApp, dExt, dSl, dDict1, qNo, qSm, oV, oS, aNil, aCons, aRev, bV, bAnd, bOr, bNot, bYes, iAny, iRg1, iRg2, iEnD, cont, conts, frz, valsOf, fn1, fn2, slotL, setL, fAdd_i, fSub_i, fLt_i, fLe_i, fGt_i, fGe_i, fEq_i, fEq_s, fNe_i, fNe_s, fIs_n, fNot_n, fIx_l, fIx_t, fLen_l, fLen_t, fInt_i, fSl_l, fSl_t, fMax_i, fMin_i, fAbs_i, fTup_l, fTup_t, fList_l, fList_t, wipeD, List.getElem?_cons_zero, List.getElem?_cons_succ, List.getElem?_nil, List.set_cons_zero, List.set_cons_succ, List.cons_append, List.nil_append, List.length_cons, List.length_nil, Nat.reduceAdd, Nat.reduceSub, List.replicate_succ, List.replicate_zero, List.take_succ_cons, List.take_zero, List.reverse_cons, List.reverse_nil, Bool.not_true, Bool.not_false, decide_true, eq_self, Option.bind_some, Option.bind_none, Option.map_some, Option.map_none, Option.some.injEq, Option.isSome_some, exists_eq_left', exists_eq_left, exists_and_left, List.cons.injEq, and_assoc, Sl.val.injEq, PyData.bool.injEq, PyData.int.injEq, PyData.str.injEq, PyData.list.injEq, PyData.tuple.injEq, Opn.v.injEq, true_and, and_true, decide_eq_true_eq, reduceIte, Bool.false_eq_true, if_true, if_false, isStr, Option.any_some, okRes, reduceCtorEq, Zero.zero, Nat.succ_eq_add_one, Nat.reduceLeDiff, ite_true, ite_false, Bool.not_eq_true, decide_eq_false_iff_not, k1, len1, k7]
      refine ⟨a2, b2, _, rfl, hp2, by decide, by decide, fun a3 b3 d hp3 hm => ?_⟩
      simp (config := { maxSteps := 3000000 }) only [sRaise, dCall, dCallT, argsOf, argOf, slotsOf_s, slotsOf_v, slotsOf_nil, List.nodup_cons, List.nodup_nil, List.not_mem_nil, not_false_eq_true, updE, sSeq, sNext, sIf, sRet, sDrop, sAsg, sPar, sPar3, sBreak, sCont, gN, gSet, gT, gsCons, gsNil, dC, dVar, dOp, dChain, dNeg, dIfE, dAnd, dOr, dNot, dTup, dLst, dFn, dIsi, dM1, dApp, dExt, dSl, dDict1, qNo, qSm, oV, oS, aNil, aCons, aRev, bV, bAnd, bOr, bNot, bYes, iAny, iRg1, iRg2, iEnD, cont, conts, frz, valsOf, fn1, fn2, slotL, setL, fAdd_i, fSub_i, fLt_i, fLe_i, fGt_i, fGe_i, fEq_i, fEq_s, fNe_i, fNe_s, fIs_n, fNot_n, fIx_l, fIx_t, fLen_l, fLen_t, fInt_i, fSl_l, fSl_t, fMax_i, fMin_i, fAbs_i, fTup_l, fTup_t, fList_l, fList_t, wipeD, List.getElem?_cons_zero, List.getElem?_cons_succ, List.getElem?_nil, List.set_cons_zero, List.set_cons_succ, List.cons_append, List.nil_append, List.length_cons, List.length_nil, Nat.reduceAdd, Nat.reduceSub, List.replicate_succ, List.replicate_zero, List.take_succ_cons, List.take_zero, List.reverse_cons, List.reverse_nil, Bool.not_true, Bool.not_false, decide_true, eq_self, Option.bind_some, Option.bind_none, Option.map_some, Option.map_none, Option.some.injEq, Option.isSome_some, exists_eq_left', exists_eq_left, exists_and_left, List.cons.injEq, and_assoc, Sl.val.injEq, PyData.bool.injEq, PyData.int.injEq, PyData.str.injEq, PyData.list.injEq, PyData.tuple.injEq, Opn.v.injEq, true_and, and_true, decide_eq_true_eq, reduceIte, Bool.false_eq_true, if_true, if_false, isStr, Option.any_some, okRes, reduceCtorEq, Zero.zero, Nat.succ_eq_add_one, Nat.reduceLeDiff, ite_true, ite_false, Bool.not_eq_true, decide_eq_false_iff_not]
      refine ⟨d, 1, 0, rfl, .inr ⟨odd_not hm, ?_⟩⟩
      simp (config := { maxSteps := 3000000 }) only [sRaise, dCall, dCallT, argsOf, argOf, slotsOf_s, slotsOf_v, slotsOf_nil, List.nodup_cons, List.nodup_nil, List.not_mem_nil, not_false_eq_true, updE, sSeq, sNext, sIf, sRet, sDrop, sAsg, sPar, sPar3, sBreak, sCont, gN, gSet, gT, gsCons, gsNil, dC, dVar, dOp, dChain, dNeg, dIfE, dAnd, dOr, dNot, dTup, dLst, dFn, dIsi, dM1, dApp, dExt, dSl, dDict1, qNo, qSm, oV, oS, aNil, aCons, aRev, bV, bAnd, bOr, bNot, bYes, iAny, iRg1, iRg2, iEnD, cont, conts, frz, valsOf, fn1, fn2, slotL, setL, fAdd_i, fSub_i, fLt_i, fLe_i, fGt_i, fGe_i, fEq_i, fEq_s, fNe_i, fNe_s, fIs_n, fNot_n, fIx_l, fIx_t, fLen_l, fLen_t, fInt_i, fSl_l, fSl_t, fMax_i, fMin_i, fAbs_i, fTup_l, fTup_t, fList_l, fList_t, wipeD, List.getElem?_cons_zero, List.getElem?_cons_succ, List.getElem?_nil, List.set_cons_zero, List.set_cons_succ, List.cons_append, List.nil_append, List.length_cons, List.length_nil, Nat.reduceAdd, Nat.reduceSub, List.replicate_succ, List.replicate_zero, List.take_succ_cons, List.take_zero, List.reverse_cons, List.reverse_nil, Bool.not_true, Bool.not_false, decide_true, eq_self, Option.bind_some, Option.bind_none, Option.map_some, Option.map_none, Option.some.injEq, Option.isSome_some, exists_eq_left', exists_eq_left, exists_and_left, List.cons.injEq, and_assoc, Sl.val.injEq, PyData.bool.injEq, PyData.int.injEq, PyData.str.injEq, PyData.list.injEq, PyData.tuple.injEq, Opn.v.injEq, true_and, and_true, decide_eq_true_eq, reduceIte, Bool.false_eq_true, if_true, if_false, isStr, Option.any_some, okRes, reduceCtorEq, Zero.zero, Nat.succ_eq_add_one, Nat.reduceLeDiff, ite_true, ite_false, Bool.not_eq_true, decide_eq_false_iff_not, k2, bad_eq]
      exact ⟨ioIn_of (by simp [IoF]), q _ _ hp3⟩
end K35
namespace K35
open PySem L2 PySem.Spec PyProof.Rows PD PySem.NumText TL
theorem all_true (l : List PyData) : fAll (.list (l.map fun _ => .bool true)) = some (.val (.bool true)) := by
  have h : bools (l.map fun _ => PyData.bool true) = some (l.map fun _ => true) := by
    induction l with
    | nil => rfl
    | cons a l ih => simp only [List.map_cons, bools, ih, Option.map_some]
  show (bools _).map _ = _
  rw [h]
  simp
theorem data_law {C : Addr} {as : List Sl} {Q : Sl → List Sl → Prop} {X : XD} (h : sp_law as Q X) : sd_law C { nx := fun e => IoIn as e ∧ Q (.val .none) (e.take 1), rt := fun s e => okRes s ∧ IoIn as e ∧ Q s (e.take 1), ex := fun C f d e => IoIn as e ∧ X C f d (e.take 1) } (as ++ List.replicate (2 - as.length) .un) := by
  obtain ⟨ns, rfl, hl, q⟩ := h
  unfold sd_law
  simp (config := { maxSteps := 3000000 }) only [sRaise, dCall, dCallT, argsOf, argOf, slotsOf_s, slotsOf_v, slotsOf_nil, List.nodup_cons, List.nodup_nil, List.not_mem_nil, not_false_eq_true, updE, sSeq, sNext, sIf, sRet, sDrop, sAsg, sPar, sPar3, sBreak, sCont, gN, gSet, gT, gsCons, gsNil, dC, dVar, dOp, dChain, dNeg, dIfE, dAnd, dOr, dNot, dTup, dLst, dFn, dIsi, dM1, dApp, dExt, dSl, dDict1, qNo, qSm, oV, oS, aNil, aCons, aRev, bV, bAnd, bOr, bNot, bYes, iAny, iRg1, iRg2, iEnD, cont, conts, frz, valsOf, fn1, fn2, slotL, setL, fAdd_i, fSub_i, fLt_i, fLe_i, fGt_i, fGe_i, fEq_i, fEq_s, fNe_i, fNe_s, fIs_n, fNot_n, fIx_l, fIx_t, fLen_l, fLen_t, fInt_i, fSl_l, fSl_t, fMax_i, fMin_i, fAbs_i, fTup_l, fTup_t, fList_l, fList_t, wipeD, List.getElem?_cons_zero, List.getElem?_cons_succ, List.getElem?_nil, List.set_cons_zero, List.set_cons_succ, List.cons_append, List.nil_append, List.length_cons, List.length_nil, Nat.reduceAdd, Nat.reduceSub, List.replicate_succ, List.replicate_zero, List.take_succ_cons, List.take_zero, List.reverse_cons, List.reverse_nil, Bool.not_true, Bool.not_false, decide_true, eq_self, Option.bind_some, Option.bind_none, Option.map_some, Option.map_none, Option.some.injEq, Option.isSome_some, exists_eq_left', exists_eq_left, exists_and_left, List.cons.injEq, and_assoc, Sl.val.injEq, PyData.bool.injEq, PyData.int.injEq, PyData.str.injEq, PyData.list.injEq, PyData.tuple.injEq, Opn.v.injEq, true_and, and_true, decide_eq_true_eq, reduceIte, Bool.false_eq_true, if_true, if_false, isStr, Option.any_some, okRes, reduceCtorEq, Zero.zero, Nat.succ_eq_add_one, Nat.reduceLeDiff, ite_true, ite_false, Bool.not_eq_true, decide_eq_false_iff_not]
  refine lc_gen (rangeD 0 (if (if (ns.length : Int) < 3 then (ns.length : Int) else 3) > 1 then (if (ns.length : Int) < 3 then (ns.length : Int) else 3) else 1).toNat) (fun _ => .bool true) [.val (.list (iDs ns)), .un] (fun R hR => ?_) (fun x hx R hR => ?_) ?_
  · simp (config := { maxSteps := 3000000 }) only [sRaise, dCall, dCallT, argsOf, argOf, slotsOf_s, slotsOf_v, slotsOf_nil, List.nodup_cons, List.nodup_nil, List.not_mem_nil, not_false_eq_true, updE, sSeq, sNext, sIf, sRet, sDrop, sAsg, sPar, sPar3, sBreak, sCont, gN, gSet, gT, gsCons, gsNil, dC, dVar, dOp, dChain, dNeg, dIfE, dAnd, dOr, dNot, dTup, dLst, dFn, dIsi, dM1, dApp, dExt, dSl, dDict1, qNo, qSm, oV, oS, aNil, aCons, aRev, bV, bAnd, bOr, bNot, bYes, iAny, iRg1, iRg2, iEnD, cont, conts, frz, valsOf, fn1, fn2, slotL, setL, fAdd_i, fSub_i, fLt_i, fLe_i, fGt_i, fGe_i, fEq_i, fEq_s, fNe_i, fNe_s, fIs_n, fNot_n, fIx_l, fIx_t, fLen_l, fLen_t, fInt_i, fSl_l, fSl_t, fMax_i, fMin_i, fAbs_i, fTup_l, fTup_t, fList_l, fList_t, wipeD, List.getElem?_cons_zero, List.getElem?_cons_succ, List.getElem?_nil, List.set_cons_zero, List.set_cons_succ, List.cons_append, List.nil_append, List.length_cons, List.length_nil, Nat.reduceAdd, Nat.reduceSub, List.replicate_succ, List.replicate_zero, List.take_succ_cons, List.take_zero, List.reverse_cons, List.reverse_nil, Bool.not_true, Bool.not_false, decide_true, eq_self, Option.bind_some, Option.bind_none, Option.map_some, Option.map_none, Option.some.injEq, Option.isSome_some, exists_eq_left', exists_eq_left, exists_and_left, List.cons.injEq, and_assoc, Sl.val.injEq, PyData.bool.injEq, PyData.int.injEq, PyData.str.injEq, PyData.list.injEq, PyData.tuple.injEq, Opn.v.injEq, true_and, and_true, decide_eq_true_eq, reduceIte, Bool.false_eq_true, if_true, if_false, isStr, Option.any_some, okRes, reduceCtorEq, Zero.zero, Nat.succ_eq_add_one, Nat.reduceLeDiff, ite_true, ite_false, Bool.not_eq_true, decide_eq_false_iff_not, iDs_len]
    exact ⟨by split <;> split <;> omega, by split <;> split <;> omega, hR⟩
  · obtain ⟨k, hk, rfl⟩ := range_mem hx
    have hk3 : k < 3 := by
      have : (if (if (ns.length : Int) < 3 then (ns.length : Int) else 3) > 1 then (if (ns.length : Int) < 3 then (ns.length : Int) else 3) else 1) ≤ 3 := by split <;> split <;> omega
      omega
    simp (config := { maxSteps := 3000000 }) only [sRaise, dCall, dCallT, argsOf, argOf, slotsOf_s, slotsOf_v, slotsOf_nil, List.nodup_cons, List.nodup_nil, List.not_mem_nil, not_false_eq_true, updE, sSeq, sNext, sIf, sRet, sDrop, sAsg, sPar, sPar3, sBreak, sCont, gN, gSet, gT, gsCons, gsNil, dC, dVar, dOp, dChain, dNeg, dIfE, dAnd, dOr, dNot, dTup, dLst, dFn, dIsi, dM1, dApp, dExt, dSl, dDict1, qNo, qSm, oV, oS, aNil, aCons, aRev, bV, bAnd, bOr, bNot, bYes, iAny, iRg1, iRg2, iEnD, cont, conts, frz, valsOf, fn1, fn2, slotL, setL, fAdd_i, fSub_i, fLt_i, fLe_i, fGt_i, fGe_i, fEq_i, fEq_s, fNe_i, fNe_s, fIs_n, fNot_n, fIx_l, fIx_t, fLen_l, fLen_t, fInt_i, fSl_l, fSl_t, fMax_i, fMin_i, fAbs_i, fTup_l, fTup_t, fList_l, fList_t, wipeD, List.getElem?_cons_zero, List.getElem?_cons_succ, List.getElem?_nil, List.set_cons_zero, List.set_cons_succ, List.cons_append, List.nil_append, List.length_cons, List.length_nil, Nat.reduceAdd, Nat.reduceSub, List.replicate_succ, List.replicate_zero, List.take_succ_cons, List.take_zero, List.reverse_cons, List.reverse_nil, Bool.not_true, Bool.not_false, decide_true, eq_self, Option.bind_some, Option.bind_none, Option.map_some, Option.map_none, Option.some.injEq, Option.isSome_some, exists_eq_left', exists_eq_left, exists_and_left, List.cons.injEq, and_assoc, Sl.val.injEq, PyData.bool.injEq, PyData.int.injEq, PyData.str.injEq, PyData.list.injEq, PyData.tuple.injEq, Opn.v.injEq, true_and, and_true, decide_eq_true_eq, reduceIte, Bool.false_eq_true, if_true, if_false, isStr, Option.any_some, okRes, reduceCtorEq, Zero.zero, Nat.succ_eq_add_one, Nat.reduceLeDiff, ite_true, ite_false, Bool.not_eq_true, decide_eq_false_iff_not]
    refine ⟨ns, _, rfl, hl, by omega, by omega, fun a b hp => ?_⟩
    simp (config := { maxSteps := 3000000 }) only [sRaise, dCall, dCallT, argsOf, argOf, slotsOf_s, slotsOf_v, slotsOf_nil, List.nodup_cons, List.nodup_nil, List.not_mem_nil, not_false_eq_true, updE, sSeq, sNext, sIf, sRet, sDrop, sAsg, sPar, sPar3, sBreak, sCont, gN, gSet, gT, gsCons, gsNil, dC, dVar, dOp, dChain, dNeg, dIfE, dAnd, dOr, dNot, dTup, dLst, dFn, dIsi, dM1, dApp, dExt, dSl, dDict1, qNo, qSm, oV, oS, aNil, aCons, aRev, bV, bAnd, bOr, bNot, bYes, iAny, iRg1, iRg2, iEnD, cont, conts, frz, valsOf, fn1, fn2, slotL, setL, fAdd_i, fSub_i, fLt_i, fLe_i, fGt_i, fGe_i, fEq_i, fEq_s, fNe_i, fNe_s, fIs_n, fNot_n, fIx_l, fIx_t, fLen_l, fLen_t, fInt_i, fSl_l, fSl_t, fMax_i, fMin_i, fAbs_i, fTup_l, fTup_t, fList_l, fList_t, wipeD, List.getElem?_cons_zero, List.getElem?_cons_succ, List.getElem?_nil, List.set_cons_zero, List.set_cons_succ, List.cons_append, List.nil_append, List.length_cons, List.length_nil, Nat.reduceAdd, Nat.reduceSub, List.replicate_succ, List.replicate_zero, List.take_succ_cons, List.take_zero, List.reverse_cons, List.reverse_nil, Bool.not_true, Bool.not_false, decide_true, eq_self, Option.bind_some, Option.bind_none, Option.map_some, Option.map_none, Option.some.injEq, Option.isSome_some, exists_eq_left', exists_eq_left, exists_and_left, List.cons.injEq, and_assoc, Sl.val.injEq, PyData.bool.injEq, PyData.int.injEq, PyData.str.injEq, PyData.list.injEq, PyData.tuple.injEq, Opn.v.injEq, true_and, and_true, decide_eq_true_eq, reduceIte, Bool.false_eq_true, if_true, if_false, isStr, Option.any_some, okRes, reduceCtorEq, Zero.zero, Nat.succ_eq_add_one, Nat.reduceLeDiff, ite_true, ite_false, Bool.not_eq_true, decide_eq_false_iff_not]
    refine ⟨_, rfl, a, b, rfl, hp, fun a' b' hp' => hR _ rfl⟩
  · simp (config := { maxSteps := 3000000 }) only [sRaise, dCall, dCallT, argsOf, argOf, slotsOf_s, slotsOf_v, slotsOf_nil, List.nodup_cons, List.nodup_nil, List.not_mem_nil, not_false_eq_true, updE, sSeq, sNext, sIf, sRet, sDrop, sAsg, sPar, sPar3, sBreak, sCont, gN, gSet, gT, gsCons, gsNil, dC, dVar, dOp, dChain, dNeg, dIfE, dAnd, dOr, dNot, dTup, dLst, dFn, dIsi, dM1, dApp, dExt, dSl, dDict1, qNo, qSm, oV, oS, aNil, aCons, aRev, bV, bAnd, bOr, bNot, bYes, iAny, iRg1, iRg2, iEnD, cont, conts, frz, valsOf, fn1, fn2, slotL, setL, fAdd_i, fSub_i, fLt_i, fLe_i, fGt_i, fGe_i, fEq_i, fEq_s, fNe_i, fNe_s, fIs_n, fNot_n, fIx_l, fIx_t, fLen_l, fLen_t, fInt_i, fSl_l, fSl_t, fMax_i, fMin_i, fAbs_i, fTup_l, fTup_t, fList_l, fList_t, wipeD, List.getElem?_cons_zero, List.getElem?_cons_succ, List.getElem?_nil, List.set_cons_zero, List.set_cons_succ, List.cons_append, List.nil_append, List.length_cons, List.length_nil, Nat.reduceAdd, Nat.reduceSub, List.replicate_succ, List.replicate_zero, List.take_succ_cons, List.take_zero, List.reverse_cons, List.reverse_nil, Bool.not_true, Bool.not_false, decide_true, eq_self, Option.bind_some, Option.bind_none, Option.map_some, Option.map_none, Option.some.injEq, Option.isSome_some, exists_eq_left', exists_eq_left, exists_and_left, List.cons.injEq, and_assoc, Sl.val.injEq, PyData.bool.injEq, PyData.int.injEq, PyData.str.injEq, PyData.list.injEq, PyData.tuple.injEq, Opn.v.injEq, true_and, and_true, decide_eq_true_eq, reduceIte, Bool.false_eq_true, if_true, if_false, isStr, Option.any_some, okRes, reduceCtorEq, Zero.zero, Nat.succ_eq_add_one, Nat.reduceLeDiff, ite_true, ite_false, Bool.not_eq_true, decide_eq_false_iff_not, all_true]
    exact ⟨ioIn_of (by simp [IoF]), q⟩
end K35
namespace K35
open PySem L2 PySem.Spec PyProof.Rows PD
structure Txt (K : PySem.W.Frag) (mg : Str → Option Value) (C fI : Addr) : Prop where
  low : PySem.LowX.LowTxt K mg C fI
  n_abs : mg "abs" = none
  n_all : mg "all" = none
  n_divmod : mg "divmod" = none
  n_enumerate : mg "enumerate" = none
  n_int : mg "int" = none
  n_isinstance : mg "isinstance" = none
  n_len : mg "len" = none
  n_list : mg "list" = none
  n_max : mg "max" = none
  n_min : mg "min" = none
  n_range : mg "range" = none
  n_repr : mg "repr" = none
  n_str : mg "str" = none
  n_tuple : mg "tuple" = none
  c_BETWEEN : ∃ u, mg "BETWEEN" = some u ∧ RelV (.str "; ") u
  c_FIGURES : ∃ u, mg "FIGURES" = some u ∧ RelV (.str "0123456789") u
  c_GREATEST : ∃ u, mg "GREATEST" = some u ∧ RelV (.int 1000000000000000000) u
  c_MOST_CELLS : ∃ u, mg "MOST_CELLS" = some u ∧ RelV (.int 40) u
  c_NOTHING : ∃ u, mg "NOTHING" = some u ∧ RelV (.str "-") u
  d_number_text : Def K mg "number_text" s_number_text
  d_numbers_text : Def K mg "numbers_text" s_numbers_text
  d_inputs_text : Def K mg "inputs_text" s_inputs_text
  d_number_read : Def K mg "number_read" s_number_read
  d_numbers_read : Def K mg "numbers_read" s_numbers_read
  d_inputs_read : Def K mg "inputs_read" s_inputs_read
  d__law_pot : Def K mg "_law_pot" s__law_pot
  d__law_draw : Def K mg "_law_draw" s__law_draw
  d__law_pick : Def K mg "_law_pick" s__law_pick
  d__law_number : Def K mg "_law_number" s__law_number
  d__law_inputs : Def K mg "_law_inputs" s__law_inputs
  d__law_word : Def K mg "_law_word" s__law_word
  d__law_part : Def K mg "_law_part" s__law_part
  d__law_due : Def K mg "_law_due" s__law_due
  d__law_heard : Def K mg "_law_heard" s__law_heard
  d__law_written : Def K mg "_law_written" s__law_written
  d__law_bent : Def K mg "_law_bent" s__law_bent
  d__law_right : Def K mg "_law_right" s__law_right
  d_law : Def K mg "law" s_law
section
variable {P : Program} {w : World} {K : PySem.W.Frag} {mg : Str → Option Value} {base : Heap} {C fI : Addr}
theorem sc_number_text : FnScope N_number_text ["number"] (defScope s_number_text) := ⟨rfl, rfl, rfl, by decide +kernel, rfl, by decide +kernel, by decide +kernel⟩
theorem ok_number_text (T : Txt K mg C fI)  : OkD P w K mg base 2 "number_text" ["number"] [] sp_number_text := by
  have S := sc_number_text
  refine okD T.d_number_text S (by decide) (fun as Q X h => len_number_text h) (fun _ _ _ _ _ _ us hl => match us, hl with | [_], _ => rfl) (.inl rfl) (sd := sd_number_text) (fun f cdv A outer s H E hr hg => ⟨_, (by exact (pssd_one (by exact (psd_ret (by exact (pd_callTy c_str r_str (by rfl) T.n_str (by decide +kernel) (by exact (pad_cons (by exact (po_var 0)) pad_nil))))))))⟩) (fun as Q X h => data_number_text h)

theorem sc_numbers_text : FnScope N_numbers_text ["numbers"] (defScope s_numbers_text) := ⟨rfl, rfl, rfl, by decide +kernel, rfl, by decide +kernel, by decide +kernel⟩
theorem ok_numbers_text (T : Txt K mg C fI) (G_number_text : OkD P w K mg base 2 "number_text" ["number"] [] sp_number_text) : OkD P w K mg base 3 "numbers_text" ["numbers"] [] sp_numbers_text := by
  have S := sc_numbers_text
  refine okD T.d_numbers_text S (by decide) (fun as Q X h => len_numbers_text h) (fun _ _ _ _ _ _ us hl => match us, hl with | [_], _ => rfl) (.inl rfl) (sd := sd_numbers_text) (fun f cdv A outer s H E hr hg => ⟨_, (by exact (pssd_one (by exact (psd_ret (by exact (pd_if (by exact (pt_cp op_gt r_gt (by exact (po_val (by exact (pd_callB call_len r_len (by rfl) T.n_len PySem.boot_len (by exact (pad_cons (by exact (po_var 0)) pad_nil)))))) (by exact (po_val pd_int)))) (by exact (pd_join (by exact (po_val pd_str)) (by exact (po_val (by exact (pd_lcU (own := [("one", 1)]) (W' := WNo) (by rfl) S.nd (by exact (pid_any (po_val (by exact (pd_var 0))))) (by exact (blkOk_by (own := [("one", 1)]) (N := N_numbers_text) (sc := defScope s_numbers_text) (by decide +kernel))) (by exact fun _ _ _ _ _ => ⟨_, (by exact (pgc_name (i := 1) S.nd (by rfl) (Or.inl (by rfl)) (by decide)))⟩) (by exact fun _ _ _ _ _ => ⟨_, ptsd_nil⟩) (by exact fun _ _ _ _ _ => ⟨_, (by exact (pd_fn G_number_text hr (by decide) hg (by rfl) takesNo (by exact (pad_cons (by exact po_val (by exact (pd_var 1))) pad_nil))))⟩))))))) (by exact (pd_gStr (by rfl) T.c_NOTHING))))))))⟩) (fun as Q X h => data_numbers_text h)

theorem sc_inputs_text : FnScope N_inputs_text ["inputs"] (defScope s_inputs_text) := ⟨rfl, rfl, rfl, by decide +kernel, rfl, by decide +kernel, by decide +kernel⟩
theorem ok_inputs_text (T : Txt K mg C fI) (G_numbers_text : OkD P w K mg base 3 "numbers_text" ["numbers"] [] sp_numbers_text) : OkD P w K mg base 4 "inputs_text" ["inputs"] ["inputs"] sp_inputs_text := by
  have S := sc_inputs_text
  refine okD T.d_inputs_text S (by decide) (fun as Q X h => len_inputs_text h) (fun _ _ _ _ _ _ us hl => match us, hl with | [_], _ => rfl) (.inr fun _ _ _ _ _ _ ws hl => match ws, hl with | [_], _ => rfl) (sd := sd_inputs_text) (fun f cdv A outer s H E hr hg => ⟨_, (by exact (pssd_one (by exact (psd_ret (by exact (pd_join (by exact (po_val (by exact (pd_gStr (by rfl) T.c_BETWEEN)))) (by exact (po_val (by exact (pd_op o_add r_add (by exact (po_val (by exact (pd_lst (by exact (pad_cons (by exact po_val (by exact (pd_fn G_numbers_text hr (by decide) hg (by rfl) (by exact takes_of (by rfl) (by rfl) (by rfl) (by rfl)) (by exact (pad_cons (by exact po_val (by exact (pd_ix ix_seq r_ix (by exact (po_var 0)) (by exact (po_val pd_int))))) pad_nil))))) pad_nil)))))) (by exact (po_val (by exact (pd_lcU (own := [("row", 1)]) (W' := WNo) (by rfl) S.nd (by exact (pid_any (po_val (by exact (pd_ix ix_seq r_ix (by exact (po_var 0)) (by exact (po_val pd_int))))))) (by exact (blkOk_by (own := [("row", 1)]) (N := N_inputs_text) (sc := defScope s_inputs_text) (by decide +kernel))) (by exact fun _ _ _ _ _ => ⟨_, (by exact (pgc_name (i := 1) S.nd (by rfl) (Or.inl (by rfl)) (by decide)))⟩) (by exact fun _ _ _ _ _ => ⟨_, ptsd_nil⟩) (by exact fun _ _ _ _ _ => ⟨_, (by exact (pd_fn G_numbers_text hr (by decide) hg (by rfl) takesNo (by exact (pad_cons (by exact po_val (by exact (pd_var 1))) pad_nil))))⟩)))))))))))))))⟩) (fun as Q X h => data_inputs_text h)

theorem sc_number_read : FnScope N_number_read ["word"] (defScope s_number_read) := ⟨rfl, rfl, rfl, by decide +kernel, rfl, by decide +kernel, by decide +kernel⟩
theorem ok_number_read (T : Txt K mg C fI)  : OkD P w K mg base 2 "number_read" ["word"] [] sp_number_read := by
  have S := sc_number_read
  refine okD T.d_number_read S (by decide) (fun as Q X h => len_number_read h) (fun _ _ _ _ _ _ us hl => match us, hl with | [_], _ => rfl) (.inl rfl) (sd := sd_number_read) (fun f cdv A outer s H E hr hg => ⟨_, (by exact (pssd_cons (by exact (psd_set (i := 1) S.nd (by rfl) (by first | exact Or.inl (by rfl) | exact Or.inr (by rfl)) (by exact (pd_if (by exact (pt_cp (o_eq hr) r_eq (by exact (po_val (by exact (pd_slice (by exact (po_var 0)) pq_none (by exact (pq_some (by exact (po_val pd_int)))))))) (by exact (po_val pd_str)))) (by exact (pd_slice (by exact (po_var 0)) (by exact (pq_some (by exact (po_val pd_int)))) pq_none)) (by exact (pd_var 0))))))
      (by exact (pssd_cons (by exact (psd_if (by exact (ptd_of (pwd_or (by exact (ptd_not (by exact (pt_chainD op_le r_le op_le r_le (by exact (po_val pd_int)) (by exact (po_val (by exact (pd_callB call_len r_len (by rfl) T.n_len PySem.boot_len (by exact (pad_cons (by exact (po_var 1)) pad_nil)))))) (by exact (po_val pd_int)))))) (pwd_or1 (by exact (ptd_not (by exact (pt_valD (by exact (pd_callB (cr_all (by rfl)) r_all (by rfl) T.n_all (by decide +kernel) (by exact (pad_cons (by exact (po_val (by exact (pd_lcU (own := [("sign", 3)]) (W' := WNo) (by rfl) S.nd (by exact (pid_any (po_val (by exact (pd_var 1))))) (by exact (blkOk_by (own := [("sign", 3)]) (N := N_number_read) (sc := defScope s_number_read) (by decide +kernel))) (by exact fun _ _ _ _ _ => ⟨_, (by exact (pgc_name (i := 3) S.nd (by rfl) (Or.inl (by rfl)) (by decide)))⟩) (by exact fun _ _ _ _ _ => ⟨_, ptsd_nil⟩) (by exact fun _ _ _ _ _ => ⟨_, (by exact (pd_cp o_in r_in (by exact (po_var 3)) (by exact (po_val (by exact (pd_gStr (by rfl) T.c_FIGURES))))))⟩))))) pad_nil)))))))))))) (by exact (pssd_one (by exact (psd_ret pd_non)))) pssd_nil))
      (by exact (pssd_cons (by exact (psd_set (i := 2) S.nd (by rfl) (by first | exact Or.inl (by rfl) | exact Or.inr (by rfl)) (by exact (pd_callTy c_int r_int (by rfl) T.n_int (by decide +kernel) (by exact (pad_cons (by exact (po_var 0)) pad_nil))))))
      (by exact (pssd_one (by exact (psd_ret (by exact (pd_if (by exact (ptd_of (pwd_and (by exact (pt_cp (o_eq hr) r_eq (by exact (po_val (by exact (pd_callTy c_str r_str (by rfl) T.n_str (by decide +kernel) (by exact (pad_cons (by exact (po_var 2)) pad_nil)))))) (by exact (po_var 0)))) (pwd_and1 (by exact (pt_cp op_le r_le (by exact (po_val (by exact (pd_callB call_abs r_abs (by rfl) T.n_abs (by decide +kernel) (by exact (pad_cons (by exact (po_var 2)) pad_nil)))))) (by exact (po_val (by exact (pd_gInt (by rfl) T.c_GREATEST)))))))))) (by exact (pd_var 2)) pd_non))))))))))))⟩) (fun as Q X h => data_number_read h)

theorem sc_numbers_read : FnScope N_numbers_read ["part", "most"] (defScope s_numbers_read) := ⟨rfl, rfl, rfl, by decide +kernel, rfl, by decide +kernel, by decide +kernel⟩
theorem ok_numbers_read (T : Txt K mg C fI) (G_number_read : OkD P w K mg base 2 "number_read" ["word"] [] sp_number_read) : OkD P w K mg base 3 "numbers_read" ["part", "most"] [] sp_numbers_read := by
  have S := sc_numbers_read
  refine okD T.d_numbers_read S (by decide) (fun as Q X h => len_numbers_read h) (fun _ _ _ _ _ _ us hl => match us, hl with | [_, _], _ => rfl) (.inl rfl) (sd := sd_numbers_read) (fun f cdv A outer s H E hr hg => ⟨_, (by exact (pssd_cons (by exact (psd_if (by exact (pt_cp (o_eq hr) r_eq (by exact (po_var 0)) (by exact (po_val (by exact (pd_gStr (by rfl) T.c_NOTHING)))))) (by exact (pssd_one (by exact (psd_ret (by exact (pd_tup pad_nil)))))) pssd_nil))
      (by exact (pssd_cons (by exact (psd_set (i := 2) S.nd (by rfl) (by first | exact Or.inl (by rfl) | exact Or.inr (by rfl)) (by exact (pd_callTy call_tuple_of r_tup (by rfl) T.n_tuple (by decide +kernel) (by exact (pad_cons (by exact (po_val (by exact (pd_lcU (own := [("word", 3)]) (W' := WNo) (by rfl) S.nd (by exact (pid_any (po_val (by exact (pd_split (by exact (po_var 0)) (by exact (po_val pd_str))))))) (by exact (blkOk_by (own := [("word", 3)]) (N := N_numbers_read) (sc := defScope s_numbers_read) (by decide +kernel))) (by exact fun _ _ _ _ _ => ⟨_, (by exact (pgc_name (i := 3) S.nd (by rfl) (Or.inl (by rfl)) (by decide)))⟩) (by exact fun _ _ _ _ _ => ⟨_, ptsd_nil⟩) (by exact fun _ _ _ _ _ => ⟨_, (by exact (pd_fn G_number_read hr (by decide) hg (by rfl) takesNo (by exact (pad_cons (by exact po_val (by exact (pd_var 3))) pad_nil))))⟩))))) pad_nil))))))
      (by exact (pssd_one (by exact (psd_ret (by exact (pd_if (by exact (ptd_of (pwd_or (by exact (pt_cp o_in r_in (by exact (po_val pd_non)) (by exact (po_var 2)))) (pwd_or1 (by exact (pt_cp op_gt r_gt (by exact (po_val (by exact (pd_callB call_len r_len (by rfl) T.n_len PySem.boot_len (by exact (pad_cons (by exact (po_var 2)) pad_nil)))))) (by exact (po_var 1)))))))) pd_non (by exact (pd_var 2))))))))))))⟩) (fun as Q X h => data_numbers_read h)

theorem sc_inputs_read : FnScope N_inputs_read ["text", "numbers", "rows"] (defScope s_inputs_read) := ⟨rfl, rfl, rfl, by decide +kernel, rfl, by decide +kernel, by decide +kernel⟩
theorem ok_inputs_read (T : Txt K mg C fI) (G_numbers_read : OkD P w K mg base 3 "numbers_read" ["part", "most"] [] sp_numbers_read) : OkD P w K mg base 4 "inputs_read" ["text", "numbers", "rows"] ["rows", "numbers", "text"] (sp_inputs_read C) := by
  have S := sc_inputs_read
  refine okD T.d_inputs_read S (by decide) (fun as Q X h => len_inputs_read h) (fun _ _ _ _ _ _ us hl => match us, hl with | [_, _, _], _ => rfl) (.inr fun _ _ _ _ _ _ ws hl => match ws, hl with | [_, _, _], _ => rfl) (sd := sd_inputs_read C) (fun f cdv A outer s H E hr hg => ⟨_, (by exact (pssd_cons (by exact (psd_if (by exact (ptd_not (by exact (pt_valD (by exact (pd_isi (by rfl) T.n_isinstance (by exact (po_var 0)) (by rfl) T.n_str (by decide +kernel))))))) (by exact (pssd_one (by exact (psd_raise (by rfl) T.low hr (by exact takes_of (by rfl) (by rfl) (by rfl) (by rfl)) (po_val pd_non))))) pssd_nil))
      (by exact (pssd_cons (by exact (psd_set (i := 3) S.nd (by rfl) (by first | exact Or.inl (by rfl) | exact Or.inr (by rfl)) (by exact (pd_split (by exact (po_var 0)) (by exact (po_val (by exact (pd_gStr (by rfl) T.c_BETWEEN))))))))
      (by exact (pssd_cons (by exact (psd_set (i := 4) S.nd (by rfl) (by first | exact Or.inl (by rfl) | exact Or.inr (by rfl)) (by exact (pd_lst pad_nil))))
      (by exact (pssd_cons (by exact (psd_for (by exact passes_of (by rfl)) (by rfl) (by exact (pid_enum (by rfl) T.n_enumerate (by exact (pad_cons (by exact po_val (by exact (pd_var 3))) pad_nil)))) (by exact (pgd_tup (by rfl) (pgsd_cons (by exact (pgd_name (i := 5) S.nd (by rfl) (by first | exact Or.inl (by rfl) | exact Or.inr (by rfl)))) (pgsd_cons (by exact (pgd_name (i := 6) S.nd (by rfl) (by first | exact Or.inl (by rfl) | exact Or.inr (by rfl)))) pgsd_nil)))) (by exact (pssd_cons (by exact (psd_set (i := 7) S.nd (by rfl) (by first | exact Or.inl (by rfl) | exact Or.inr (by rfl)) (by exact (pd_fn G_numbers_read hr (by decide) hg (by rfl) (by exact takes_of (by rfl) (by rfl) (by rfl) (by rfl)) (by exact (pad_cons (by exact po_val (by exact (pd_var 6))) (pad_cons (by exact po_val (by exact (pd_if (by exact (pt_cp (o_eq hr) r_eq (by exact (po_var 5)) (by exact (po_val pd_int)))) (by exact (pd_var 1)) (by exact (pd_gInt (by rfl) T.c_MOST_CELLS))))) pad_nil)))))))
      (by exact (pssd_cons (by exact (psd_if (by exact (ptd_of (pwd_or (by exact (pt_cp op_isN r_is (by exact (po_var 7)) (by exact (po_val pd_non)))) (pwd_or (by exact (pt_cp op_gt r_gt (by exact (po_var 5)) (by exact (po_var 2)))) (pwd_or1 (by exact (ptd_of (pwd_and (by exact (pt_cp (o_eq hr) r_eq (by exact (po_var 5)) (by exact (po_val pd_int)))) (pwd_and1 (by exact (pt_cp (o_ne hr) r_ne (by exact (po_val (by exact (pd_callB call_len r_len (by rfl) T.n_len PySem.boot_len (by exact (pad_cons (by exact (po_var 7)) pad_nil)))))) (by exact (po_var 1))))))))))))) (by exact (pssd_one (by exact (psd_raise (by rfl) T.low hr (by exact takes_of (by rfl) (by rfl) (by rfl) (by rfl)) (po_val (by exact (pd_var 5))))))) pssd_nil))
      (by exact (pssd_one (by exact (psd_expr (by exact (pd_append 4 (by rfl) (by exact (pd_var 7))))))))))))))
      (by exact (pssd_cons (by exact (psd_if (by exact (pt_cp (o_ne hr) r_ne (by exact (po_val (by exact (pd_callB call_len r_len (by rfl) T.n_len PySem.boot_len (by exact (pad_cons (by exact (po_var 4)) pad_nil)))))) (by exact (po_val (by exact (pd_op o_add r_add (by exact (po_var 2)) (by exact (po_val pd_int)))))))) (by exact (pssd_one (by exact (psd_raise (by rfl) T.low hr (by exact takes_of (by rfl) (by rfl) (by rfl) (by rfl)) (po_val (by exact (pd_callB call_len r_len (by rfl) T.n_len PySem.boot_len (by exact (pad_cons (by exact (po_var 4)) pad_nil))))))))) pssd_nil))
      (by exact (pssd_one (by exact (psd_ret (by exact (pd_tup (by exact (pad_cons (by exact po_val (by exact (pd_ix ix_seq r_ix (by exact (po_var 4)) (by exact (po_val pd_int))))) (pad_cons (by exact po_val (by exact (pd_callTy call_tuple_of r_tup (by rfl) T.n_tuple (by decide +kernel) (by exact (pad_cons (by exact (po_val (by exact (pd_slice (by exact (po_var 4)) (by exact (pq_some (by exact (po_val pd_int)))) pq_none)))) pad_nil))))) pad_nil)))))))))))))))))))⟩) (fun as Q X h => data_inputs_read h)

theorem sc__law_pot : FnScope N__law_pot ["script", "k"] (defScope s__law_pot) := ⟨rfl, rfl, rfl, by decide +kernel, rfl, by decide +kernel, by decide +kernel⟩
theorem ok__law_pot (T : Txt K mg C fI)  : OkD P w K mg base 2 "_law_pot" ["script", "k"] [] sp__law_pot := by
  have S := sc__law_pot
  refine okD T.d__law_pot S (by decide) (fun as Q X h => len__law_pot h) (fun _ _ _ _ _ _ us hl => match us, hl with | [_, _], _ => rfl) (.inl rfl) (sd := sd__law_pot) (fun f cdv A outer s H E hr hg => ⟨_, (by exact (pssd_cons (by exact (psd_set (i := 2) S.nd (by rfl) (by first | exact Or.inl (by rfl) | exact Or.inr (by rfl)) (by exact (pd_if (by exact (pt_cp op_lt r_lt (by exact (po_var 1)) (by exact (po_val (by exact (pd_callB call_len r_len (by rfl) T.n_len PySem.boot_len (by exact (pad_cons (by exact (po_var 0)) pad_nil)))))))) (by exact (pd_callB call_abs r_abs (by rfl) T.n_abs (by decide +kernel) (by exact (pad_cons (by exact (po_val (by exact (pd_ix ix_seq r_ix (by exact (po_var 0)) (by exact (po_var 1)))))) pad_nil)))) (by exact (pd_op o_add r_add (by exact (po_val (by exact (pd_op o_mul r_mul (by exact (po_val pd_int)) (by exact (po_var 1)))))) (by exact (po_val pd_int))))))))
      (by exact (pssd_one (by exact (psd_ret (by exact (pd_lst (by exact (pad_cons (by exact po_val (by exact (pd_callB (call_max2 (by rfl)) r_max (by rfl) T.n_max (by decide +kernel) (by exact (pad_cons (by exact (po_val pd_int)) (pad_cons (by exact (po_val (by exact (pd_op op_sub r_sub (by exact (po_var 2)) (by exact (po_val (by exact (pd_op op_pow r_pow (by exact (po_val pd_int)) (by exact (po_val pd_int)))))))))) pad_nil)))))) (pad_cons (by exact po_val (by exact (pd_op o_add r_add (by exact (po_val (by exact (pd_op op_mod r_mod (by exact (po_val (by exact (pd_callTy c_int r_int (by rfl) T.n_int (by decide +kernel) (by exact (pad_cons (by exact (po_val (by exact (pd_op o_add r_add (by exact (po_val (by exact (pd_op o_add r_add (by exact (po_val (by exact (pd_op o_mul r_mul (by exact (po_val (by exact (pd_op op_mod r_mod (by exact (po_val (by exact (pd_callTy c_int r_int (by rfl) T.n_int (by decide +kernel) (by exact (pad_cons (by exact (po_var 2)) pad_nil)))))) (by exact (po_val pd_int)))))) (by exact (po_val pd_int)))))) (by exact (po_val (by exact (pd_op o_mul r_mul (by exact (po_val pd_int)) (by exact (po_var 1)))))))))) (by exact (po_val pd_int)))))) pad_nil)))))) (by exact (po_val pd_int)))))) (by exact (po_val pd_int))))) pad_nil)))))))))))⟩) (fun as Q X h => data__law_pot h)

theorem sc__law_draw : FnScope N__law_draw ["pot", "many"] (defScope s__law_draw) := ⟨rfl, rfl, rfl, by decide +kernel, rfl, by decide +kernel, by decide +kernel⟩
theorem ok__law_draw (T : Txt K mg C fI)  : OkD P w K mg base 2 "_law_draw" ["pot", "many"] [] sp__law_draw := by
  have S := sc__law_draw
  refine okD T.d__law_draw S (by decide) (fun as Q X h => len__law_draw h) (fun _ _ _ _ _ _ us hl => match us, hl with | [_, _], _ => rfl) (.inl rfl) (sd := sd__law_draw) (fun f cdv A outer s H E hr hg => ⟨_, (by exact (pssd_cons (by exact (psd_if (by exact (pt_cp op_gt r_gt (by exact (po_val (by exact (pd_ix ix_seq r_ix (by exact (po_var 0)) (by exact (po_val pd_int)))))) (by exact (po_val pd_int)))) (by exact (pssd_cons (by exact (psd_asg (by exact (pd_callB call_divmodW r_dvm (by rfl) T.n_divmod (by decide +kernel) (by exact (pad_cons (by exact (po_val (by exact (pd_ix ix_seq r_ix (by exact (po_var 0)) (by exact (po_val pd_int)))))) (pad_cons (by exact (po_var 1)) pad_nil))))) (by exact (pgd_tup (by rfl) (pgsd_cons (by exact (pgd_sub 0 (by rfl) (by exact (po_val pd_int)))) (pgsd_cons (by exact (pgd_name (i := 2) S.nd (by rfl) (by first | exact Or.inl (by rfl) | exact Or.inr (by rfl)))) pgsd_nil))))))
      (by exact (pssd_one (by exact (psd_ret (by exact (pd_var 2)))))))) pssd_nil))
      (by exact (pssd_cons (by exact (psd_asg (by exact (pd_op op_mod r_mod (by exact (po_val (by exact (pd_callTy c_int r_int (by rfl) T.n_int (by decide +kernel) (by exact (pad_cons (by exact (po_val (by exact (pd_op o_add r_add (by exact (po_val (by exact (pd_op o_mul r_mul (by exact (po_val (by exact (pd_ix ix_seq r_ix (by exact (po_var 0)) (by exact (po_val pd_int)))))) (by exact (po_val pd_int)))))) (by exact (po_val pd_int)))))) pad_nil)))))) (by exact (po_val pd_int)))) (by exact (pgd_sub 0 (by rfl) (by exact (po_val pd_int))))))
      (by exact (pssd_one (by exact (psd_ret (by exact (pd_op op_mod r_mod (by exact (po_val (by exact (pd_callTy c_int r_int (by rfl) T.n_int (by decide +kernel) (by exact (pad_cons (by exact (po_val (by exact (pd_op op_fdivW r_div (by exact (po_val (by exact (pd_op op_mod r_mod (by exact (po_val (by exact (pd_callTy c_int r_int (by rfl) T.n_int (by decide +kernel) (by exact (pad_cons (by exact (po_val (by exact (pd_op o_mul r_mul (by exact (po_val (by exact (pd_ix ix_seq r_ix (by exact (po_var 0)) (by exact (po_val pd_int)))))) (by exact (po_val (by exact (pd_ix ix_seq r_ix (by exact (po_var 0)) (by exact (po_val pd_int)))))))))) pad_nil)))))) (by exact (po_val pd_int)))))) (by exact (po_val pd_int)))))) pad_nil)))))) (by exact (po_var 1))))))))))))⟩) (fun as Q X h => data__law_draw h)

theorem sc__law_pick : FnScope N__law_pick ["pot", "some"] (defScope s__law_pick) := ⟨rfl, rfl, rfl, by decide +kernel, rfl, by decide +kernel, by decide +kernel⟩
theorem ok__law_pick (T : Txt K mg C fI) (G__law_draw : OkD P w K mg base 2 "_law_draw" ["pot", "many"] [] sp__law_draw) : OkD P w K mg base 3 "_law_pick" ["pot", "some"] [] sp__law_pick := by
  have S := sc__law_pick
  refine okD T.d__law_pick S (by decide) (fun as Q X h => len__law_pick h) (fun _ _ _ _ _ _ us hl => match us, hl with | [_, _], _ => rfl) (.inl rfl) (sd := sd__law_pick) (fun f cdv A outer s H E hr hg => ⟨_, (by exact (pssd_one (by exact (psd_ret (by exact (pd_ix ix_seq r_ix (by exact (po_var 1)) (by exact (po_val (by exact (pd_fn G__law_draw hr (by decide) hg (by rfl) (by exact takes_of (by rfl) (by rfl) (by rfl) (by rfl)) (by exact (pad_cons (by exact (po_var 0)) (pad_cons (by exact po_val (by exact (pd_callB call_len r_len (by rfl) T.n_len PySem.boot_len (by exact (pad_cons (by exact (po_var 1)) pad_nil))))) pad_nil)))))))))))))⟩) (fun as Q X h => data__law_pick h)

theorem sc__law_number : FnScope N__law_number ["pot"] (defScope s__law_number) := ⟨rfl, rfl, rfl, by decide +kernel, rfl, by decide +kernel, by decide +kernel⟩
theorem ok__law_number (T : Txt K mg C fI) (G__law_draw : OkD P w K mg base 2 "_law_draw" ["pot", "many"] [] sp__law_draw) (G__law_pick : OkD P w K mg base 3 "_law_pick" ["pot", "some"] [] sp__law_pick) : OkD P w K mg base 4 "_law_number" ["pot"] [] sp__law_number := by
  have S := sc__law_number
  refine okD T.d__law_number S (by decide) (fun as Q X h => len__law_number h) (fun _ _ _ _ _ _ us hl => match us, hl with | [_], _ => rfl) (.inl rfl) (sd := sd__law_number) (fun f cdv A outer s H E hr hg => ⟨_, (by exact (pssd_one (by exact (psd_ret (by exact (pd_fn G__law_pick hr (by decide) hg (by rfl) (by exact takes_of (by rfl) (by rfl) (by rfl) (by rfl)) (by exact (pad_cons (by exact (po_var 0)) (pad_cons (by exact po_val (by exact (pd_lst (by exact (pad_cons (by exact po_val pd_int) (pad_cons (by exact po_val pd_int) (pad_cons (by exact po_val (by exact (pd_neg (by exact (po_val pd_int))))) (pad_cons (by exact po_val pd_int) (pad_cons (by exact po_val pd_int) (pad_cons (by exact po_val (by exact (pd_neg (by exact (po_val pd_int))))) (pad_cons (by exact po_val (by exact (pd_op op_pow r_pow (by exact (po_val pd_int)) (by exact (po_val pd_int))))) (pad_cons (by exact po_val (by exact (pd_op op_sub r_sub (by exact (po_val pd_int)) (by exact (po_val (by exact (pd_op op_pow r_pow (by exact (po_val pd_int)) (by exact (po_val pd_int))))))))) (pad_cons (by exact po_val (by exact (pd_op op_sub r_sub (by exact (po_val (by exact (pd_op op_pow r_pow (by exact (po_val pd_int)) (by exact (po_val pd_int)))))) (by exact (po_val pd_int))))) (pad_cons (by exact po_val (by exact (pd_op op_sub r_sub (by exact (po_val (by exact (pd_fn G__law_draw hr (by decide) hg (by rfl) (by exact takes_of (by rfl) (by rfl) (by rfl) (by rfl)) (by exact (pad_cons (by exact (po_var 0)) (pad_cons (by exact po_val pd_int) pad_nil))))))) (by exact (po_val pd_int))))) pad_nil)))))))))))))) pad_nil)))))))))⟩) (fun as Q X h => data__law_number h)

theorem sc__law_inputs : FnScope N__law_inputs ["pot"] (defScope s__law_inputs) := ⟨rfl, rfl, rfl, by decide +kernel, rfl, by decide +kernel, by decide +kernel⟩
theorem ok__law_inputs (T : Txt K mg C fI) (G__law_draw : OkD P w K mg base 2 "_law_draw" ["pot", "many"] [] sp__law_draw) (G__law_pick : OkD P w K mg base 3 "_law_pick" ["pot", "some"] [] sp__law_pick) (G__law_number : OkD P w K mg base 4 "_law_number" ["pot"] [] sp__law_number) : OkD P w K mg base 5 "_law_inputs" ["pot"] [] sp__law_inputs := by
  have S := sc__law_inputs
  refine okD T.d__law_inputs S (by decide) (fun as Q X h => len__law_inputs h) (fun _ _ _ _ _ _ us hl => match us, hl with | [_], _ => rfl) (.inl rfl) (sd := sd__law_inputs) (fun f cdv A outer s H E hr hg => ⟨_, (by exact (pssd_cons (by exact (psd_par (i := 1) (j := 2) (by rfl) S.nd (by rfl) (by rfl) (by decide) (by rfl) (by rfl) (by exact (pd_lst pad_nil)) (by exact (pd_fn G__law_draw hr (by decide) hg (by rfl) (by exact takes_of (by rfl) (by rfl) (by rfl) (by rfl)) (by exact (pad_cons (by exact (po_var 0)) (pad_cons (by exact po_val pd_int) pad_nil))))) (by rfl)))
      (by exact (pssd_cons (by exact (psd_for (by exact passes_of (by rfl)) (by rfl) (by exact (pid_range1 (by rfl) T.n_range (by exact (pad_cons (by exact (po_val (by exact (pd_fn G__law_draw hr (by decide) hg (by rfl) (by exact takes_of (by rfl) (by rfl) (by rfl) (by rfl)) (by exact (pad_cons (by exact (po_var 0)) (pad_cons (by exact po_val pd_int) pad_nil))))))) pad_nil)))) (by exact (pgd_name (i := 3) S.nd (by rfl) (by first | exact Or.inl (by rfl) | exact Or.inr (by rfl)))) (by exact (pssd_cons (by exact (psd_set (i := 4) S.nd (by rfl) (by first | exact Or.inl (by rfl) | exact Or.inr (by rfl)) (by exact (pd_fn G__law_pick hr (by decide) hg (by rfl) (by exact takes_of (by rfl) (by rfl) (by rfl) (by rfl)) (by exact (pad_cons (by exact (po_var 0)) (pad_cons (by exact po_val (by exact (pd_lst (by exact (pad_cons (by exact po_val pd_int) (pad_cons (by exact po_val pd_int) (pad_cons (by exact po_val pd_int) (pad_cons (by exact po_val pd_int) (pad_cons (by exact po_val pd_int) (pad_cons (by exact po_val pd_int) pad_nil)))))))))) pad_nil)))))))
      (by exact (pssd_one (by exact (psd_expr (by exact (pd_append 1 (by rfl) (by exact (pd_if (by exact (ptd_of (pwd_and (by exact (pt_cp (o_ne hr) r_ne (by exact (po_var 1)) (by exact (po_val (by exact (pd_lst pad_nil)))))) (pwd_and1 (by exact (pt_cp (o_eq hr) r_eq (by exact (po_val (by exact (pd_fn G__law_draw hr (by decide) hg (by rfl) (by exact takes_of (by rfl) (by rfl) (by rfl) (by rfl)) (by exact (pad_cons (by exact (po_var 0)) (pad_cons (by exact po_val pd_int) pad_nil))))))) (by exact (po_val pd_int)))))))) (by exact (pd_ix ix_seq r_ix (by exact (po_var 1)) (by exact (po_val (by exact (pd_neg (by exact (po_val pd_int)))))))) (by exact (pd_callTy call_tuple_of r_tup (by rfl) T.n_tuple (by decide +kernel) (by exact (pad_cons (by exact (po_val (by exact (pd_lcU (own := [("at", 5)]) (W' := WNo) (by rfl) S.nd (by exact (pid_range1 (by rfl) T.n_range (by exact (pad_cons (by exact (po_var 4)) pad_nil)))) (by exact (blkOk_by (own := [("at", 5)]) (N := N__law_inputs) (sc := defScope s__law_inputs) (by decide +kernel))) (by exact fun _ _ _ _ _ => ⟨_, (by exact (pgc_name (i := 5) S.nd (by rfl) (Or.inl (by rfl)) (by decide)))⟩) (by exact fun _ _ _ _ _ => ⟨_, ptsd_nil⟩) (by exact fun _ _ _ _ _ => ⟨_, (by exact (pd_fn G__law_number hr (by decide) hg (by rfl) takesNo (by exact (pad_cons (by exact (po_var 0)) pad_nil))))⟩))))) pad_nil))))))))))))))))
      (by exact (pssd_one (by exact (psd_ret (by exact (pd_tup (by exact (pad_cons (by exact po_val (by exact (pd_callTy call_tuple_of r_tup (by rfl) T.n_tuple (by decide +kernel) (by exact (pad_cons (by exact (po_val (by exact (pd_lcU (own := [("at", 5)]) (W' := WNo) (by rfl) S.nd (by exact (pid_range1 (by rfl) T.n_range (by exact (pad_cons (by exact (po_var 2)) pad_nil)))) (by exact (blkOk_by (own := [("at", 5)]) (N := N__law_inputs) (sc := defScope s__law_inputs) (by decide +kernel))) (by exact fun _ _ _ _ _ => ⟨_, (by exact (pgc_name (i := 5) S.nd (by rfl) (Or.inl (by rfl)) (by decide)))⟩) (by exact fun _ _ _ _ _ => ⟨_, ptsd_nil⟩) (by exact fun _ _ _ _ _ => ⟨_, (by exact (pd_fn G__law_number hr (by decide) hg (by rfl) takesNo (by exact (pad_cons (by exact (po_var 0)) pad_nil))))⟩))))) pad_nil))))) (pad_cons (by exact po_val (by exact (pd_callTy call_tuple_of r_tup (by rfl) T.n_tuple (by decide +kernel) (by exact (pad_cons (by exact (po_var 1)) pad_nil))))) pad_nil)))))))))))))⟩) (fun as Q X h => data__law_inputs h)

theorem sc__law_word : FnScope N__law_word ["word"] (defScope s__law_word) := ⟨rfl, rfl, rfl, by decide +kernel, rfl, by decide +kernel, by decide +kernel⟩
theorem ok__law_word (T : Txt K mg C fI)  : OkD P w K mg base 2 "_law_word" ["word"] [] sp__law_word := by
  have S := sc__law_word
  refine okD T.d__law_word S (by decide) (fun as Q X h => len__law_word h) (fun _ _ _ _ _ _ us hl => match us, hl with | [_], _ => rfl) (.inl rfl) (sd := sd__law_word) (fun f cdv A outer s H E hr hg => ⟨_, (by exact (pssd_cons (by exact (psd_set (i := 1) S.nd (by rfl) (by first | exact Or.inl (by rfl) | exact Or.inr (by rfl)) (by exact (pd_if (by exact (pt_cp (o_eq hr) r_eq (by exact (po_val (by exact (pd_slice (by exact (po_var 0)) pq_none (by exact (pq_some (by exact (po_val pd_int)))))))) (by exact (po_val pd_str)))) (by exact (pd_slice (by exact (po_var 0)) (by exact (pq_some (by exact (po_val pd_int)))) pq_none)) (by exact (pd_var 0))))))
      (by exact (pssd_cons (by exact (psd_if (by exact (ptd_of (pwd_or (by exact (ptd_not (by exact (pt_chainD op_le r_le op_le r_le (by exact (po_val pd_int)) (by exact (po_val (by exact (pd_callB call_len r_len (by rfl) T.n_len PySem.boot_len (by exact (pad_cons (by exact (po_var 1)) pad_nil)))))) (by exact (po_val pd_int)))))) (pwd_or1 (by exact (ptd_not (by exact (pt_valD (by exact (pd_callB (cr_all (by rfl)) r_all (by rfl) T.n_all (by decide +kernel) (by exact (pad_cons (by exact (po_val (by exact (pd_lcU (own := [("sign", 3)]) (W' := WNo) (by rfl) S.nd (by exact (pid_any (po_val (by exact (pd_var 1))))) (by exact (blkOk_by (own := [("sign", 3)]) (N := N__law_word) (sc := defScope s__law_word) (by decide +kernel))) (by exact fun _ _ _ _ _ => ⟨_, (by exact (pgc_name (i := 3) S.nd (by rfl) (Or.inl (by rfl)) (by decide)))⟩) (by exact fun _ _ _ _ _ => ⟨_, ptsd_nil⟩) (by exact fun _ _ _ _ _ => ⟨_, (by exact (pd_cp o_in r_in (by exact (po_var 3)) (by exact (po_val pd_str))))⟩))))) pad_nil)))))))))))) (by exact (pssd_one (by exact (psd_ret pd_non)))) pssd_nil))
      (by exact (pssd_cons (by exact (psd_if (by exact (ptd_of (pwd_and (by exact (pt_cp (o_eq hr) r_eq (by exact (po_val (by exact (pd_ix ix_seq r_ix (by exact (po_var 1)) (by exact (po_val pd_int)))))) (by exact (po_val pd_str)))) (pwd_and1 (by exact (pt_cp (o_ne hr) r_ne (by exact (po_var 0)) (by exact (po_val pd_str)))))))) (by exact (pssd_one (by exact (psd_ret pd_non)))) pssd_nil))
      (by exact (pssd_cons (by exact (psd_set (i := 2) S.nd (by rfl) (by first | exact Or.inl (by rfl) | exact Or.inr (by rfl)) pd_int))
      (by exact (pssd_cons (by exact (psd_for (by exact passes_of (by rfl)) (by rfl) (by exact (pid_any (po_val (by exact (pd_var 1))))) (by exact (pgd_name (i := 3) S.nd (by rfl) (by first | exact Or.inl (by rfl) | exact Or.inr (by rfl)))) (by exact (pssd_one (by exact (psd_set (i := 2) S.nd (by rfl) (by first | exact Or.inl (by rfl) | exact Or.inr (by rfl)) (by exact (pd_op o_add r_add (by exact (po_val (by exact (pd_op o_mul r_mul (by exact (po_var 2)) (by exact (po_val pd_int)))))) (by exact (po_val (by exact (pd_index (by exact (po_val pd_str)) (by exact (po_var 3))))))))))))))
      (by exact (pssd_one (by exact (psd_ret (by exact (pd_if (by exact (pt_cp op_gt r_gt (by exact (po_var 2)) (by exact (po_val (by exact (pd_op op_pow r_pow (by exact (po_val pd_int)) (by exact (po_val pd_int)))))))) pd_non (by exact (pd_if (by exact (pt_cp (o_eq hr) r_eq (by exact (po_val (by exact (pd_slice (by exact (po_var 0)) pq_none (by exact (pq_some (by exact (po_val pd_int)))))))) (by exact (po_val pd_str)))) (by exact (pd_op op_sub r_sub (by exact (po_val pd_int)) (by exact (po_var 2)))) (by exact (pd_var 2))))))))))))))))))))⟩) (fun as Q X h => data__law_word h)

theorem sc__law_part : FnScope N__law_part ["part"] (defScope s__law_part) := ⟨rfl, rfl, rfl, by decide +kernel, rfl, by decide +kernel, by decide +kernel⟩
theorem ok__law_part (T : Txt K mg C fI) (G__law_word : OkD P w K mg base 2 "_law_word" ["word"] [] sp__law_word) : OkD P w K mg base 3 "_law_part" ["part"] [] sp__law_part := by
  have S := sc__law_part
  refine okD T.d__law_part S (by decide) (fun as Q X h => len__law_part h) (fun _ _ _ _ _ _ us hl => match us, hl with | [_], _ => rfl) (.inl rfl) (sd := sd__law_part) (fun f cdv A outer s H E hr hg => ⟨_, (by exact (pssd_cons (by exact (psd_if (by exact (pt_cp (o_eq hr) r_eq (by exact (po_var 0)) (by exact (po_val pd_str)))) (by exact (pssd_one (by exact (psd_ret (by exact (pd_tup pad_nil)))))) pssd_nil))
      (by exact (pssd_cons (by exact (psd_set (i := 1) S.nd (by rfl) (by first | exact Or.inl (by rfl) | exact Or.inr (by rfl)) (by exact (pd_callTy call_tuple_of r_tup (by rfl) T.n_tuple (by decide +kernel) (by exact (pad_cons (by exact (po_val (by exact (pd_lcU (own := [("word", 2)]) (W' := WNo) (by rfl) S.nd (by exact (pid_any (po_val (by exact (pd_split (by exact (po_var 0)) (by exact (po_val pd_str))))))) (by exact (blkOk_by (own := [("word", 2)]) (N := N__law_part) (sc := defScope s__law_part) (by decide +kernel))) (by exact fun _ _ _ _ _ => ⟨_, (by exact (pgc_name (i := 2) S.nd (by rfl) (Or.inl (by rfl)) (by decide)))⟩) (by exact fun _ _ _ _ _ => ⟨_, ptsd_nil⟩) (by exact fun _ _ _ _ _ => ⟨_, (by exact (pd_fn G__law_word hr (by decide) hg (by rfl) takesNo (by exact (pad_cons (by exact po_val (by exact (pd_var 2))) pad_nil))))⟩))))) pad_nil))))))
      (by exact (pssd_one (by exact (psd_ret (by exact (pd_if (by exact (pt_cp o_in r_in (by exact (po_val pd_non)) (by exact (po_var 1)))) pd_non (by exact (pd_var 1))))))))))))⟩) (fun as Q X h => data__law_part h)

theorem sc__law_due : FnScope N__law_due ["text", "numbers", "rows"] (defScope s__law_due) := ⟨rfl, rfl, rfl, by decide +kernel, rfl, by decide +kernel, by decide +kernel⟩
theorem ok__law_due (T : Txt K mg C fI) (G__law_part : OkD P w K mg base 3 "_law_part" ["part"] [] sp__law_part) : OkD P w K mg base 4 "_law_due" ["text", "numbers", "rows"] [] sp__law_due := by
  have S := sc__law_due
  refine okD T.d__law_due S (by decide) (fun as Q X h => len__law_due h) (fun _ _ _ _ _ _ us hl => match us, hl with | [_, _, _], _ => rfl) (.inl rfl) (sd := sd__law_due) (fun f cdv A outer s H E hr hg => ⟨_, (by exact (pssd_cons (by exact (psd_par (i := 3) (j := 4) (by rfl) S.nd (by rfl) (by rfl) (by decide) (by rfl) (by rfl) (by exact (pd_split (by exact (po_var 0)) (by exact (po_val pd_str)))) (by exact (pd_lst pad_nil)) (by rfl)))
      (by exact (pssd_cons (by exact (psd_for (by exact passes_of (by rfl)) (by rfl) (by exact (pid_enum (by rfl) T.n_enumerate (by exact (pad_cons (by exact po_val (by exact (pd_var 3))) pad_nil)))) (by exact (pgd_tup (by rfl) (pgsd_cons (by exact (pgd_name (i := 5) S.nd (by rfl) (by first | exact Or.inl (by rfl) | exact Or.inr (by rfl)))) (pgsd_cons (by exact (pgd_name (i := 6) S.nd (by rfl) (by first | exact Or.inl (by rfl) | exact Or.inr (by rfl)))) pgsd_nil)))) (by exact (pssd_cons (by exact (psd_set (i := 7) S.nd (by rfl) (by first | exact Or.inl (by rfl) | exact Or.inr (by rfl)) (by exact (pd_fn G__law_part hr (by decide) hg (by rfl) (by exact takes_of (by rfl) (by rfl) (by rfl) (by rfl)) (by exact (pad_cons (by exact po_val (by exact (pd_var 6))) pad_nil))))))
      (by exact (pssd_cons (by exact (psd_if (by exact (ptd_of (pwd_or (by exact (pt_cp op_isN r_is (by exact (po_var 7)) (by exact (po_val pd_non)))) (pwd_or (by exact (pt_cp op_gt r_gt (by exact (po_var 5)) (by exact (po_var 2)))) (pwd_or (by exact (ptd_of (pwd_and (by exact (pt_cp (o_ne hr) r_ne (by exact (po_val (by exact (pd_callB call_len r_len (by rfl) T.n_len PySem.boot_len (by exact (pad_cons (by exact (po_var 7)) pad_nil)))))) (by exact (po_var 1)))) (pwd_and1 (by exact (pt_cp (o_eq hr) r_eq (by exact (po_var 5)) (by exact (po_val pd_int)))))))) (pwd_or1 (by exact (pt_cp op_gt r_gt (by exact (po_val (by exact (pd_callB call_len r_len (by rfl) T.n_len PySem.boot_len (by exact (pad_cons (by exact (po_var 7)) pad_nil)))))) (by exact (po_val pd_int)))))))))) (by exact (pssd_one (by exact (psd_ret (by exact (pd_lst (by exact (pad_cons (by exact po_val pd_str) (pad_cons (by exact po_val (by exact (pd_var 5))) pad_nil))))))))) pssd_nil))
      (by exact (pssd_one (by exact (psd_expr (by exact (pd_append 4 (by rfl) (by exact (pd_var 7))))))))))))))
      (by exact (pssd_one (by exact (psd_ret (by exact (pd_if (by exact (pt_cp (o_eq hr) r_eq (by exact (po_val (by exact (pd_callB call_len r_len (by rfl) T.n_len PySem.boot_len (by exact (pad_cons (by exact (po_var 3)) pad_nil)))))) (by exact (po_val (by exact (pd_op o_add r_add (by exact (po_var 2)) (by exact (po_val pd_int)))))))) (by exact (pd_lst (by exact (pad_cons (by exact po_val pd_str) (pad_cons (by exact po_val (by exact (pd_tup (by exact (pad_cons (by exact po_val (by exact (pd_ix ix_seq r_ix (by exact (po_var 4)) (by exact (po_val pd_int))))) (pad_cons (by exact po_val (by exact (pd_callTy call_tuple_of r_tup (by rfl) T.n_tuple (by decide +kernel) (by exact (pad_cons (by exact (po_val (by exact (pd_slice (by exact (po_var 4)) (by exact (pq_some (by exact (po_val pd_int)))) pq_none)))) pad_nil))))) pad_nil)))))) pad_nil))))) (by exact (pd_lst (by exact (pad_cons (by exact po_val pd_str) (pad_cons (by exact po_val (by exact (pd_callB call_len r_len (by rfl) T.n_len PySem.boot_len (by exact (pad_cons (by exact (po_var 3)) pad_nil))))) pad_nil)))))))))))))))⟩) (fun as Q X h => data__law_due h)

theorem sc__law_heard : FnScope N__law_heard ["text", "numbers", "rows"] (defScope s__law_heard) := ⟨rfl, rfl, rfl, by decide +kernel, rfl, by decide +kernel, by decide +kernel⟩
theorem ok__law_heard (T : Txt K mg C fI) (G_inputs_read : OkD P w K mg base 4 "inputs_read" ["text", "numbers", "rows"] ["rows", "numbers", "text"] (sp_inputs_read C)) : OkD P w K mg base 5 "_law_heard" ["text", "numbers", "rows"] [] sp__law_heard := by
  have S := sc__law_heard
  refine okD T.d__law_heard S (by decide) (fun as Q X h => len__law_heard h) (fun _ _ _ _ _ _ us hl => match us, hl with | [_, _, _], _ => rfl) (.inl rfl) (sd := sd__law_heard C) (fun f cdv A outer s H E hr hg => ⟨_, (by exact (pssd_cons (by exact (psd_set (i := 3) S.nd (by rfl) (by first | exact Or.inl (by rfl) | exact Or.inr (by rfl)) pd_non))
      (by exact (pssd_cons (by exact (psd_try (i := 4) (su := sTell 4 3 "bad") (f := "position") (ts := fun a0 cls dc => tAsg (tLst (tCons (tC (.str "bad")) (tCons (tByLow C a0 cls dc (tVar 4)) tNil))) (gName 3)) (by rfl) (by rfl) S.nd (by rfl) (by rfl) ⟨(by rfl), by decide, .inl T.low.gC⟩ (takes_of (by rfl) (by rfl) (by rfl) (by rfl)) (by rfl) T.low.te
      (by exact uB_ok (fun W pn xe tk' => ⟨_, (by exact (pssd_one (by exact (psd_set (i := 3) S.nd (by rfl) (by first | exact Or.inl (by rfl) | exact Or.inr (by rfl)) (by exact (pd_lst (by exact (pad_cons (by exact po_val pd_str) (pad_cons (by exact po_val (by exact (pd_fn G_inputs_read hr (by decide) hg (by rfl) tk' (by exact (pad_cons (by exact po_val (by exact (pd_var 0))) (pad_cons (by exact po_val (by exact (pd_var 1))) (pad_cons (by exact po_val (by exact (pd_var 2))) pad_nil))))))) pad_nil)))))))))⟩))
      (fun a0 oe cls dc pn hz hf => pss_one (ps_set (i := 3) S.nd (by rfl) (Or.inl (by rfl)) (pe_lst (pa_cons pe_str (pa_cons (pe_byLow T.low hz hf (pv 4)) pa_nil)))))
      (fun a0 dd x σ H env TT D Dd v d hk r hd hi lk h => sim_tell a0 dd x σ H env TT D Dd v d hk r hd hi lk h)))
      (by exact (pssd_one (by exact (psd_ret (by exact (pd_var 3))))))))))⟩) (fun as Q X h => data__law_heard h)

theorem sc__law_written : FnScope N__law_written ["inputs"] (defScope s__law_written) := ⟨rfl, rfl, rfl, by decide +kernel, rfl, by decide +kernel, by decide +kernel⟩
theorem ok__law_written (T : Txt K mg C fI)  : OkD P w K mg base 2 "_law_written" ["inputs"] [] sp__law_written := by
  have S := sc__law_written
  refine okD T.d__law_written S (by decide) (fun as Q X h => len__law_written h) (fun _ _ _ _ _ _ us hl => match us, hl with | [_], _ => rfl) (.inl rfl) (sd := sd__law_written) (fun f cdv A outer s H E hr hg => ⟨_, (by exact (pssd_cons (by exact (psd_setLcU (i := 1) (own := [("some", 2)]) (W' := WNo) (by rfl) S.nd (by rfl) (by rfl) (sw_true (by rfl) (by rfl) (by rfl) (by decide +kernel)) (by exact (pid_any (po_val (by exact (pd_op o_add r_add (by exact (po_val (by exact (pd_lst (by exact (pad_cons (by exact po_val (by exact (pd_ix ix_seq r_ix (by exact (po_var 0)) (by exact (po_val pd_int))))) pad_nil)))))) (by exact (po_val (by exact (pd_callTy call_list_of r_list (by rfl) T.n_list (by decide +kernel) (by exact (pad_cons (by exact (po_val (by exact (pd_ix ix_seq r_ix (by exact (po_var 0)) (by exact (po_val pd_int)))))) pad_nil))))))))))) (by exact (blkOk_by (own := [("some", 2)]) (N := N__law_written) (sc := defScope s__law_written) (by decide +kernel))) (by exact fun _ _ _ _ _ => ⟨_, (by exact (pgc_name (i := 2) S.nd (by rfl) (Or.inl (by rfl)) (by decide)))⟩) (by exact fun _ _ _ _ _ => ⟨_, ptsd_nil⟩) (by exact fun _ _ _ _ _ => ⟨_, (by exact (pd_if (by exact (pt_cp op_gt r_gt (by exact (po_val (by exact (pd_callB call_len r_len (by rfl) T.n_len PySem.boot_len (by exact (pad_cons (by exact (po_var 2)) pad_nil)))))) (by exact (po_val pd_int)))) (by exact (pd_join (by exact (po_val pd_str)) (by exact (po_val (by exact (pd_lcU (own := [("one", 3)]) (W' := WNo) (by rfl) S.nd (by exact (pid_any (po_val (by exact (pd_var 2))))) (by exact (blkOk_by (by kernel_rfl))) (by exact fun _ _ _ _ _ => ⟨_, (by exact (pgc_name (i := 3) S.nd (by rfl) (Or.inl (by rfl)) (by decide)))⟩) (by exact fun _ _ _ _ _ => ⟨_, ptsd_nil⟩) (by exact fun _ _ _ _ _ => ⟨_, (by exact (pd_callTy c_str r_str (by rfl) T.n_str (by decide +kernel) (by exact (pad_cons (by exact (po_var 3)) pad_nil))))⟩))))))) pd_str))⟩)))
      (by exact (pssd_one (by exact (psd_ret (by exact (pd_join (by exact (po_val pd_str)) (by exact (po_var 1))))))))))⟩) (fun as Q X h => data__law_written h)

theorem sc__law_bent : FnScope N__law_bent ["pot", "text"] (defScope s__law_bent) := ⟨rfl, rfl, rfl, by decide +kernel, rfl, by decide +kernel, by decide +kernel⟩
theorem ok__law_bent (T : Txt K mg C fI) (G__law_draw : OkD P w K mg base 2 "_law_draw" ["pot", "many"] [] sp__law_draw) (G__law_pick : OkD P w K mg base 3 "_law_pick" ["pot", "some"] [] sp__law_pick) : OkD P w K mg base 4 "_law_bent" ["pot", "text"] [] sp__law_bent := by
  have S := sc__law_bent
  refine okD T.d__law_bent S (by decide) (fun as Q X h => len__law_bent h) (fun _ _ _ _ _ _ us hl => match us, hl with | [_, _], _ => rfl) (.inl rfl) (sd := sd__law_bent) (fun f cdv A outer s H E hr hg => ⟨_, (by exact (pssd_cons (by exact (psd_par (i := 2) (j := 3) (by rfl) S.nd (by rfl) (by rfl) (by decide) (by rfl) (by rfl) (by exact (pd_fn G__law_draw hr (by decide) hg (by rfl) (by exact takes_of (by rfl) (by rfl) (by rfl) (by rfl)) (by exact (pad_cons (by exact (po_var 0)) (pad_cons (by exact po_val pd_int) pad_nil))))) (by exact (pd_fn G__law_draw hr (by decide) hg (by rfl) (by exact takes_of (by rfl) (by rfl) (by rfl) (by rfl)) (by exact (pad_cons (by exact (po_var 0)) (pad_cons (by exact po_val (by exact (pd_op o_add r_add (by exact (po_val (by exact (pd_callB call_len r_len (by rfl) T.n_len PySem.boot_len (by exact (pad_cons (by exact (po_var 1)) pad_nil)))))) (by exact (po_val pd_int))))) pad_nil))))) (by rfl)))
      (by exact (pssd_cons (by exact (psd_set (i := 4) S.nd (by rfl) (by first | exact Or.inl (by rfl) | exact Or.inr (by rfl)) (by exact (pd_split (by exact (po_var 1)) (by exact (po_val pd_str))))))
      (by exact (pssd_cons (by exact (psd_set (i := 5) S.nd (by rfl) (by first | exact Or.inl (by rfl) | exact Or.inr (by rfl)) (by exact (pd_fn G__law_draw hr (by decide) hg (by rfl) (by exact takes_of (by rfl) (by rfl) (by rfl) (by rfl)) (by exact (pad_cons (by exact (po_var 0)) (pad_cons (by exact po_val (by exact (pd_callB call_len r_len (by rfl) T.n_len PySem.boot_len (by exact (pad_cons (by exact (po_var 4)) pad_nil))))) pad_nil)))))))
      (by exact (pssd_cons (by exact (psd_if (by exact (pt_cp (o_eq hr) r_eq (by exact (po_var 2)) (by exact (po_val pd_int)))) (by exact (pssd_one (by exact (psd_ret (by exact (pd_join (by exact (po_val pd_str)) (by exact (po_val (by exact (pd_op o_add r_add (by exact (po_val (by exact (pd_slice (by exact (po_var 4)) pq_none (by exact (pq_some (by exact (po_var 5)))))))) (by exact (po_val (by exact (pd_slice (by exact (po_var 4)) (by exact (pq_some (by exact (po_val (by exact (pd_op o_add r_add (by exact (po_var 5)) (by exact (po_val pd_int)))))))) pq_none)))))))))))))) pssd_nil))
      (by exact (pssd_cons (by exact (psd_if (by exact (pt_cp (o_eq hr) r_eq (by exact (po_var 2)) (by exact (po_val pd_int)))) (by exact (pssd_one (by exact (psd_ret (by exact (pd_join (by exact (po_val pd_str)) (by exact (po_val (by exact (pd_op o_add r_add (by exact (po_val (by exact (pd_op o_add r_add (by exact (po_val (by exact (pd_slice (by exact (po_var 4)) pq_none (by exact (pq_some (by exact (po_var 5)))))))) (by exact (po_val (by exact (pd_slice (by exact (po_var 4)) (by exact (pq_some (by exact (po_var 5)))) (by exact (pq_some (by exact (po_val (by exact (pd_op o_add r_add (by exact (po_var 5)) (by exact (po_val pd_int)))))))))))))))) (by exact (po_val (by exact (pd_slice (by exact (po_var 4)) (by exact (pq_some (by exact (po_var 5)))) pq_none)))))))))))))) pssd_nil))
      (by exact (pssd_cons (by exact (psd_if (by exact (pt_cp (o_eq hr) r_eq (by exact (po_var 2)) (by exact (po_val pd_int)))) (by exact (pssd_one (by exact (psd_ret (by exact (pd_join (by exact (po_val pd_str)) (by exact (po_val (by exact (pd_op o_add r_add (by exact (po_val (by exact (pd_slice (by exact (po_var 4)) (by exact (pq_some (by exact (po_var 5)))) pq_none)))) (by exact (po_val (by exact (pd_slice (by exact (po_var 4)) pq_none (by exact (pq_some (by exact (po_var 5)))))))))))))))))) pssd_nil))
      (by exact (pssd_cons (by exact (psd_if (by exact (pt_cp (o_eq hr) r_eq (by exact (po_var 2)) (by exact (po_val pd_int)))) (by exact (pssd_one (by exact (psd_ret (by exact (pd_op o_add r_add (by exact (po_val (by exact (pd_op o_add r_add (by exact (po_val (by exact (pd_slice (by exact (po_var 1)) pq_none (by exact (pq_some (by exact (po_var 3)))))))) (by exact (po_val (by exact (pd_fn G__law_pick hr (by decide) hg (by rfl) (by exact takes_of (by rfl) (by rfl) (by rfl) (by rfl)) (by exact (pad_cons (by exact (po_var 0)) (pad_cons (by exact po_val (by exact (pd_lst (by exact (pad_cons (by exact po_val pd_str) (pad_cons (by exact po_val pd_str) (pad_cons (by exact po_val pd_str) (pad_cons (by exact po_val pd_str) (pad_cons (by exact po_val pd_str) (pad_cons (by exact po_val pd_str) (pad_cons (by exact po_val pd_str) (pad_cons (by exact po_val pd_str) (pad_cons (by exact po_val pd_str) (pad_cons (by exact po_val pd_str) pad_nil)))))))))))))) pad_nil))))))))))) (by exact (po_val (by exact (pd_slice (by exact (po_var 1)) (by exact (pq_some (by exact (po_var 3)))) pq_none)))))))))) pssd_nil))
      (by exact (pssd_cons (by exact (psd_if (by exact (pt_cp (o_eq hr) r_eq (by exact (po_var 2)) (by exact (po_val pd_int)))) (by exact (pssd_one (by exact (psd_ret (by exact (pd_op o_add r_add (by exact (po_val (by exact (pd_slice (by exact (po_var 1)) pq_none (by exact (pq_some (by exact (po_var 3)))))))) (by exact (po_val (by exact (pd_slice (by exact (po_var 1)) (by exact (pq_some (by exact (po_val (by exact (pd_op o_add r_add (by exact (po_var 3)) (by exact (po_val pd_int)))))))) pq_none)))))))))) pssd_nil))
      (by exact (pssd_cons (by exact (psd_if (by exact (pt_cp (o_eq hr) r_eq (by exact (po_var 2)) (by exact (po_val pd_int)))) (by exact (pssd_cons (by exact (psd_set (i := 6) S.nd (by rfl) (by first | exact Or.inl (by rfl) | exact Or.inr (by rfl)) (by exact (pd_fn G__law_pick hr (by decide) hg (by rfl) (by exact takes_of (by rfl) (by rfl) (by rfl) (by rfl)) (by exact (pad_cons (by exact (po_var 0)) (pad_cons (by exact po_val (by exact (pd_lst (by exact (pad_cons (by exact po_val pd_str) (pad_cons (by exact po_val pd_str) (pad_cons (by exact po_val pd_str) (pad_cons (by exact po_val pd_str) (pad_cons (by exact po_val pd_str) (pad_cons (by exact po_val pd_str) (pad_cons (by exact po_val pd_str) (pad_cons (by exact po_val pd_str) (pad_cons (by exact po_val pd_str) pad_nil))))))))))))) pad_nil)))))))
      (by exact (pssd_one (by exact (psd_ret (by exact (pd_join (by exact (po_val pd_str)) (by exact (po_val (by exact (pd_op o_add r_add (by exact (po_val (by exact (pd_op o_add r_add (by exact (po_val (by exact (pd_slice (by exact (po_var 4)) pq_none (by exact (pq_some (by exact (po_var 5)))))))) (by exact (po_val (by exact (pd_lst (by exact (pad_cons (by exact po_val (by exact (pd_op o_add r_add (by exact (po_val (by exact (pd_op o_add r_add (by exact (po_val (by exact (pd_ix ix_seq r_ix (by exact (po_var 4)) (by exact (po_var 5)))))) (by exact (po_val pd_str)))))) (by exact (po_var 6))))) pad_nil)))))))))) (by exact (po_val (by exact (pd_slice (by exact (po_var 4)) (by exact (pq_some (by exact (po_val (by exact (pd_op o_add r_add (by exact (po_var 5)) (by exact (po_val pd_int)))))))) pq_none)))))))))))))))) pssd_nil))
      (by exact (pssd_cons (by exact (psd_if (by exact (pt_cp (o_eq hr) r_eq (by exact (po_var 2)) (by exact (po_val pd_int)))) (by exact (pssd_one (by exact (psd_ret (by exact (pd_join (by exact (po_val pd_str)) (by exact (po_val (by exact (pd_op o_add r_add (by exact (po_val (by exact (pd_op o_add r_add (by exact (po_val (by exact (pd_slice (by exact (po_var 4)) pq_none (by exact (pq_some (by exact (po_var 5)))))))) (by exact (po_val (by exact (pd_lst (by exact (pad_cons (by exact po_val (by exact (pd_join (by exact (po_val pd_str)) (by exact (po_val (by exact (pd_op o_mul r_mul (by exact (po_val (by exact (pd_lst (by exact (pad_cons (by exact po_val pd_str) pad_nil)))))) (by exact (po_val (by exact (pd_fn G__law_pick hr (by decide) hg (by rfl) (by exact takes_of (by rfl) (by rfl) (by rfl) (by rfl)) (by exact (pad_cons (by exact (po_var 0)) (pad_cons (by exact po_val (by exact (pd_lst (by exact (pad_cons (by exact po_val pd_int) (pad_cons (by exact po_val pd_int) pad_nil)))))) pad_nil)))))))))))))) pad_nil)))))))))) (by exact (po_val (by exact (pd_slice (by exact (po_var 4)) (by exact (pq_some (by exact (po_val (by exact (pd_op o_add r_add (by exact (po_var 5)) (by exact (po_val pd_int)))))))) pq_none)))))))))))))) pssd_nil))
      (by exact (pssd_cons (by exact (psd_if (by exact (pt_cp (o_eq hr) r_eq (by exact (po_var 2)) (by exact (po_val pd_int)))) (by exact (pssd_one (by exact (psd_ret (by exact (pd_join (by exact (po_val pd_str)) (by exact (po_val (by exact (pd_op o_add r_add (by exact (po_val (by exact (pd_op o_add r_add (by exact (po_val (by exact (pd_slice (by exact (po_var 4)) pq_none (by exact (pq_some (by exact (po_var 5)))))))) (by exact (po_val (by exact (pd_lst (by exact (pad_cons (by exact po_val (by exact (pd_fn G__law_pick hr (by decide) hg (by rfl) (by exact takes_of (by rfl) (by rfl) (by rfl) (by rfl)) (by exact (pad_cons (by exact (po_var 0)) (pad_cons (by exact po_val (by exact (pd_lst (by exact (pad_cons (by exact po_val pd_str) (pad_cons (by exact po_val pd_str) (pad_cons (by exact po_val pd_str) (pad_cons (by exact po_val pd_str) (pad_cons (by exact po_val pd_str) pad_nil))))))))) pad_nil)))))) pad_nil)))))))))) (by exact (po_val (by exact (pd_slice (by exact (po_var 4)) (by exact (pq_some (by exact (po_val (by exact (pd_op o_add r_add (by exact (po_var 5)) (by exact (po_val pd_int)))))))) pq_none)))))))))))))) pssd_nil))
      (by exact (pssd_one (by exact (psd_ret (by exact (pd_var 1))))))))))))))))))))))))))))⟩) (fun as Q X h => data__law_bent h)

theorem sc__law_right : FnScope N__law_right ["pot"] (defScope s__law_right) := ⟨rfl, rfl, rfl, by decide +kernel, rfl, by decide +kernel, by decide +kernel⟩
theorem ok__law_right (T : Txt K mg C fI) (G_inputs_text : OkD P w K mg base 4 "inputs_text" ["inputs"] ["inputs"] sp_inputs_text) (G_inputs_read : OkD P w K mg base 4 "inputs_read" ["text", "numbers", "rows"] ["rows", "numbers", "text"] (sp_inputs_read C)) (G__law_pick : OkD P w K mg base 3 "_law_pick" ["pot", "some"] [] sp__law_pick) (G__law_inputs : OkD P w K mg base 5 "_law_inputs" ["pot"] [] sp__law_inputs) (G__law_due : OkD P w K mg base 4 "_law_due" ["text", "numbers", "rows"] [] sp__law_due) (G__law_heard : OkD P w K mg base 5 "_law_heard" ["text", "numbers", "rows"] [] sp__law_heard) (G__law_written : OkD P w K mg base 2 "_law_written" ["inputs"] [] sp__law_written) (G__law_bent : OkD P w K mg base 4 "_law_bent" ["pot", "text"] [] sp__law_bent) : OkD P w K mg base 6 "_law_right" ["pot"] [] sp__law_right := by
  have S := sc__law_right
  refine okD T.d__law_right S (by decide) (fun as Q X h => len__law_right h) (fun _ _ _ _ _ _ us hl => match us, hl with | [_], _ => rfl) (.inl rfl) (sd := sd__law_right C) (fun f cdv A outer s H E hr hg => ⟨_, (by exact (pssd_cons (by exact (psd_set (i := 1) S.nd (by rfl) (by first | exact Or.inl (by rfl) | exact Or.inr (by rfl)) (by exact (pd_fn G__law_inputs hr (by decide) hg (by rfl) (by exact takes_of (by rfl) (by rfl) (by rfl) (by rfl)) (by exact (pad_cons (by exact (po_var 0)) pad_nil))))))
      (by exact (pssd_cons (by exact (psd_par3 (i := 2) (j := 3) (l := 4) (by rfl) S.nd (by rfl) (by rfl) (by rfl) (by decide) (by decide) (by decide) (by rfl) (by rfl) (by rfl) (by exact (pd_fn G__law_written hr (by decide) hg (by rfl) (by exact takes_of (by rfl) (by rfl) (by rfl) (by rfl)) (by exact (pad_cons (by exact po_val (by exact (pd_var 1))) pad_nil)))) (by exact (pd_callB call_len r_len (by rfl) T.n_len PySem.boot_len (by exact (pad_cons (by exact (po_val (by exact (pd_ix ix_seq r_ix (by exact (po_var 1)) (by exact (po_val pd_int)))))) pad_nil)))) (by exact (pd_callB call_len r_len (by rfl) T.n_len PySem.boot_len (by exact (pad_cons (by exact (po_val (by exact (pd_ix ix_seq r_ix (by exact (po_var 1)) (by exact (po_val pd_int)))))) pad_nil)))) (by rfl)))
      (by exact (pssd_cons (by exact (psd_set (i := 5) S.nd (by rfl) (by first | exact Or.inl (by rfl) | exact Or.inr (by rfl)) (by exact (pd_tup (by exact (pad_cons (by exact po_val (by exact (pd_callTy call_list_of r_list (by rfl) T.n_list (by decide +kernel) (by exact (pad_cons (by exact (po_val (by exact (pd_ix ix_seq r_ix (by exact (po_var 1)) (by exact (po_val pd_int)))))) pad_nil))))) (pad_cons (by exact po_val (by exact (pd_lcU (own := [("row", 12)]) (W' := WNo) (by rfl) S.nd (by exact (pid_any (po_val (by exact (pd_ix ix_seq r_ix (by exact (po_var 1)) (by exact (po_val pd_int))))))) (by exact (blkOk_by (own := [("row", 12)]) (N := N__law_right) (sc := defScope s__law_right) (by decide +kernel))) (by exact fun _ _ _ _ _ => ⟨_, (by exact (pgc_name (i := 12) S.nd (by rfl) (Or.inl (by rfl)) (by decide)))⟩) (by exact fun _ _ _ _ _ => ⟨_, ptsd_nil⟩) (by exact fun _ _ _ _ _ => ⟨_, (by exact (pd_callTy call_list_of r_list (by rfl) T.n_list (by decide +kernel) (by exact (pad_cons (by exact (po_var 12)) pad_nil))))⟩)))) pad_nil)))))))
      (by exact (pssd_cons (by exact (psd_set (i := 6) S.nd (by rfl) (by first | exact Or.inl (by rfl) | exact Or.inr (by rfl)) (by exact (pd_callB (c_repr hr hg) r_repr (by rfl) T.n_repr (by decide +kernel) (by exact (pad_cons (by exact (po_var 5)) pad_nil))))))
      (by exact (pssd_cons (by exact (psd_if (by exact (ptd_of (pwd_or (by exact (pt_cp (o_ne hr) r_ne (by exact (po_val (by exact (pd_lst (by exact (pad_cons (by exact po_val (by exact (pd_fn G_inputs_text hr (by decide) hg (by rfl) (by exact takes_of (by rfl) (by rfl) (by rfl) (by rfl)) (by exact (pad_cons (by exact po_val (by exact (pd_var 1))) pad_nil))))) (pad_cons (by exact po_val (by exact (pd_fnR G_inputs_text (by decide) hr (by decide) hg (by rfl) (by exact takes_of (by rfl) (by rfl) (by rfl) (by rfl)) (pkd_cons (po_val (by exact (pd_var 5))) pkd_nil)))) pad_nil))))))) (by exact (po_val (by exact (pd_lst (by exact (pad_cons (by exact po_val (by exact (pd_var 2))) (pad_cons (by exact po_val (by exact (pd_var 2))) pad_nil))))))))) (pwd_or1 (by exact (pt_cp (o_ne hr) r_ne (by exact (po_val (by exact (pd_callB (c_repr hr hg) r_repr (by rfl) T.n_repr (by decide +kernel) (by exact (pad_cons (by exact (po_var 5)) pad_nil)))))) (by exact (po_var 6)))))))) (by exact (pssd_one (by exact (psd_ret pd_bl)))) pssd_nil))
      (by exact (pssd_cons (by exact (psd_if (by exact (pt_cp (o_ne hr) r_ne (by exact (po_val (by exact (pd_callB (c_repr hr hg) r_repr (by rfl) T.n_repr (by decide +kernel) (by exact (pad_cons (by exact (po_val (by exact (pd_lst (by exact (pad_cons (by exact po_val (by exact (pd_fn G_inputs_read hr (by decide) hg (by rfl) (by exact takes_of (by rfl) (by rfl) (by rfl) (by rfl)) (by exact (pad_cons (by exact po_val (by exact (pd_var 2))) (pad_cons (by exact po_val (by exact (pd_var 3))) (pad_cons (by exact po_val (by exact (pd_var 4))) pad_nil))))))) (pad_cons (by exact po_val (by exact (pd_fnR G_inputs_read (by decide) hr (by decide) hg (by rfl) (by exact takes_of (by rfl) (by rfl) (by rfl) (by rfl)) (pkd_cons (po_val (by exact (pd_var 4))) (pkd_cons (po_val (by exact (pd_var 3))) (pkd_cons (po_val (by exact (pd_var 2))) pkd_nil)))))) pad_nil))))))) pad_nil)))))) (by exact (po_val (by exact (pd_callB (c_repr hr hg) r_repr (by rfl) T.n_repr (by decide +kernel) (by exact (pad_cons (by exact (po_val (by exact (pd_lst (by exact (pad_cons (by exact po_val (by exact (pd_var 1))) (pad_cons (by exact po_val (by exact (pd_var 1))) pad_nil))))))) pad_nil)))))))) (by exact (pssd_one (by exact (psd_ret pd_bl)))) pssd_nil))
      (by exact (pssd_cons (by exact (psd_set (i := 7) S.nd (by rfl) (by first | exact Or.inl (by rfl) | exact Or.inr (by rfl)) (by exact (pd_var 2))))
      (by exact (pssd_cons (by exact (psd_for (by exact passes_of (by rfl)) (by rfl) (by exact (pid_range1 (by rfl) T.n_range (by exact (pad_cons (by exact (po_val pd_int)) pad_nil)))) (by exact (pgd_name (i := 8) S.nd (by rfl) (by first | exact Or.inl (by rfl) | exact Or.inr (by rfl)))) (by exact (pssd_cons (by exact (psd_set (i := 7) S.nd (by rfl) (by first | exact Or.inl (by rfl) | exact Or.inr (by rfl)) (by exact (pd_fn G__law_bent hr (by decide) hg (by rfl) (by exact takes_of (by rfl) (by rfl) (by rfl) (by rfl)) (by exact (pad_cons (by exact (po_var 0)) (pad_cons (by exact po_val (by exact (pd_fn G__law_pick hr (by decide) hg (by rfl) (by exact takes_of (by rfl) (by rfl) (by rfl) (by rfl)) (by exact (pad_cons (by exact (po_var 0)) (pad_cons (by exact po_val (by exact (pd_lst (by exact (pad_cons (by exact po_val (by exact (pd_var 2))) (pad_cons (by exact po_val (by exact (pd_var 2))) (pad_cons (by exact po_val (by exact (pd_var 7))) pad_nil))))))) pad_nil)))))) pad_nil)))))))
      (by exact (pssd_one (by exact (psd_if (by exact (pt_cp op_lt r_lt (by exact (po_val (by exact (pd_callB call_len r_len (by rfl) T.n_len PySem.boot_len (by exact (pad_cons (by exact (po_var 7)) pad_nil)))))) (by exact (po_val pd_int)))) (by exact (pssd_one (by exact (psd_for (by exact passes_of (by rfl)) (by rfl) (by exact (pid_any (po_val (by exact (pd_lst (by exact (pad_cons (by exact po_val (by exact (pd_tup (by exact (pad_cons (by exact po_val (by exact (pd_var 3))) (pad_cons (by exact po_val (by exact (pd_var 4))) pad_nil)))))) (pad_cons (by exact po_val (by exact (pd_tup (by exact (pad_cons (by exact po_val (by exact (pd_callB (call_max2 (by rfl)) r_max (by rfl) T.n_max (by decide +kernel) (by exact (pad_cons (by exact (po_val pd_int)) (pad_cons (by exact (po_val (by exact (pd_op o_add r_add (by exact (po_var 3)) (by exact (po_val (by exact (pd_fn G__law_pick hr (by decide) hg (by rfl) (by exact takes_of (by rfl) (by rfl) (by rfl) (by rfl)) (by exact (pad_cons (by exact (po_var 0)) (pad_cons (by exact po_val (by exact (pd_lst (by exact (pad_cons (by exact po_val pd_int) (pad_cons (by exact po_val pd_int) (pad_cons (by exact po_val (by exact (pd_neg (by exact (po_val pd_int))))) pad_nil))))))) pad_nil))))))))))) pad_nil)))))) (pad_cons (by exact po_val (by exact (pd_callB (call_max2 (by rfl)) r_max (by rfl) T.n_max (by decide +kernel) (by exact (pad_cons (by exact (po_val pd_int)) (pad_cons (by exact (po_val (by exact (pd_op o_add r_add (by exact (po_var 4)) (by exact (po_val (by exact (pd_fn G__law_pick hr (by decide) hg (by rfl) (by exact takes_of (by rfl) (by rfl) (by rfl) (by rfl)) (by exact (pad_cons (by exact (po_var 0)) (pad_cons (by exact po_val (by exact (pd_lst (by exact (pad_cons (by exact po_val pd_int) (pad_cons (by exact po_val pd_int) (pad_cons (by exact po_val (by exact (pd_neg (by exact (po_val pd_int))))) pad_nil))))))) pad_nil))))))))))) pad_nil)))))) pad_nil)))))) pad_nil)))))))) (by exact (pgd_tup (by rfl) (pgsd_cons (by exact (pgd_name (i := 9) S.nd (by rfl) (by first | exact Or.inl (by rfl) | exact Or.inr (by rfl)))) (pgsd_cons (by exact (pgd_name (i := 10) S.nd (by rfl) (by first | exact Or.inl (by rfl) | exact Or.inr (by rfl)))) pgsd_nil)))) (by exact (pssd_one (by exact (psd_if (by exact (pt_cp (o_ne hr) r_ne (by exact (po_val (by exact (pd_callB (c_repr hr hg) r_repr (by rfl) T.n_repr (by decide +kernel) (by exact (pad_cons (by exact (po_val (by exact (pd_fn G__law_heard hr (by decide) hg (by rfl) (by exact takes_of (by rfl) (by rfl) (by rfl) (by rfl)) (by exact (pad_cons (by exact po_val (by exact (pd_var 7))) (pad_cons (by exact po_val (by exact (pd_var 9))) (pad_cons (by exact po_val (by exact (pd_var 10))) pad_nil)))))))) pad_nil)))))) (by exact (po_val (by exact (pd_callB (c_repr hr hg) r_repr (by rfl) T.n_repr (by decide +kernel) (by exact (pad_cons (by exact (po_val (by exact (pd_fn G__law_due hr (by decide) hg (by rfl) (by exact takes_of (by rfl) (by rfl) (by rfl) (by rfl)) (by exact (pad_cons (by exact po_val (by exact (pd_var 7))) (pad_cons (by exact po_val (by exact (pd_var 9))) (pad_cons (by exact po_val (by exact (pd_var 10))) pad_nil)))))))) pad_nil)))))))) (by exact (pssd_one (by exact (psd_ret pd_bl)))) pssd_nil)))))))) pssd_nil))))))))
      (by exact (pssd_cons (by exact (psd_set (i := 11) S.nd (by rfl) (by first | exact Or.inl (by rfl) | exact Or.inr (by rfl)) (by exact (pd_fn G__law_pick hr (by decide) hg (by rfl) (by exact takes_of (by rfl) (by rfl) (by rfl) (by rfl)) (by exact (pad_cons (by exact (po_var 0)) (pad_cons (by exact po_val (by exact (pd_lst (by exact (pad_cons (by exact po_val pd_non) (pad_cons (by exact po_val pd_int) (pad_cons (by exact po_val pd_bl) (pad_cons (by exact po_val (by exact (pd_tup pad_nil))) (pad_cons (by exact po_val (by exact (pd_lst (by exact (pad_cons (by exact po_val pd_str) pad_nil))))) (pad_cons (by exact po_val (by exact (pd_tup (by exact (pad_cons (by exact po_val pd_str) pad_nil))))) (pad_cons (by exact po_val pd_dict1) pad_nil))))))))))) pad_nil)))))))
      (by exact (pssd_one (by exact (psd_ret (by exact (pd_cp (o_eq hr) r_eq (by exact (po_val (by exact (pd_fn G__law_heard hr (by decide) hg (by rfl) (by exact takes_of (by rfl) (by rfl) (by rfl) (by rfl)) (by exact (pad_cons (by exact po_val (by exact (pd_var 11))) (pad_cons (by exact po_val pd_int) (pad_cons (by exact po_val pd_int) pad_nil)))))))) (by exact (po_val (by exact (pd_lst (by exact (pad_cons (by exact po_val pd_str) (pad_cons (by exact po_val pd_non) pad_nil)))))))))))))))))))))))))))))))⟩) (fun as Q X h => data__law_right h)

theorem sc_law : FnScope N_law ["script"] (defScope s_law) := ⟨rfl, rfl, rfl, by decide +kernel, rfl, by decide +kernel, by decide +kernel⟩
theorem ok_law (T : Txt K mg C fI) (G__law_pot : OkD P w K mg base 2 "_law_pot" ["script", "k"] [] sp__law_pot) (G__law_right : OkD P w K mg base 6 "_law_right" ["pot"] [] sp__law_right) {a : Addr} {fd : FuncData} (F : Fun K "law" "law" s_law a fd) : FnG P w K mg base 7 a fd ["script"] (SpOf K sp_law) := by
  have S := sc_law
  exact okF F S (by decide) (fun as Q X h => len_law h) (sd := sd_law C) (fun f cdv A outer s H E hr hg => ⟨_, (by exact (pssd_one (by exact (psd_ret (by exact (pd_callB (cr_all (by rfl)) r_all (by rfl) T.n_all (by decide +kernel) (by exact (pad_cons (by exact (po_val (by exact (pd_lcU (own := [("k", 1)]) (W' := WNo) (by rfl) S.nd (by exact (pid_range1 (by rfl) T.n_range (by exact (pad_cons (by exact (po_val (by exact (pd_callB (call_max2 (by rfl)) r_max (by rfl) T.n_max (by decide +kernel) (by exact (pad_cons (by exact (po_val pd_int)) (pad_cons (by exact (po_val (by exact (pd_callB (call_min2 (by rfl)) r_min (by rfl) T.n_min (by decide +kernel) (by exact (pad_cons (by exact (po_val pd_int)) (pad_cons (by exact (po_val (by exact (pd_callB call_len r_len (by rfl) T.n_len PySem.boot_len (by exact (pad_cons (by exact (po_var 0)) pad_nil)))))) pad_nil))))))) pad_nil))))))) pad_nil)))) (by exact (blkOk_by (own := [("k", 1)]) (N := N_law) (sc := defScope s_law) (by decide +kernel))) (by exact fun _ _ _ _ _ => ⟨_, (by exact (pgc_name (i := 1) S.nd (by rfl) (Or.inl (by rfl)) (by decide)))⟩) (by exact fun _ _ _ _ _ => ⟨_, ptsd_nil⟩) (by exact fun _ _ _ _ _ => ⟨_, (by exact (pd_fnT G__law_right hr (by decide) hg (by rfl) takesNo (by exact (pd_fn G__law_pot hr (by decide) hg (by rfl) takesNo (by exact (pad_cons (by exact po_val (by exact (pd_var 0))) (pad_cons (by exact po_val (by exact (pd_var 1))) pad_nil)))))))⟩))))) pad_nil))))))))⟩) (fun as Q X h => data_law h)

theorem all_ok (T : Txt K mg C fI) {a : Addr} {fd : FuncData} (F : Fun K "law" "law" s_law a fd) : FnG P w K mg base 7 a fd ["script"] (SpOf K sp_law) := by
  have G_number_text := ok_number_text (P := P) (w := w) (base := base) T
  have G_numbers_text := ok_numbers_text (P := P) (w := w) (base := base) T G_number_text
  have G_inputs_text := ok_inputs_text (P := P) (w := w) (base := base) T G_numbers_text
  have G_number_read := ok_number_read (P := P) (w := w) (base := base) T
  have G_numbers_read := ok_numbers_read (P := P) (w := w) (base := base) T G_number_read
  have G_inputs_read := ok_inputs_read (P := P) (w := w) (base := base) T G_numbers_read
  have G__law_pot := ok__law_pot (P := P) (w := w) (base := base) T
  have G__law_draw := ok__law_draw (P := P) (w := w) (base := base) T
  have G__law_pick := ok__law_pick (P := P) (w := w) (base := base) T G__law_draw
  have G__law_number := ok__law_number (P := P) (w := w) (base := base) T G__law_draw G__law_pick
  have G__law_inputs := ok__law_inputs (P := P) (w := w) (base := base) T G__law_draw G__law_pick G__law_number
  have G__law_word := ok__law_word (P := P) (w := w) (base := base) T
  have G__law_part := ok__law_part (P := P) (w := w) (base := base) T G__law_word
  have G__law_due := ok__law_due (P := P) (w := w) (base := base) T G__law_part
  have G__law_heard := ok__law_heard (P := P) (w := w) (base := base) T G_inputs_read
  have G__law_written := ok__law_written (P := P) (w := w) (base := base) T
  have G__law_bent := ok__law_bent (P := P) (w := w) (base := base) T G__law_draw G__law_pick
  have G__law_right := ok__law_right (P := P) (w := w) (base := base) T G_inputs_text G_inputs_read G__law_pick G__law_inputs G__law_due G__law_heard G__law_written G__law_bent
  exact ok_law T G__law_pot G__law_right F
end
theorem all_mk {P : Program} {w : World} {K : PySem.W.Frag} {h : Heap} {mg : Str → Option Value} {fa C f1 : Addr} (X : K.In h) (G : h.Ns mainGlobals mg) (hfa : mg "law" = some (.ref fa))
    {nm q : Str} {N : Addr} {bs : List Value} {sn : List Str} {sub : List Value} {ab : Bool} {col : Option Bool} {dd : Option Addr} {m0 m1 m2 m3 m5 : Option Value} {D : Addr} {od1 an1 : Option Addr} {sl1 : Array (Option Value)} {oc1 dc1 pm1 cd1 ct1 : Value} {k_BETWEEN : Tok} {k_FIGURES : Tok} {k_GREATEST : Tok} {k_MOST_CELLS : Tok} {k_NOTHING : Tok} {e0 : Addr} {od_0 an_0 : Option Addr} {sl_0 : Array (Option Value)} {oc_0 kV_0 dc_0 pm_0 cd_0 ct_0 : Value} {e1 : Addr} {od_1 an_1 : Option Addr} {sl_1 : Array (Option Value)} {oc_1 kV_1 dc_1 pm_1 cd_1 ct_1 : Value} {e2 : Addr} {od_2 an_2 : Option Addr} {sl_2 : Array (Option Value)} {oc_2 kV_2 dc_2 pm_2 cd_2 ct_2 : Value} {e3 : Addr} {od_3 an_3 : Option Addr} {sl_3 : Array (Option Value)} {oc_3 kV_3 dc_3 pm_3 cd_3 ct_3 : Value} {e4 : Addr} {od_4 an_4 : Option Addr} {sl_4 : Array (Option Value)} {oc_4 kV_4 dc_4 pm_4 cd_4 ct_4 : Value} {e5 : Addr} {od_5 an_5 : Option Addr} {sl_5 : Array (Option Value)} {oc_5 kV_5 dc_5 pm_5 cd_5 ct_5 : Value} {e6 : Addr} {od_6 an_6 : Option Addr} {sl_6 : Array (Option Value)} {oc_6 kV_6 dc_6 pm_6 cd_6 ct_6 : Value} {e7 : Addr} {od_7 an_7 : Option Addr} {sl_7 : Array (Option Value)} {oc_7 kV_7 dc_7 pm_7 cd_7 ct_7 : Value} {e8 : Addr} {od_8 an_8 : Option Addr} {sl_8 : Array (Option Value)} {oc_8 kV_8 dc_8 pm_8 cd_8 ct_8 : Value} {e9 : Addr} {od_9 an_9 : Option Addr} {sl_9 : Array (Option Value)} {oc_9 kV_9 dc_9 pm_9 cd_9 ct_9 : Value} {e10 : Addr} {od_10 an_10 : Option Addr} {sl_10 : Array (Option Value)} {oc_10 kV_10 dc_10 pm_10 cd_10 ct_10 : Value} {e11 : Addr} {od_11 an_11 : Option Addr} {sl_11 : Array (Option Value)} {oc_11 kV_11 dc_11 pm_11 cd_11 ct_11 : Value} {e12 : Addr} {od_12 an_12 : Option Addr} {sl_12 : Array (Option Value)} {oc_12 kV_12 dc_12 pm_12 cd_12 ct_12 : Value} {e13 : Addr} {od_13 an_13 : Option Addr} {sl_13 : Array (Option Value)} {oc_13 kV_13 dc_13 pm_13 cd_13 ct_13 : Value} {e14 : Addr} {od_14 an_14 : Option Addr} {sl_14 : Array (Option Value)} {oc_14 kV_14 dc_14 pm_14 cd_14 ct_14 : Value} {e15 : Addr} {od_15 an_15 : Option Addr} {sl_15 : Array (Option Value)} {oc_15 kV_15 dc_15 pm_15 cd_15 ct_15 : Value} {e16 : Addr} {od_16 an_16 : Option Addr} {sl_16 : Array (Option Value)} {oc_16 kV_16 dc_16 pm_16 cd_16 ct_16 : Value} {e17 : Addr} {od_17 an_17 : Option Addr} {sl_17 : Array (Option Value)} {oc_17 kV_17 dc_17 pm_17 cd_17 ct_17 : Value} {e18 : Addr} {od_18 an_18 : Option Addr} {sl_18 : Array (Option Value)} {oc_18 kV_18 dc_18 pm_18 cd_18 ct_18 : Value}
    (aC : PySem.W.nsIn K mainGlobals "BadText" = some (some (.ref C)))
    (xL : K.lookup C = some (excClassObj nm q C N bs [.ref D, .type "ValueError", .type "Exception", .type "BaseException", .type "object"] true sn sub ab col dd m0 m1 m2 m3 m5 "ValueError.__new__"))
    (sa : PySem.W.findIn K (.ref C) "__setattr__" = some (some (.builtin "object.__setattr__")))
    (ga : PySem.W.findIn K (.ref C) "__getattribute__" = some (some (.builtin "BaseException.__getattribute__")))
    (gg : PySem.W.findIn K (.ref C) "__getattr__" = some none)
    (nb : PySem.W.findIn K (.ref C) "position" = some none)
    (a1 : PySem.W.findIn K (.ref C) "__init__" = some (some (.ref f1)))
    (t1 : PySem.W.typeIn K (.ref f1) = some (.type "function"))
    (l1 : K.lookup f1 = some ⟨oc1, od1, .func (PySem.W.fnOf "__init__" "BadText.__init__" (PySem.LowX.iA ⟨6, 17, 6, 21⟩ ⟨6, 23, 6, 31⟩) (PySem.LowX.iB ⟨7, 8, 7, 12⟩ ⟨7, 8, 7, 21⟩ ⟨7, 24, 7, 32⟩ ⟨7, 8, 7, 32⟩) PySem.LowX.iS .none .none dc1 pm1 an1 cd1 ct1), sl1⟩)
    (c1 : PySem.W.codeIn K cd1 "BadText.__init__" = true)
    (kC : PySem.W.keepIn K (.ref C) = true)
    (eC : PySem.W.subIn K (.ref C) (.type "BaseException") = some true)
    (tC : PySem.W.typeIn K (.ref C) = some (.type "type"))
    (hC : PySem.W.hasDictIn K C = true)
    (iC : PySem.W.isClsIn K C = true)
    (sC : PySem.W.subIn K (.ref C) (.ref C) = some true)
    (b_abs : PySem.W.nsIn K mainGlobals "abs" = some none)
    (b_all : PySem.W.nsIn K mainGlobals "all" = some none)
    (b_divmod : PySem.W.nsIn K mainGlobals "divmod" = some none)
    (b_enumerate : PySem.W.nsIn K mainGlobals "enumerate" = some none)
    (b_int : PySem.W.nsIn K mainGlobals "int" = some none)
    (b_isinstance : PySem.W.nsIn K mainGlobals "isinstance" = some none)
    (b_len : PySem.W.nsIn K mainGlobals "len" = some none)
    (b_list : PySem.W.nsIn K mainGlobals "list" = some none)
    (b_max : PySem.W.nsIn K mainGlobals "max" = some none)
    (b_min : PySem.W.nsIn K mainGlobals "min" = some none)
    (b_range : PySem.W.nsIn K mainGlobals "range" = some none)
    (b_repr : PySem.W.nsIn K mainGlobals "repr" = some none)
    (b_str : PySem.W.nsIn K mainGlobals "str" = some none)
    (b_tuple : PySem.W.nsIn K mainGlobals "tuple" = some none)
    (v_BETWEEN : PySem.W.nsIn K mainGlobals "BETWEEN" = some (some (.str "; " k_BETWEEN)))
    (v_FIGURES : PySem.W.nsIn K mainGlobals "FIGURES" = some (some (.str "0123456789" k_FIGURES)))
    (v_GREATEST : PySem.W.nsIn K mainGlobals "GREATEST" = some (some (.int 1000000000000000000 k_GREATEST)))
    (v_MOST_CELLS : PySem.W.nsIn K mainGlobals "MOST_CELLS" = some (some (.int 40 k_MOST_CELLS)))
    (v_NOTHING : PySem.W.nsIn K mainGlobals "NOTHING" = some (some (.str "-" k_NOTHING)))
    (p0 : PySem.W.nsIn K mainGlobals "number_text" = some (some (.ref e0)))
    (q0 : K.lookup e0 = some ⟨oc_0, od_0, .func (PySem.W.fnOf "number_text" "number_text" (defArgs s_number_text) (defBody s_number_text) (defScope s_number_text) .none kV_0 dc_0 pm_0 an_0 cd_0 ct_0), sl_0⟩)
    (r0 : PySem.W.codeIn K cd_0 "number_text" = true)
    (s0 : PySem.W.keepIn K (.ref e0) = true)
    (p1 : PySem.W.nsIn K mainGlobals "numbers_text" = some (some (.ref e1)))
    (q1 : K.lookup e1 = some ⟨oc_1, od_1, .func (PySem.W.fnOf "numbers_text" "numbers_text" (defArgs s_numbers_text) (defBody s_numbers_text) (defScope s_numbers_text) .none kV_1 dc_1 pm_1 an_1 cd_1 ct_1), sl_1⟩)
    (r1 : PySem.W.codeIn K cd_1 "numbers_text" = true)
    (s1 : PySem.W.keepIn K (.ref e1) = true)
    (p2 : PySem.W.nsIn K mainGlobals "inputs_text" = some (some (.ref e2)))
    (q2 : K.lookup e2 = some ⟨oc_2, od_2, .func (PySem.W.fnOf "inputs_text" "inputs_text" (defArgs s_inputs_text) (defBody s_inputs_text) (defScope s_inputs_text) .none kV_2 dc_2 pm_2 an_2 cd_2 ct_2), sl_2⟩)
    (r2 : PySem.W.codeIn K cd_2 "inputs_text" = true)
    (s2 : PySem.W.keepIn K (.ref e2) = true)
    (p3 : PySem.W.nsIn K mainGlobals "number_read" = some (some (.ref e3)))
    (q3 : K.lookup e3 = some ⟨oc_3, od_3, .func (PySem.W.fnOf "number_read" "number_read" (defArgs s_number_read) (defBody s_number_read) (defScope s_number_read) .none kV_3 dc_3 pm_3 an_3 cd_3 ct_3), sl_3⟩)
    (r3 : PySem.W.codeIn K cd_3 "number_read" = true)
    (s3 : PySem.W.keepIn K (.ref e3) = true)
    (p4 : PySem.W.nsIn K mainGlobals "numbers_read" = some (some (.ref e4)))
    (q4 : K.lookup e4 = some ⟨oc_4, od_4, .func (PySem.W.fnOf "numbers_read" "numbers_read" (defArgs s_numbers_read) (defBody s_numbers_read) (defScope s_numbers_read) .none kV_4 dc_4 pm_4 an_4 cd_4 ct_4), sl_4⟩)
    (r4 : PySem.W.codeIn K cd_4 "numbers_read" = true)
    (s4 : PySem.W.keepIn K (.ref e4) = true)
    (p5 : PySem.W.nsIn K mainGlobals "inputs_read" = some (some (.ref e5)))
    (q5 : K.lookup e5 = some ⟨oc_5, od_5, .func (PySem.W.fnOf "inputs_read" "inputs_read" (defArgs s_inputs_read) (defBody s_inputs_read) (defScope s_inputs_read) .none kV_5 dc_5 pm_5 an_5 cd_5 ct_5), sl_5⟩)
    (r5 : PySem.W.codeIn K cd_5 "inputs_read" = true)
    (s5 : PySem.W.keepIn K (.ref e5) = true)
    (p6 : PySem.W.nsIn K mainGlobals "_law_pot" = some (some (.ref e6)))
    (q6 : K.lookup e6 = some ⟨oc_6, od_6, .func (PySem.W.fnOf "_law_pot" "_law_pot" (defArgs s__law_pot) (defBody s__law_pot) (defScope s__law_pot) .none kV_6 dc_6 pm_6 an_6 cd_6 ct_6), sl_6⟩)
    (r6 : PySem.W.codeIn K cd_6 "_law_pot" = true)
    (s6 : PySem.W.keepIn K (.ref e6) = true)
    (p7 : PySem.W.nsIn K mainGlobals "_law_draw" = some (some (.ref e7)))
    (q7 : K.lookup e7 = some ⟨oc_7, od_7, .func (PySem.W.fnOf "_law_draw" "_law_draw" (defArgs s__law_draw) (defBody s__law_draw) (defScope s__law_draw) .none kV_7 dc_7 pm_7 an_7 cd_7 ct_7), sl_7⟩)
    (r7 : PySem.W.codeIn K cd_7 "_law_draw" = true)
    (s7 : PySem.W.keepIn K (.ref e7) = true)
    (p8 : PySem.W.nsIn K mainGlobals "_law_pick" = some (some (.ref e8)))
    (q8 : K.lookup e8 = some ⟨oc_8, od_8, .func (PySem.W.fnOf "_law_pick" "_law_pick" (defArgs s__law_pick) (defBody s__law_pick) (defScope s__law_pick) .none kV_8 dc_8 pm_8 an_8 cd_8 ct_8), sl_8⟩)
    (r8 : PySem.W.codeIn K cd_8 "_law_pick" = true)
    (s8 : PySem.W.keepIn K (.ref e8) = true)
    (p9 : PySem.W.nsIn K mainGlobals "_law_number" = some (some (.ref e9)))
    (q9 : K.lookup e9 = some ⟨oc_9, od_9, .func (PySem.W.fnOf "_law_number" "_law_number" (defArgs s__law_number) (defBody s__law_number) (defScope s__law_number) .none kV_9 dc_9 pm_9 an_9 cd_9 ct_9), sl_9⟩)
    (r9 : PySem.W.codeIn K cd_9 "_law_number" = true)
    (s9 : PySem.W.keepIn K (.ref e9) = true)
    (p10 : PySem.W.nsIn K mainGlobals "_law_inputs" = some (some (.ref e10)))
    (q10 : K.lookup e10 = some ⟨oc_10, od_10, .func (PySem.W.fnOf "_law_inputs" "_law_inputs" (defArgs s__law_inputs) (defBody s__law_inputs) (defScope s__law_inputs) .none kV_10 dc_10 pm_10 an_10 cd_10 ct_10), sl_10⟩)
    (r10 : PySem.W.codeIn K cd_10 "_law_inputs" = true)
    (s10 : PySem.W.keepIn K (.ref e10) = true)
    (p11 : PySem.W.nsIn K mainGlobals "_law_word" = some (some (.ref e11)))
    (q11 : K.lookup e11 = some ⟨oc_11, od_11, .func (PySem.W.fnOf "_law_word" "_law_word" (defArgs s__law_word) (defBody s__law_word) (defScope s__law_word) .none kV_11 dc_11 pm_11 an_11 cd_11 ct_11), sl_11⟩)
    (r11 : PySem.W.codeIn K cd_11 "_law_word" = true)
    (s11 : PySem.W.keepIn K (.ref e11) = true)
    (p12 : PySem.W.nsIn K mainGlobals "_law_part" = some (some (.ref e12)))
    (q12 : K.lookup e12 = some ⟨oc_12, od_12, .func (PySem.W.fnOf "_law_part" "_law_part" (defArgs s__law_part) (defBody s__law_part) (defScope s__law_part) .none kV_12 dc_12 pm_12 an_12 cd_12 ct_12), sl_12⟩)
    (r12 : PySem.W.codeIn K cd_12 "_law_part" = true)
    (s12 : PySem.W.keepIn K (.ref e12) = true)
    (p13 : PySem.W.nsIn K mainGlobals "_law_due" = some (some (.ref e13)))
    (q13 : K.lookup e13 = some ⟨oc_13, od_13, .func (PySem.W.fnOf "_law_due" "_law_due" (defArgs s__law_due) (defBody s__law_due) (defScope s__law_due) .none kV_13 dc_13 pm_13 an_13 cd_13 ct_13), sl_13⟩)
    (r13 : PySem.W.codeIn K cd_13 "_law_due" = true)
    (s13 : PySem.W.keepIn K (.ref e13) = true)
    (p14 : PySem.W.nsIn K mainGlobals "_law_heard" = some (some (.ref e14)))
    (q14 : K.lookup e14 = some ⟨oc_14, od_14, .func (PySem.W.fnOf "_law_heard" "_law_heard" (defArgs s__law_heard) (defBody s__law_heard) (defScope s__law_heard) .none kV_14 dc_14 pm_14 an_14 cd_14 ct_14), sl_14⟩)
    (r14 : PySem.W.codeIn K cd_14 "_law_heard" = true)
    (s14 : PySem.W.keepIn K (.ref e14) = true)
    (p15 : PySem.W.nsIn K mainGlobals "_law_written" = some (some (.ref e15)))
    (q15 : K.lookup e15 = some ⟨oc_15, od_15, .func (PySem.W.fnOf "_law_written" "_law_written" (defArgs s__law_written) (defBody s__law_written) (defScope s__law_written) .none kV_15 dc_15 pm_15 an_15 cd_15 ct_15), sl_15⟩)
    (r15 : PySem.W.codeIn K cd_15 "_law_written" = true)
    (s15 : PySem.W.keepIn K (.ref e15) = true)
    (p16 : PySem.W.nsIn K mainGlobals "_law_bent" = some (some (.ref e16)))
    (q16 : K.lookup e16 = some ⟨oc_16, od_16, .func (PySem.W.fnOf "_law_bent" "_law_bent" (defArgs s__law_bent) (defBody s__law_bent) (defScope s__law_bent) .none kV_16 dc_16 pm_16 an_16 cd_16 ct_16), sl_16⟩)
    (r16 : PySem.W.codeIn K cd_16 "_law_bent" = true)
    (s16 : PySem.W.keepIn K (.ref e16) = true)
    (p17 : PySem.W.nsIn K mainGlobals "_law_right" = some (some (.ref e17)))
    (q17 : K.lookup e17 = some ⟨oc_17, od_17, .func (PySem.W.fnOf "_law_right" "_law_right" (defArgs s__law_right) (defBody s__law_right) (defScope s__law_right) .none kV_17 dc_17 pm_17 an_17 cd_17 ct_17), sl_17⟩)
    (r17 : PySem.W.codeIn K cd_17 "_law_right" = true)
    (s17 : PySem.W.keepIn K (.ref e17) = true)
    (p18 : PySem.W.nsIn K mainGlobals "law" = some (some (.ref e18)))
    (q18 : K.lookup e18 = some ⟨oc_18, od_18, .func (PySem.W.fnOf "law" "law" (defArgs s_law) (defBody s_law) (defScope s_law) .none kV_18 dc_18 pm_18 an_18 cd_18 ct_18), sl_18⟩)
    (r18 : PySem.W.codeIn K cd_18 "law" = true)
    (s18 : PySem.W.keepIn K (.ref e18) = true) :
    ∃ fd : FuncData, (∀ (s : Shared) (u : Value), BindsTo s fd ⟨[u], []⟩ [("script", u)]) ∧ ∀ base : Heap, K.In base → base.Ns mainGlobals mg → FnG P w K mg base 7 fa fd ["script"] (SpOf K sp_law) := by
  have e := hfa.symm.trans (PySem.W.mg_of X G p18)
  cases e
  have T : Txt K mg C f1 := {
    low := { gC := PySem.W.mg_of X G aC, cls := ⟨nm, q, N, bs, _, sn, sub, ab, col, dd, m0, m1, m2, m3, m5, xL, by show PySem.HandSPX.refsVE [.type "ValueError", .type "Exception", .type "BaseException", .type "object"] = true; decide +kernel⟩, sa := sa, ga := ga, gg := gg, noN := nb, iC := a1, tC := t1, kC := kC, exC := eC, tyC := tC, hdC := hC, te := exm_self eC iC tC sC, fn := ⟨_, _, _, _, _, _, _, _, _, _, _, _, _, _, l1, c1⟩ },
    n_abs := PySem.W.mg_none_of X G b_abs,
    n_all := PySem.W.mg_none_of X G b_all,
    n_divmod := PySem.W.mg_none_of X G b_divmod,
    n_enumerate := PySem.W.mg_none_of X G b_enumerate,
    n_int := PySem.W.mg_none_of X G b_int,
    n_isinstance := PySem.W.mg_none_of X G b_isinstance,
    n_len := PySem.W.mg_none_of X G b_len,
    n_list := PySem.W.mg_none_of X G b_list,
    n_max := PySem.W.mg_none_of X G b_max,
    n_min := PySem.W.mg_none_of X G b_min,
    n_range := PySem.W.mg_none_of X G b_range,
    n_repr := PySem.W.mg_none_of X G b_repr,
    n_str := PySem.W.mg_none_of X G b_str,
    n_tuple := PySem.W.mg_none_of X G b_tuple,
    c_BETWEEN := con_mk X G v_BETWEEN ⟨_, rfl⟩,
    c_FIGURES := con_mk X G v_FIGURES ⟨_, rfl⟩,
    c_GREATEST := con_mk X G v_GREATEST ⟨_, rfl⟩,
    c_MOST_CELLS := con_mk X G v_MOST_CELLS ⟨_, rfl⟩,
    c_NOTHING := con_mk X G v_NOTHING ⟨_, rfl⟩,
    d_number_text := def_mk X G p0 q0 r0 s0,
    d_numbers_text := def_mk X G p1 q1 r1 s1,
    d_inputs_text := def_mk X G p2 q2 r2 s2,
    d_number_read := def_mk X G p3 q3 r3 s3,
    d_numbers_read := def_mk X G p4 q4 r4 s4,
    d_inputs_read := def_mk X G p5 q5 r5 s5,
    d__law_pot := def_mk X G p6 q6 r6 s6,
    d__law_draw := def_mk X G p7 q7 r7 s7,
    d__law_pick := def_mk X G p8 q8 r8 s8,
    d__law_number := def_mk X G p9 q9 r9 s9,
    d__law_inputs := def_mk X G p10 q10 r10 s10,
    d__law_word := def_mk X G p11 q11 r11 s11,
    d__law_part := def_mk X G p12 q12 r12 s12,
    d__law_due := def_mk X G p13 q13 r13 s13,
    d__law_heard := def_mk X G p14 q14 r14 s14,
    d__law_written := def_mk X G p15 q15 r15 s15,
    d__law_bent := def_mk X G p16 q16 r16 s16,
    d__law_right := def_mk X G p17 q17 r17 s17,
    d_law := def_mk X G p18 q18 r18 s18 }
  exact ⟨PySem.W.fnOf "law" "law" (defArgs s_law) (defBody s_law) (defScope s_law) .none kV_18 dc_18 pm_18 an_18 cd_18 ct_18, fun s u => .of_eq rfl, fun base _ _ => all_ok T (fun_mk (st := s_law) q18 r18 s18)⟩
theorem law_end (w : World) (ns : List Int) (h : ns.length ≤ 63) : sp_law [.val (.list (ns.map .int))] (fun s _ => s = .val (.bool true)) fun _ _ _ _ => False := ⟨ns, rfl, h, rfl⟩
end K35
open PySem PySem.W PyProof.Rows
set_option maxRecDepth 100000 in
set_option maxHeartbeats 0 in
theorem PySem.Challenge.cw_boundcode_k35_whole_any_text_as_inputs_holds : PySem.Challenge.rw_boundcode_k35_whole_any_text_as_inputs.Holds := by
  w_on; o_law; k_head; (case hw => w_witness2)
  k_fill
  refine PD.walkG (l := PySem.Challenge.rw_boundcode_k35_whole_any_text_as_inputs) (n := 63) (k := 7) (x := "script") (sp := fun _ => K35.sp_law) rfl (by decide) rfl ⟨rfl, by decide, by decide⟩ (fun w h Y => PySem.W.kIn_of Y) ?F fun w ns h => K35.law_end w ns h
  case F =>
    intro w mg fa h KX G hmg
    refine' K35.all_mk KX G hmg ?aC ?xL ?sa ?ga ?gg ?nb ?a1 ?t1 ?l1 ?c1 ?kC ?eC ?tC ?hC ?iC ?sC ?b_abs ?b_all ?b_divmod ?b_enumerate ?b_int ?b_isinstance ?b_len ?b_list ?b_max ?b_min ?b_range ?b_repr ?b_str ?b_tuple ?v_BETWEEN ?v_FIGURES ?v_GREATEST ?v_MOST_CELLS ?v_NOTHING ?p0 ?q0 ?r0 ?s0 ?p1 ?q1 ?r1 ?s1 ?p2 ?q2 ?r2 ?s2 ?p3 ?q3 ?r3 ?s3 ?p4 ?q4 ?r4 ?s4 ?p5 ?q5 ?r5 ?s5 ?p6 ?q6 ?r6 ?s6 ?p7 ?q7 ?r7 ?s7 ?p8 ?q8 ?r8 ?s8 ?p9 ?q9 ?r9 ?s9 ?p10 ?q10 ?r10 ?s10 ?p11 ?q11 ?r11 ?s11 ?p12 ?q12 ?r12 ?s12 ?p13 ?q13 ?r13 ?s13 ?p14 ?q14 ?r14 ?s14 ?p15 ?q15 ?r15 ?s15 ?p16 ?q16 ?r16 ?s16 ?p17 ?q17 ?r17 ?s17 ?p18 ?q18 ?r18 ?s18
    (case aC => k_is)
    (case xL => k_is)
    (case sa => k_is)
    (case ga => k_is)
    (case gg => k_is)
    (case nb => k_is)
    (case a1 => k_is)
    (case t1 => k_is)
    (case l1 => k_is)
    (case c1 => k_is)
    (case kC => k_is)
    (case eC => k_is)
    (case tC => k_is)
    (case hC => k_is)
    (case iC => k_is)
    (case sC => first | rfl | k_is)
    (case b_abs => k_is)
    (case b_all => k_is)
    (case b_divmod => k_is)
    (case b_enumerate => k_is)
    (case b_int => k_is)
    (case b_isinstance => k_is)
    (case b_len => k_is)
    (case b_list => k_is)
    (case b_max => k_is)
    (case b_min => k_is)
    (case b_range => k_is)
    (case b_repr => k_is)
    (case b_str => k_is)
    (case b_tuple => k_is)
    (case v_BETWEEN => k_is)
    (case v_FIGURES => k_is)
    (case v_GREATEST => k_is)
    (case v_MOST_CELLS => k_is)
    (case v_NOTHING => k_is)
    (case p0 => k_is)
    (case q0 => k_is)
    (case r0 => k_is)
    (case s0 => k_is)
    (case p1 => k_is)
    (case q1 => k_is)
    (case r1 => k_is)
    (case s1 => k_is)
    (case p2 => k_is)
    (case q2 => k_is)
    (case r2 => k_is)
    (case s2 => k_is)
    (case p3 => k_is)
    (case q3 => k_is)
    (case r3 => k_is)
    (case s3 => k_is)
    (case p4 => k_is)
    (case q4 => k_is)
    (case r4 => k_is)
    (case s4 => k_is)
    (case p5 => k_is)
    (case q5 => k_is)
    (case r5 => k_is)
    (case s5 => k_is)
    (case p6 => k_is)
    (case q6 => k_is)
    (case r6 => k_is)
    (case s6 => k_is)
    (case p7 => k_is)
    (case q7 => k_is)
    (case r7 => k_is)
    (case s7 => k_is)
    (case p8 => k_is)
    (case q8 => k_is)
    (case r8 => k_is)
    (case s8 => k_is)
    (case p9 => k_is)
    (case q9 => k_is)
    (case r9 => k_is)
    (case s9 => k_is)
    (case p10 => k_is)
    (case q10 => k_is)
    (case r10 => k_is)
    (case s10 => k_is)
    (case p11 => k_is)
    (case q11 => k_is)
    (case r11 => k_is)
    (case s11 => k_is)
    (case p12 => k_is)
    (case q12 => k_is)
    (case r12 => k_is)
    (case s12 => k_is)
    (case p13 => k_is)
    (case q13 => k_is)
    (case r13 => k_is)
    (case s13 => k_is)
    (case p14 => k_is)
    (case q14 => k_is)
    (case r14 => k_is)
    (case s14 => k_is)
    (case p15 => k_is)
    (case q15 => k_is)
    (case r15 => k_is)
    (case s15 => k_is)
    (case p16 => k_is)
    (case q16 => k_is)
    (case r16 => k_is)
    (case s16 => k_is)
    (case p17 => k_is)
    (case q17 => k_is)
    (case r17 => k_is)
    (case s17 => k_is)
    (case p18 => k_is)
    (case q18 => k_is)
    (case r18 => k_is)
    (case s18 => k_is)
