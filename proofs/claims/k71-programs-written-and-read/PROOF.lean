import PyProof.Rows.All
import Wide.All
import OpenK.AllK
import Wide.FinOn
import HandS.ForMost
import HandS.Wide
import HandS.More
import HandS.Conv
import HandS.TupAny
import HandS.IsInst
import HandS.NoneIn
import HandS.Style
import HandS.EndBits
import HandS.Zip
import HandS.Walk
import HandS.RaiseMore
import KE.GoesNew
import HandS.Head0
import HandS.Head1
import HandS.Head2
import HandS.HeadEnd
import HandS.HeadHook1
import HandS.HeadHook2
import HandS.HeadHook3
import PySem.Challenge.RW_touchroad_k71_programs_written_and_read
import KE.IntBitsLaws
set_option Elab.async false
set_option linter.all false
set_option maxRecDepth 100000
set_option maxHeartbeats 4000000
/-! Kt1: plain data, a store of mutable lists, what stands for them on the heap; computations over the store. -/
namespace KT
open PySem PySem.Spec L2
open PyProof.Rows hiding St

/-- plain data; loc: a mutable object of the store -/
inductive D where
  | non | bl (b : Bool) | int (i : Int) | str (x : Str) | tup (xs : List D) | lst (xs : List D) | loc (n : Nat)
  deriving Inhabited
inductive Ob where
  | lst (xs : List D)
abbrev Sto := List Ob
/-- where the store's objects stand; what is being built and not to be seen -/
structure Lo where
  at_ : Nat → Option Addr
  hid : Addr → Prop

def NotLoc (io : Lo) (a : Addr) : Prop := (∀ n, io.at_ n ≠ some a) ∧ ¬ io.hid a
def StT (K : PySem.W.Frag) (a : Addr) (xs : List V) : Prop := ∃ (o : Obj) (its : Array Value) (n : Nat), K.lookup a = some o ∧ o.cls = .type "tuple" ∧ o.data = .seq its n ∧ its.size ≤ sizeLine ∧ Vals xs its.toList
def StL (K : PySem.W.Frag) (a : Addr) (xs : List V) : Prop := ∃ (o : Obj) (its : Array Value) (n : Nat), K.lookup a = some o ∧ o.cls = .type "list" ∧ o.dict = none ∧ o.data = .seq its n ∧ its.size ≤ sizeLine ∧ Vals xs its.toList
def TupAt (K : PySem.W.Frag) (io : Lo) (H : Hp) (a : Addr) (xs : List V) : Prop := (Rd H a (.tup xs) ∧ NotLoc io a) ∨ StT K a xs
def LstAt (K : PySem.W.Frag) (io : Lo) (H : Hp) (a : Addr) (xs : List V) : Prop := (Rd H a (.lst xs) ∧ NotLoc io a) ∨ StL K a xs
theorem TupAt.seq {K : PySem.W.Frag} {io : Lo} {H : Hp} {a : Addr} {xs : List V} (h : TupAt K io H a xs) : SqT K H a xs := h.imp (fun z => z.1) fun z => z
theorem LstAt.seq {K : PySem.W.Frag} {io : Lo} {H : Hp} {a : Addr} {xs : List V} (h : LstAt K io H a xs) : SqL K H a xs := h.imp (fun z => z.1) fun z => z

mutual
/-- v stands for d -/
def Rep (K : PySem.W.Frag) (io : Lo) (H : Hp) : D → V → Prop
  | .non, v => v = .non
  | .bl b, v => v = .bl b
  | .int i, v => v = .int i
  | .str x, v => v = .str x
  | .tup ds, v => ∃ a xs, v = .ref a ∧ TupAt K io H a xs ∧ RepL K io H ds xs
  | .lst ds, v => ∃ a xs, v = .ref a ∧ LstAt K io H a xs ∧ RepL K io H ds xs
  | .loc n, v => ∃ a, v = .ref a ∧ io.at_ n = some a
def RepL (K : PySem.W.Frag) (io : Lo) (H : Hp) : List D → List V → Prop
  | [], vs => vs = []
  | d :: ds, vs => ∃ v r, vs = v :: r ∧ Rep K io H d v ∧ RepL K io H ds r
end

/-- what keeps the meaning of values -/
structure Mon (io : Lo) (H : Hp) (io' : Lo) (H' : Hp) : Prop where
  sub : ∀ n a, io.at_ n = some a → io'.at_ n = some a
  nl : ∀ a, NotLoc io a → H a ≠ none → NotLoc io' a
  keep : ∀ a o, H a = some o → NotLoc io a → H' a = some o
/-- what an evaluation may do -/
structure Ext (io : Lo) (H : Hp) (io' : Lo) (H' : Hp) : Prop where
  sub : ∀ n a, io.at_ n = some a → io'.at_ n = some a
  new : ∀ n a, io'.at_ n = some a → io.at_ n = some a ∨ (io.at_ n = none ∧ H a = none)
  keep : ∀ a o, H a = some o → NotLoc io a → H' a = some o
  live : ∀ a, H a ≠ none → H' a ≠ none
  hidE : io'.hid = io.hid
  keepH : ∀ a, io.hid a → H' a = H a
theorem Ext.refl (io : Lo) (H : Hp) : Ext io H io H := ⟨fun _ _ h => h, fun _ _ h => .inl h, fun _ _ h _ => h, fun _ h => h, rfl, fun _ _ => rfl⟩
theorem Ext.notLoc {io io' : Lo} {H H' : Hp} {a : Addr} (e : Ext io H io' H') (h : NotLoc io a) (l : H a ≠ none) : NotLoc io' a := by
  refine ⟨fun n z => ?_, by rw [e.hidE]; exact h.2⟩
  rcases e.new n a z with q | ⟨_, q⟩
  · exact h.1 n q
  · exact l q
theorem Ext.mon {io io' : Lo} {H H' : Hp} (e : Ext io H io' H') : Mon io H io' H' := ⟨e.sub, fun _ h l => e.notLoc h l, e.keep⟩
theorem Mon.trans {i1 i2 i3 : Lo} {H1 H2 H3 : Hp} (a : Mon i1 H1 i2 H2) (b : Mon i2 H2 i3 H3) : Mon i1 H1 i3 H3 where
  sub := fun n x h => b.sub n x (a.sub n x h)
  nl := fun x h l => by
    cases z : H1 x with
    | none => exact absurd z l
    | some o => exact b.nl x (a.nl x h l) (by rw [a.keep x o z h]; exact fun q => nomatch q)
  keep := fun x o h nl => b.keep x o (a.keep x o h nl) (a.nl x nl (by rw [h]; exact fun q => nomatch q))
theorem Ext.trans {i1 i2 i3 : Lo} {H1 H2 H3 : Hp} (a : Ext i1 H1 i2 H2) (b : Ext i2 H2 i3 H3) : Ext i1 H1 i3 H3 where
  sub := fun n x h => b.sub n x (a.sub n x h)
  new := fun n x h => by
    rcases b.new n x h with q | ⟨q1, q2⟩
    · exact a.new n x q
    · refine .inr ⟨?_, ?_⟩
      · cases z : i1.at_ n with
        | none => rfl
        | some y => rw [a.sub n y z] at q1; cases q1
      · cases z : H1 x with
        | none => rfl
        | some o => exact absurd q2 (a.live x (by rw [z]; exact fun q => nomatch q))
  keep := fun x o h nl => b.keep x o (a.keep x o h nl) (a.notLoc nl (by rw [h]; exact fun q => nomatch q))
  live := fun x h => b.live x (a.live x h)
  hidE := b.hidE.trans a.hidE
  keepH := fun x h => (b.keepH x (by rw [a.hidE]; exact h)).trans (a.keepH x h)
theorem mon_fresh {io : Lo} {H : Hp} {p : Addr} {o : HO} (h : H p = none) : Mon io H io (upd H p o) :=
  ⟨fun _ _ h => h, fun _ h _ => h, fun a u q _ => by rw [upd_ne (ne_of_none q h)]; exact q⟩

section
variable {K : PySem.W.Frag} {io io' : Lo} {H H' : Hp}
theorem rd_mono {a : Addr} {u : HO} (e : Mon io H io' H') (h : Rd H a u ∧ NotLoc io a) : Rd H' a u ∧ NotLoc io' a := by
  obtain ⟨h, nl⟩ := h
  have l : H a ≠ none := by
    rcases h with h | ⟨o, h⟩ <;> (rw [h]; exact fun z => nomatch z)
  refine ⟨?_, e.nl _ nl l⟩
  rcases h with h | ⟨o, h⟩
  · exact .inl (e.keep _ _ h nl)
  · exact .inr ⟨o, e.keep _ _ h nl⟩
theorem TupAt.mono {a : Addr} {xs : List V} (e : Mon io H io' H') (h : TupAt K io H a xs) : TupAt K io' H' a xs := h.imp (rd_mono e) fun z => z
theorem LstAt.mono {a : Addr} {xs : List V} (e : Mon io H io' H') (h : LstAt K io H a xs) : LstAt K io' H' a xs := h.imp (rd_mono e) fun z => z
mutual
theorem Rep.mono (e : Mon io H io' H') : ∀ (d : D) (v : V), Rep K io H d v → Rep K io' H' d v
  | .non, _, h => h
  | .bl _, _, h => h
  | .int _, _, h => h
  | .str _, _, h => h
  | .tup ds, _, ⟨a, xs, h1, h2, h3⟩ => ⟨a, xs, h1, h2.mono e, RepL.mono e ds xs h3⟩
  | .lst ds, _, ⟨a, xs, h1, h2, h3⟩ => ⟨a, xs, h1, h2.mono e, RepL.mono e ds xs h3⟩
  | .loc n, _, ⟨a, h1, h2⟩ => ⟨a, h1, e.sub n a h2⟩
theorem RepL.mono (e : Mon io H io' H') : ∀ (ds : List D) (vs : List V), RepL K io H ds vs → RepL K io' H' ds vs
  | [], _, h => h
  | d :: ds, _, ⟨v, r, h1, h2, h3⟩ => ⟨v, r, h1, Rep.mono e d v h2, RepL.mono e ds r h3⟩
end
theorem RepL.length : ∀ {ds : List D} {vs : List V}, RepL K io H ds vs → ds.length = vs.length
  | [], _, h => by
    have h : _ = _ := h
    rw [h]; rfl
  | d :: ds, _, ⟨v, r, h1, _, h3⟩ => by rw [h1, List.length_cons, List.length_cons, RepL.length h3]
theorem RepL.get : ∀ {ds : List D} {vs : List V} {i : Nat} {d : D}, RepL K io H ds vs → ds[i]? = some d → ∃ v, vs[i]? = some v ∧ Rep K io H d v
  | [], _, i, d, _, e => by simp at e
  | d0 :: ds, _, 0, d, ⟨v, r, h1, h2, h3⟩, e => by
    simp at e; subst e; subst h1; exact ⟨v, rfl, h2⟩
  | d0 :: ds, _, i + 1, d, ⟨v, r, h1, h2, h3⟩, e => by
    subst h1
    obtain ⟨u, h4, h5⟩ := RepL.get (i := i) h3 (by simpa using e)
    exact ⟨u, by simpa using h4, h5⟩
theorem RepL.getV {ds : List D} {vs : List V} {i : Nat} {v : V} (h : RepL K io H ds vs) (e : vs[i]? = some v) : ∃ d, ds[i]? = some d ∧ Rep K io H d v := by
  have hi : i < ds.length := by
    rw [h.length]
    exact (List.getElem?_eq_some_iff.mp e).1
  obtain ⟨u, h1, h2⟩ := h.get (List.getElem?_eq_getElem hi)
  rw [e] at h1; cases h1
  exact ⟨_, List.getElem?_eq_getElem hi, h2⟩
theorem RepL.append : ∀ {ds es : List D} {vs ws : List V}, RepL K io H ds vs → RepL K io H es ws → RepL K io H (ds ++ es) (vs ++ ws)
  | [], _, _, _, h, q => by
    have h : _ = _ := h
    subst h; exact q
  | d :: ds, es, _, ws, ⟨v, r, h1, h2, h3⟩, q => by subst h1; exact ⟨v, r ++ ws, rfl, h2, RepL.append h3 q⟩
theorem RepL.take : ∀ {ds : List D} {vs : List V} (n : Nat), RepL K io H ds vs → RepL K io H (ds.take n) (vs.take n)
  | ds, vs, 0, _ => by rw [List.take_zero, List.take_zero]; rfl
  | [], vs, n + 1, h => by
    have h : _ = _ := h
    subst h; rfl
  | d :: ds, _, n + 1, ⟨v, r, h1, h2, h3⟩ => by subst h1; exact ⟨v, r.take n, rfl, h2, RepL.take n h3⟩
theorem RepL.drop : ∀ {ds : List D} {vs : List V} (n : Nat), RepL K io H ds vs → RepL K io H (ds.drop n) (vs.drop n)
  | ds, vs, 0, h => h
  | [], vs, n + 1, h => by
    have h : _ = _ := h
    subst h; rfl
  | d :: ds, _, n + 1, ⟨v, r, h1, h2, h3⟩ => by subst h1; exact RepL.drop n h3
theorem RepL.reverse : ∀ {ds : List D} {vs : List V}, RepL K io H ds vs → RepL K io H ds.reverse vs.reverse
  | [], _, h => by
    have h : _ = _ := h
    subst h; rfl
  | d :: ds, _, ⟨v, r, h1, h2, h3⟩ => by
    subst h1
    rw [List.reverse_cons, List.reverse_cons]
    exact RepL.append (RepL.reverse h3) ⟨v, [], rfl, h2, rfl⟩
theorem RepL.set {d : D} {v : V} (q : Rep K io H d v) : ∀ {ds : List D} {vs : List V} (i : Nat), RepL K io H ds vs → RepL K io H (ds.set i d) (vs.set i v)
  | [], _, _, h => by
    have h : _ = _ := h
    subst h; rfl
  | _ :: ds, _, 0, ⟨w, r, h1, h2, h3⟩ => by subst h1; exact ⟨v, r, rfl, q, h3⟩
  | _ :: ds, _, i + 1, ⟨w, r, h1, h2, h3⟩ => by subst h1; exact ⟨w, r.set i v, rfl, h2, RepL.set q i h3⟩
theorem RepL.dropLast {ds : List D} {vs : List V} (h : RepL K io H ds vs) : RepL K io H ds.dropLast vs.dropLast := by
  rw [List.dropLast_eq_take, List.dropLast_eq_take, h.length]
  exact h.take _
theorem RepL.one {d : D} {v : V} (h : Rep K io H d v) : RepL K io H [d] [v] := ⟨v, [], rfl, h, rfl⟩

structure SR (K : PySem.W.Frag) (io : Lo) (H : Hp) (st : Sto) : Prop where
  here : ∀ n xs, st[n]? = some (.lst xs) → ∃ a vs, io.at_ n = some a ∧ H a = some (.lst vs) ∧ RepL K io H xs vs
  dom : ∀ n a, io.at_ n = some a → n < st.length
  inj : ∀ n m a, io.at_ n = some a → io.at_ m = some a → n = m
  hidL : ∀ a, io.hid a → H a ≠ none ∧ ∀ n, io.at_ n ≠ some a
/-- all that the addresses of the store hold are lists -/
theorem SR.lst {st : Sto} (s : SR K io H st) {n : Nat} {a : Addr} (h : io.at_ n = some a) : ∃ vs, H a = some (.lst vs) := by
  have hl := s.dom n a h
  cases e : st[n]? with
  | none => rw [List.getElem?_eq_none_iff] at e; omega
  | some o =>
    obtain ⟨xs⟩ := o
    obtain ⟨b, vs, h1, h2, _⟩ := s.here n xs e
    rw [h] at h1; cases h1
    exact ⟨vs, h2⟩
theorem SR.notLoc {st : Sto} (s : SR K io H st) {a : Addr} (h : H a = none) : NotLoc io a := by
  refine ⟨fun n z => ?_, fun z => (s.hidL a z).1 h⟩
  obtain ⟨vs, q⟩ := s.lst z
  rw [h] at q; cases q
theorem ext_fresh {st : Sto} {p : Addr} {o : HO} (s : SR K io H st) (h : H p = none) : Ext io H io (upd H p o) where
  sub := fun _ _ h => h
  new := fun _ _ h => .inl h
  keep := (mon_fresh h).keep
  live := fun a q => by
    by_cases e : a = p
    · rw [e, upd_same]; exact fun z => nomatch z
    · rw [upd_ne e]; exact q
  hidE := rfl
  keepH := fun a q => by rw [upd_ne (fun z => (s.hidL a q).1 (by rw [z]; exact h))]
/-- a new by-value object -/
theorem SR.fresh {st : Sto} {p : Addr} {o : HO} (s : SR K io H st) (h : H p = none) : SR K io (upd H p o) st where
  here := fun n xs e => by
    obtain ⟨a, vs, h1, h2, h3⟩ := s.here n xs e
    exact ⟨a, vs, h1, by rw [upd_ne (ne_of_none h2 h)]; exact h2, h3.mono (mon_fresh h)⟩
  dom := s.dom
  inj := s.inj
  hidL := fun a q => ⟨(ext_fresh s h).live a (s.hidL a q).1, (s.hidL a q).2⟩

/-- a list of the store is changed -/
theorem ext_put {st : Sto} (s : SR K io H st) {n : Nat} {a : Addr} {ws : List V} (h : io.at_ n = some a) : Ext io H io (upd H a (.lst ws)) where
  sub := fun _ _ h => h
  new := fun _ _ h => .inl h
  keep := fun b u q nl => by
    rw [upd_ne (fun z => nl.1 n (by rw [h, z]))]; exact q
  live := fun b q => by
    by_cases e : b = a
    · rw [e, upd_same]; exact fun z => nomatch z
    · rw [upd_ne e]; exact q
  hidE := rfl
  keepH := fun b q => by rw [upd_ne (fun z => (s.hidL b q).2 n (by rw [h, z]))]
theorem SR.put {st : Sto} (s : SR K io H st) {n : Nat} {a : Addr} {ys : List D} {ws : List V} (h : io.at_ n = some a) (r : RepL K io H ys ws) : SR K io (upd H a (.lst ws)) (st.set n (.lst ys)) where
  here := fun m xs e => by
    by_cases hm : m = n
    · subst hm
      rw [List.getElem?_set_self (s.dom m a h)] at e
      cases e
      exact ⟨a, ws, h, upd_same, r.mono (ext_put s h).mon⟩
    · rw [List.getElem?_set_ne (Ne.symm hm)] at e
      obtain ⟨b, vs, h1, h2, h3⟩ := s.here m xs e
      refine ⟨b, vs, h1, ?_, h3.mono (ext_put s h).mon⟩
      rw [upd_ne (fun z => hm (s.inj m n a (by rw [← z]; exact h1) h))]; exact h2
  dom := fun m b q => by rw [List.length_set]; exact s.dom m b q
  inj := s.inj
  hidL := fun b q => ⟨(ext_put s h).live b (s.hidL b q).1, (s.hidL b q).2⟩
/-- a new list of the store -/
def addL (io : Lo) (n : Nat) (p : Addr) : Lo := { io with at_ := fun m => if m = n then some p else io.at_ m }
theorem addL_new {io : Lo} {n : Nat} {p : Addr} : (addL io n p).at_ n = some p := by unfold addL; exact if_pos rfl
theorem addL_old {io : Lo} {n m : Nat} {p : Addr} (h : m ≠ n) : (addL io n p).at_ m = io.at_ m := by unfold addL; exact if_neg h
theorem ext_add {st : Sto} (s : SR K io H st) {p : Addr} {ws : List V} (h : H p = none) : Ext io H (addL io st.length p) (upd H p (.lst ws)) where
  sub := fun n a q => by
    have := s.dom n a q
    rw [addL_old (by omega)]; exact q
  new := fun n a q => by
    by_cases e : n = st.length
    · rw [e, addL_new] at q; cases q
      refine .inr ⟨?_, h⟩
      cases z : io.at_ n with
      | none => rfl
      | some b => have := s.dom n b z; omega
    · rw [addL_old e] at q; exact .inl q
  keep := fun a u q _ => by rw [upd_ne (ne_of_none q h)]; exact q
  live := fun a q => by
    by_cases e : a = p
    · rw [e, upd_same]; exact fun z => nomatch z
    · rw [upd_ne e]; exact q
  hidE := rfl
  keepH := (ext_fresh s h).keepH
theorem SR.add {st : Sto} (s : SR K io H st) {p : Addr} {ys : List D} {ws : List V} (h : H p = none) (r : RepL K io H ys ws) : SR K (addL io st.length p) (upd H p (.lst ws)) (st ++ [.lst ys]) where
  here := fun m xs e => by
    by_cases hm : m = st.length
    · subst hm
      rw [List.getElem?_append_right (Nat.le_refl _), Nat.sub_self] at e
      have e : some (Ob.lst ys) = some (Ob.lst xs) := e
      cases e
      exact ⟨p, ws, addL_new, upd_same, r.mono (ext_add s h).mon⟩
    · have hl : m < st.length := by
        have := (List.getElem?_eq_some_iff.mp e).1
        rw [List.length_append] at this
        have : m < st.length + 1 := this
        omega
      rw [List.getElem?_append_left hl] at e
      obtain ⟨b, vs, h1, h2, h3⟩ := s.here m xs e
      refine ⟨b, vs, by rw [addL_old hm]; exact h1, ?_, h3.mono (ext_add s h).mon⟩
      rw [upd_ne (ne_of_none h2 h)]; exact h2
  dom := fun m b q => by
    rw [List.length_append]
    show m < st.length + 1
    by_cases e : m = st.length
    · omega
    · rw [addL_old e] at q
      have := s.dom m b q
      omega
  inj := fun n m a h1 h2 => by
    by_cases e1 : n = st.length
    · by_cases e2 : m = st.length
      · omega
      · rw [e1, addL_new] at h1; rw [addL_old e2] at h2
        cases h1
        exact absurd h2 ((s.notLoc h).1 m)
    · by_cases e2 : m = st.length
      · rw [addL_old e1] at h1; rw [e2, addL_new] at h2
        cases h2
        exact absurd h1 ((s.notLoc h).1 n)
      · rw [addL_old e1] at h1; rw [addL_old e2] at h2
        exact s.inj n m a h1 h2
  hidL := fun b q => by
    have q' : io.hid b := q
    refine ⟨(ext_add s h).live b (s.hidL b q').1, fun n z => ?_⟩
    by_cases e : n = st.length
    · rw [e, addL_new] at z; cases z
      exact (s.hidL p q').1 h
    · rw [addL_old e] at z
      exact (s.hidL b q').2 n z

/-! ### something is built out of sight -/
def hideL (io : Lo) (p : Addr) : Lo := { io with hid := fun a => io.hid a ∨ a = p }
theorem notLoc_hide {p a : Addr} : NotLoc (hideL io p) a ↔ NotLoc io a ∧ a ≠ p := by
  unfold NotLoc hideL
  constructor
  · intro h; exact ⟨⟨h.1, fun z => h.2 (.inl z)⟩, fun z => h.2 (.inr z)⟩
  · intro h; exact ⟨h.1.1, fun z => z.elim h.1.2 h.2⟩
theorem mon_hide {p : Addr} {o : HO} (h : H p = none) : Mon io H (hideL io p) (upd H p o) where
  sub := fun _ _ h => h
  nl := fun a q l => notLoc_hide.mpr ⟨q, fun z => l (by rw [z]; exact h)⟩
  keep := (mon_fresh h).keep
theorem SR.hide {st : Sto} {p : Addr} {o : HO} (s : SR K io H st) (h : H p = none) : SR K (hideL io p) (upd H p o) st where
  here := fun n xs e => by
    obtain ⟨a, vs, h1, h2, h3⟩ := s.here n xs e
    exact ⟨a, vs, h1, by rw [upd_ne (ne_of_none h2 h)]; exact h2, h3.mono (mon_hide h)⟩
  dom := s.dom
  inj := s.inj
  hidL := fun a q => by
    rcases q with q | q
    · exact ⟨(ext_fresh s h).live a (s.hidL a q).1, (s.hidL a q).2⟩
    · subst q
      exact ⟨(by rw [upd_same]; exact fun z => nomatch z), (s.notLoc h).1⟩
/-- what is hidden is changed -/
theorem mon_hid {p : Addr} {o : HO} (h : io.hid p) : Mon io H io (upd H p o) where
  sub := fun _ _ h => h
  nl := fun _ q _ => q
  keep := fun a u q nl => by rw [upd_ne (fun z => nl.2 (by rw [z]; exact h))]; exact q
theorem SR.hidPut {st : Sto} {p : Addr} {o : HO} (s : SR K io H st) (h : io.hid p) : SR K io (upd H p o) st where
  here := fun n xs e => by
    obtain ⟨a, vs, h1, h2, h3⟩ := s.here n xs e
    exact ⟨a, vs, h1, by rw [upd_ne (fun z => (s.hidL p h).2 n (by rw [← z]; exact h1))]; exact h2, h3.mono (mon_hid h)⟩
  dom := s.dom
  inj := s.inj
  hidL := fun a q => by
    refine ⟨?_, (s.hidL a q).2⟩
    by_cases e : a = p
    · rw [e, upd_same]; exact fun z => nomatch z
    · rw [upd_ne e]; exact (s.hidL a q).1
/-- .. and seen at last -/
def showL (io : Lo) (f : Addr → Prop) : Lo := { io with hid := f }
theorem mon_show {f : Addr → Prop} (h : ∀ a, f a → io.hid a) : Mon io H (showL io f) H := ⟨fun _ _ h => h, fun a q _ => ⟨q.1, fun z => q.2 (h a z)⟩, fun _ _ q _ => q⟩
theorem SR.unhide {st : Sto} {f : Addr → Prop} (s : SR K io H st) (h : ∀ a, f a → io.hid a) : SR K (showL io f) H st where
  here := fun n xs e => by
    obtain ⟨a, vs, h1, h2, h3⟩ := s.here n xs e
    exact ⟨a, vs, h1, h2, h3.mono (mon_show h)⟩
  dom := s.dom
  inj := s.inj
  hidL := fun a q => s.hidL a (h a q)
/-- a step of one that builds at p, as it is seen by who does not know of p -/
theorem Ext.seen {i1 i2 i3 : Lo} {H1 H2 H3 : Hp} {p : Addr} (a : Ext i1 H1 (showL i2 i1.hid) H2) (h2 : ∀ x, i2.hid x ↔ i1.hid x ∨ x = p) (hp : H1 p = none) (b : Ext i2 H2 i3 H3) : Ext i1 H1 (showL i3 i1.hid) H3 where
  sub := fun n x h => b.sub n x (a.sub n x h)
  new := fun n x h => by
    rcases b.new n x h with q | ⟨q1, q2⟩
    · exact a.new n x q
    · refine .inr ⟨?_, ?_⟩
      · cases z : i1.at_ n with
        | none => rfl
        | some y =>
          have q1 : (showL i2 i1.hid).at_ n = none := q1
          rw [a.sub n y z] at q1; cases q1
      · cases z : H1 x with
        | none => rfl
        | some o => exact absurd q2 (a.live x (by rw [z]; exact fun q => nomatch q))
  keep := fun x o h nl => by
    have l : H1 x ≠ none := by rw [h]; exact fun q => nomatch q
    have k := a.keep x o h nl
    have n2 := a.notLoc nl l
    refine b.keep x o k ⟨n2.1, fun z => ?_⟩
    rcases (h2 x).mp z with z | z
    · exact nl.2 z
    · rw [z] at l; exact l hp
  live := fun x h => b.live x (a.live x h)
  hidE := rfl
  keepH := fun x h => (b.keepH x ((h2 x).mpr (.inl h))).trans (a.keepH x h)
theorem Ext.seenPut {i1 i2 : Lo} {H1 H2 : Hp} {p : Addr} {o : HO} (a : Ext i1 H1 i2 H2) (hp : H1 p = none) (hh : ¬ i1.hid p) : Ext i1 H1 i2 (upd H2 p o) where
  sub := a.sub
  new := a.new
  keep := fun x u h nl => by rw [upd_ne (ne_of_none h hp)]; exact a.keep x u h nl
  live := fun x h => by
    by_cases e : x = p
    · rw [e, upd_same]; exact fun z => nomatch z
    · rw [upd_ne e]; exact a.live x h
  hidE := a.hidE
  keepH := fun x h => by rw [upd_ne (fun z => hh (by rw [← z]; exact h))]; exact a.keepH x h
end

/-! ### computations -/
/-- an exception: its class's name, its value -/
abbrev Xc := Str × D
inductive Res (α : Type) where
  | ok (a : α) (s : Sto) | exc (x : Xc) (s : Sto) | bad
def M (α : Type) := Sto → Res α
namespace M
def pure {α : Type} (a : α) : M α := fun s => .ok a s
def bad {α : Type} : M α := fun _ => .bad
def bind {α β : Type} (m : M α) (f : α → M β) : M β := fun s => match m s with
  | .ok a s' => f a s'
  | .exc x s' => .exc x s'
  | .bad => .bad
def ofO {α : Type} : Option α → M α
  | some a => M.pure a
  | none => M.bad
end M
def wpM {α : Type} (m : M α) (st : Sto) (ok : α → Sto → Prop) (ex : Xc → Sto → Prop) : Prop := match m st with
  | .ok a s => ok a s
  | .exc x s => ex x s
  | .bad => False
theorem wpM_bind {α β : Type} {m : M α} {f : α → M β} {st : Sto} {ok : β → Sto → Prop} {ex : Xc → Sto → Prop} (h : wpM (M.bind m f) st ok ex) : wpM m st (fun a s => wpM (f a) s ok ex) ex := by
  unfold wpM M.bind at *
  cases e : m st with
  | ok a s => rw [e] at h; exact h
  | exc x s => rw [e] at h; exact h
  | bad => rw [e] at h; exact h
theorem wpM_mono {α : Type} {m : M α} {st : Sto} {ok ok' : α → Sto → Prop} {ex ex' : Xc → Sto → Prop} (h : wpM m st ok ex) (h1 : ∀ a s, ok a s → ok' a s) (h2 : ∀ x s, ex x s → ex' x s) : wpM m st ok' ex' := by
  unfold wpM at *
  cases e : m st with
  | ok a s => rw [e] at h; exact h1 _ _ h
  | exc x s => rw [e] at h; exact h2 _ _ h
  | bad => rw [e] at h; exact h
theorem wpM_ofO {α : Type} {o : Option α} {st : Sto} {ok : α → Sto → Prop} {ex : Xc → Sto → Prop} (h : wpM (M.ofO o) st ok ex) : ∃ a, o = some a ∧ ok a st := by
  cases o with
  | none => exact h.elim
  | some a => exact ⟨a, rfl, h⟩
end KT

/-! Kt2: the readings of computations; expressions, tests, arguments. -/
namespace KT
open PySem PySem.Spec L2
open PyProof.Rows hiding St

abbrev En := List (Option D)
abbrev EM := En → M D
abbrev TM := En → M Bool
abbrev AM := En → M (List D)
abbrev XW := Xc → Lo → Hp → Prop

def EnvR (K : PySem.W.Frag) (io : Lo) (H : Hp) (σ : St) (ρ : En) : Prop := ρ.length = σ.length ∧ ∀ (i : Nat) (d : D), ρ[i]? = some (some d) → ∃ v : V, σ[i]? = some (some v) ∧ Rep K io H d v
section
variable {K : PySem.W.Frag} {io io' : Lo} {H H' : Hp} {σ : St} {ρ : En}
theorem EnvR.mono (e : Mon io H io' H') (h : EnvR K io H σ ρ) : EnvR K io' H' σ ρ := ⟨h.1, fun i d q => by
  obtain ⟨v, h1, h2⟩ := h.2 i d q
  exact ⟨v, h1, h2.mono e⟩⟩
theorem EnvR.set {i : Nat} {d : D} {v : V} (h : EnvR K io H σ ρ) (r : Rep K io H d v) : EnvR K io H (σ.set i (some v)) (ρ.set i (some d)) := by
  refine ⟨by rw [List.length_set, List.length_set]; exact h.1, fun j e q => ?_⟩
  by_cases hj : i = j
  · subst hj
    have hi : i < ρ.length := by
      have := (List.getElem?_eq_some_iff.mp q).1
      rwa [List.length_set] at this
    rw [List.getElem?_set_self hi] at q
    cases q
    exact ⟨v, by rw [List.getElem?_set_self (by rw [← h.1]; exact hi)], r⟩
  · rw [List.getElem?_set_ne hj] at q
    obtain ⟨w, h1, h2⟩ := h.2 j e q
    exact ⟨w, by rw [List.getElem?_set_ne hj]; exact h1, h2⟩
def wipeD (ρ : En) : List Nat → En
  | [] => ρ
  | v :: vs => (wipeD ρ vs).set v none
theorem EnvR.clear {i : Nat} (h : EnvR K io H σ ρ) : EnvR K io H (σ.set i none) (ρ.set i none) := by
  refine ⟨by rw [List.length_set, List.length_set]; exact h.1, fun j e q => ?_⟩
  by_cases hj : i = j
  · subst hj
    by_cases hi : i < ρ.length
    · rw [List.getElem?_set_self hi] at q; cases q
    · rw [List.getElem?_eq_none (by rw [List.length_set]; omega)] at q; cases q
  · rw [List.getElem?_set_ne hj] at q
    obtain ⟨w, h1, h2⟩ := h.2 j e q
    exact ⟨w, by rw [List.getElem?_set_ne hj]; exact h1, h2⟩
theorem EnvR.wipe (h : EnvR K io H σ ρ) : ∀ vs : List Nat, EnvR K io H (L2.wipe σ vs) (wipeD ρ vs)
  | [] => h
  | v :: vs => (EnvR.wipe h vs).clear
end

/-- what is wanted behind a value, an exception -/
def afE (K : PySem.W.Frag) (io : Lo) (H : Hp) (Q : VK) (d : D) (st' : Sto) : Prop := ∀ io' H' v, Ext io H io' H' → SR K io' H' st' → Rep K io' H' d v → Q v H'
def afX (K : PySem.W.Frag) (io : Lo) (H : Hp) (W : XW) (x : Xc) (st' : Sto) : Prop := ∀ io' H', Ext io H io' H' → SR K io' H' st' → W x io' H'
def afB (K : PySem.W.Frag) (io : Lo) (H : Hp) (Q : Bool → Hp → Prop) (b : Bool) (st' : Sto) : Prop := ∀ io' H', Ext io H io' H' → SR K io' H' st' → Q b H'
def afA (K : PySem.W.Frag) (io : Lo) (H : Hp) (Q : List V → Hp → Prop) (ds : List D) (st' : Sto) : Prop := ∀ io' H' vs, Ext io H io' H' → SR K io' H' st' → RepL K io' H' ds vs → Q vs H'
def rdE (K : PySem.W.Frag) (W : XW) (m : EM) : TE := fun σ H Q => ∃ io ρ st, SR K io H st ∧ EnvR K io H σ ρ ∧ wpM (m ρ) st (afE K io H Q) (afX K io H W)
def rdT (K : PySem.W.Frag) (W : XW) (m : TM) : TT := fun σ H Q => ∃ io ρ st, SR K io H st ∧ EnvR K io H σ ρ ∧ wpM (m ρ) st (afB K io H Q) (afX K io H W)
def rdA (K : PySem.W.Frag) (W : XW) (m : AM) : TA := fun σ H Q => ∃ io ρ st, SR K io H st ∧ EnvR K io H σ ρ ∧ wpM (m ρ) st (afA K io H Q) (afX K io H W)
theorem afX.trans {K : PySem.W.Frag} {io io' : Lo} {H H' : Hp} {W : XW} {x : Xc} {st : Sto} (e : Ext io H io' H') (h : afX K io H W x st) : afX K io' H' W x st := fun io2 H2 e2 s2 => h io2 H2 (e.trans e2) s2
theorem afE.trans {K : PySem.W.Frag} {io io' : Lo} {H H' : Hp} {Q : VK} {x : D} {st : Sto} (e : Ext io H io' H') (h : afE K io H Q x st) : afE K io' H' Q x st := fun io2 H2 v e2 s2 r => h io2 H2 v (e.trans e2) s2 r

theorem PE.imp {X : Cx} {e : Expr} {t t' : TE} (h : PE X e t) (q : ∀ σ H Q, t' σ H Q → t σ H Q) : PE X e t' := ⟨fun pins s σ H Q I z => h.run pins s σ H Q I (q σ H Q z)⟩
theorem PT.imp {X : Cx} {e : Expr} {t t' : TT} (h : PT X e t) (q : ∀ σ H Q, t' σ H Q → t σ H Q) : PT X e t' := ⟨fun pins s σ H Q I z => h.run pins s σ H Q I (q σ H Q z)⟩
theorem PW.imp {X : Cx} {e : Expr} {t t' : TT} (h : PW X e t) (q : ∀ σ H Q, t' σ H Q → t σ H Q) : PW X e t' := ⟨fun wh pins s σ H Q I z => h.run wh pins s σ H Q I (q σ H Q z)⟩
theorem PA.imp {X : Cx} {e : List Expr} {t t' : TA} (h : PA X e t) (q : ∀ σ H Q, t' σ H Q → t σ H Q) : PA X e t' := ⟨fun pos pins s σ H Q I z => h.run pos pins s σ H Q I (q σ H Q z)⟩

section
variable {K : PySem.W.Frag} {W : XW} {σ : St} {H : Hp}
theorem rdE.mono {m : EM} {Q Q' : VK} (h : rdE K W m σ H Q) (q : ∀ v H', Q v H' → Q' v H') : rdE K W m σ H Q' := by
  obtain ⟨io, ρ, st, h1, h2, h3⟩ := h
  exact ⟨io, ρ, st, h1, h2, wpM_mono h3 (fun d s z io' H' v e1 e2 e3 => q _ _ (z io' H' v e1 e2 e3)) fun _ _ z => z⟩
theorem rdT.mono {m : TM} {Q Q' : Bool → Hp → Prop} (h : rdT K W m σ H Q) (q : ∀ v H', Q v H' → Q' v H') : rdT K W m σ H Q' := by
  obtain ⟨io, ρ, st, h1, h2, h3⟩ := h
  exact ⟨io, ρ, st, h1, h2, wpM_mono h3 (fun d s z io' H' e1 e2 => q _ _ (z io' H' e1 e2)) fun _ _ z => z⟩
/-- one part, then the rest -/
theorem rdE.step {m : EM} {β : Type} {f : En → D → M β} {io : Lo} {ρ : En} {st : Sto} {ok : β → Sto → Prop} {Q : VK} (s : SR K io H st) (r : EnvR K io H σ ρ)
    (h : wpM (M.bind (m ρ) (f ρ)) st ok (afX K io H W))
    (q : ∀ io' H' v d st', Ext io H io' H' → SR K io' H' st' → EnvR K io' H' σ ρ → Rep K io' H' d v → wpM (f ρ d) st' ok (afX K io' H' W) → Q v H') : rdE K W m σ H Q :=
  ⟨io, ρ, st, s, r, wpM_mono (wpM_bind h) (fun d st' z io' H' v e s' rv => q io' H' v d st' e s' (r.mono e.mon) rv (wpM_mono z (fun _ _ y => y) fun _ _ y => y.trans e)) fun _ _ z => z⟩
theorem rdT.step {m : TM} {β : Type} {f : En → Bool → M β} {io : Lo} {ρ : En} {st : Sto} {ok : β → Sto → Prop} {Q : Bool → Hp → Prop} (s : SR K io H st) (r : EnvR K io H σ ρ)
    (h : wpM (M.bind (m ρ) (f ρ)) st ok (afX K io H W))
    (q : ∀ io' H' b st', Ext io H io' H' → SR K io' H' st' → EnvR K io' H' σ ρ → wpM (f ρ b) st' ok (afX K io' H' W) → Q b H') : rdT K W m σ H Q :=
  ⟨io, ρ, st, s, r, wpM_mono (wpM_bind h) (fun d st' z io' H' e s' => q io' H' d st' e s' (r.mono e.mon) (wpM_mono z (fun _ _ y => y) fun _ _ y => y.trans e)) fun _ _ z => z⟩
theorem rdA.step {m : AM} {β : Type} {f : En → List D → M β} {io : Lo} {ρ : En} {st : Sto} {ok : β → Sto → Prop} {Q : List V → Hp → Prop} (s : SR K io H st) (r : EnvR K io H σ ρ)
    (h : wpM (M.bind (m ρ) (f ρ)) st ok (afX K io H W))
    (q : ∀ io' H' vs ds st', Ext io H io' H' → SR K io' H' st' → EnvR K io' H' σ ρ → RepL K io' H' ds vs → wpM (f ρ ds) st' ok (afX K io' H' W) → Q vs H') : rdA K W m σ H Q :=
  ⟨io, ρ, st, s, r, wpM_mono (wpM_bind h) (fun d st' z io' H' v e s' rv => q io' H' v d st' e s' (r.mono e.mon) rv (wpM_mono z (fun _ _ y => y) fun _ _ y => y.trans e)) fun _ _ z => z⟩
end
theorem wpM_afE {K : PySem.W.Frag} {io io' : Lo} {H H' : Hp} {W : XW} {m : M D} {st : Sto} {Q : VK} (e : Ext io H io' H') (h : wpM m st (afE K io H Q) (afX K io' H' W)) : wpM m st (afE K io' H' Q) (afX K io' H' W) :=
  wpM_mono h (fun _ _ z => afE.trans e z) fun _ _ z => z

/-! ### names, constants -/
def eVar (i : Nat) : EM := fun ρ => M.ofO (ρ[i]?.getD none)
def eC (d : D) : EM := fun _ => M.pure d
section
variable {X : Cx} {W : XW}
theorem rd_var {i : Nat} {σ : St} {H : Hp} {Q : VK} (h : rdE X.K W (eVar i) σ H Q) : tVar i σ H Q := by
  obtain ⟨io, ρ, st, s, r, h⟩ := h
  obtain ⟨d, h1, h2⟩ := wpM_ofO h
  have e : ρ[i]? = some (some d) := by
    cases z : ρ[i]? with
    | none => rw [z] at h1; cases h1
    | some o => rw [z] at h1; rw [show o = some d from h1]
  obtain ⟨v, h3, h4⟩ := r.2 i d e
  exact ⟨v, h3, h2 io H v (Ext.refl _ _) s h4⟩
theorem k_var (i : Nat) {x : Str} {pos : Pos} (hN : X.N[i]? = some x := by rfl) (hv : Vis X.env.scope x := by first | exact Or.inl rfl | exact Or.inr (Or.inl rfl) | exact Or.inr (Or.inr rfl)) (hd : (x == ("__debug__" : Str)) = false := by decide)
    (hcd : (x == ("__classdict__" : Str)) = false := by decide) : PE X (.Name x pos) (rdE X.K W (eVar i)) := PE.imp (pe_var hN hv hd hcd) fun _ _ _ => rd_var
theorem k_cst {e : Expr} {d : D} {v : V} (h : PE X e (tC v)) (r : ∀ io H, Rep X.K io H d v) : PE X e (rdE X.K W (eC d)) :=
  PE.imp h fun σ H Q z => by
    obtain ⟨io, ρ, st, s, _, h⟩ := z
    exact h io H v (Ext.refl _ _) s (r io H)
theorem k_int {i : Int} {j pos} : PE X (.Constant (.int i) j pos) (rdE X.K W (eC (.int i))) := k_cst pe_int fun _ _ => rfl
theorem k_bl {b : Bool} {j pos} : PE X (.Constant (.bool b) j pos) (rdE X.K W (eC (.bl b))) := k_cst pe_bl fun _ _ => rfl
theorem k_non {j pos} : PE X (.Constant .none j pos) (rdE X.K W (eC .non)) := k_cst pe_non fun _ _ => rfl
theorem k_str {x : Str} {j pos} : PE X (.Constant (.str x) j pos) (rdE X.K W (eC (.str x))) := k_cst pe_str fun _ _ => rfl
/-- a module's constant -/
theorem k_glob {x : Str} {d : D} {v : V} {u : Value} {pos : Pos} (hg : Gl X x) (hm : X.mg x = some u) (r : RelV v u) (hr : ∀ io H, Rep X.K io H d v) (hd : (x == ("__debug__" : Str)) = false := by decide) : PE X (.Name x pos) (rdE X.K W (eC d)) := k_cst (pe_glob hg hm r hd) hr

/-! ### operators by values -/
def eBin (f : D → D → M D) (a b : EM) : EM := fun ρ => M.bind (a ρ) fun x => M.bind (b ρ) fun y => f x y
def eUn (f : D → M D) (a : EM) : EM := fun ρ => M.bind (a ρ) f
/-- f answers as the rule r does -/
def OpD (K : PySem.W.Frag) (W : XW) (f : D → D → M D) (r : R2) : Prop := ∀ (io : Lo) (H : Hp) (st : Sto) (x y : D) (v u : V) (Q : VK), SR K io H st → Rep K io H x v → Rep K io H y u → wpM (f x y) st (afE K io H Q) (afX K io H W) → r v u H Q
def UnD (K : PySem.W.Frag) (W : XW) (f : D → M D) (r : V → Hp → VK → Prop) : Prop := ∀ (io : Lo) (H : Hp) (st : Sto) (x : D) (v : V) (Q : VK), SR K io H st → Rep K io H x v → wpM (f x) st (afE K io H Q) (afX K io H W) → r v H Q
def FnD (K : PySem.W.Frag) (W : XW) (f : List D → M D) (r : List V → Hp → VK → Prop) : Prop := ∀ (io : Lo) (H : Hp) (st : Sto) (xs : List D) (vs : List V) (Q : VK), SR K io H st → RepL K io H xs vs → wpM (f xs) st (afE K io H Q) (afX K io H W) → r vs H Q
theorem rd_bin {f : D → D → M D} {r : R2} {a b : EM} {σ : St} {H : Hp} {Q : VK} (o : OpD X.K W f r) (h : rdE X.K W (eBin f a b) σ H Q) : tOp r (rdE X.K W a) (rdE X.K W b) σ H Q := by
  obtain ⟨io, ρ, st, s, e, h⟩ := h
  refine rdE.step (f := fun ρ x => M.bind (b ρ) fun y => f x y) s e h fun io1 H1 v x st1 x1 s1 e1 r1 h1 => ?_
  refine rdE.step (f := fun ρ y => f x y) s1 e1 h1 fun io2 H2 u y st2 x2 s2 e2 r2 h2 => ?_
  exact o io2 H2 st2 x y v u Q s2 (r1.mono x2.mon) r2 (wpM_afE (x1.trans x2) h2)
theorem rd_un {f : D → M D} {r : V → Hp → VK → Prop} {a : EM} {σ : St} {H : Hp} {Q : VK} (o : UnD X.K W f r) (h : rdE X.K W (eUn f a) σ H Q) : tUn r (rdE X.K W a) σ H Q := by
  obtain ⟨io, ρ, st, s, e, h⟩ := h
  refine rdE.step (f := fun ρ x => f x) s e h fun io1 H1 v x st1 x1 s1 e1 r1 h1 => ?_
  exact o io1 H1 st1 x v Q s1 r1 (wpM_afE x1 h1)
theorem k_op {op : Operator} {r : R2} {f : D → D → M D} {a b : Expr} {ma mb : EM} {pos : Pos} (ho : OpR X (binaryOp op) r) (o : OpD X.K W f r) (ha : PE X a (rdE X.K W ma)) (hb : PE X b (rdE X.K W mb)) : PE X (.BinOp a op b pos) (rdE X.K W (eBin f ma mb)) :=
  PE.imp (pe_op ho ha hb) fun _ _ _ => rd_bin o
theorem k_un {op : UnaryOp} {r : V → Hp → VK → Prop} {f : D → M D} {a : Expr} {ma : EM} {pos : Pos} (ho : UnR X (unaryOp op) r) (o : UnD X.K W f r) (ha : PE X a (rdE X.K W ma)) : PE X (.UnaryOp op a pos) (rdE X.K W (eUn f ma)) :=
  PE.imp (pe_un ho ha) fun _ _ _ => rd_un o
theorem k_cmp {op : CmpOp} {r : R2} {f : D → D → M D} {a b : Expr} {ma mb : EM} {pos : Pos} (ho : OpR X (compareOp op) r) (o : OpD X.K W f r) (ha : PE X a (rdE X.K W ma)) (hb : PE X b (rdE X.K W mb)) (hm : behindInMarks op b = false := by rfl) : PE X (.Compare a [op] [b] pos) (rdE X.K W (eBin f ma mb)) :=
  PE.imp (pe_cmpR ho ha hb hm) fun _ _ _ => rd_bin o
theorem k_ix {r : R2} {f : D → D → M D} {a b : Expr} {ma mb : EM} {pos : Pos} (ho : IxR X r) (o : OpD X.K W f r) (ha : PE X a (rdE X.K W ma)) (hb : PE X b (rdE X.K W mb)) (hs : PlainIx b := by exact fun _ _ => rfl) : PE X (.Subscript a b pos) (rdE X.K W (eBin f ma mb)) :=
  PE.imp (pe_ix ho ha hb hs) fun _ _ _ => rd_bin o

/-! ### tests -/
def asB : D → M Bool
  | .bl b => M.pure b
  | _ => M.bad
def tVal (a : EM) : TM := fun ρ => M.bind (a ρ) asB
theorem rd_asB {a : EM} {σ : St} {H : Hp} {Q : Bool → Hp → Prop} (h : rdT X.K W (tVal a) σ H Q) : rdE X.K W a σ H fun x H1 => ∃ c, x = .bl c ∧ Q c H1 := by
  obtain ⟨io, ρ, st, s, e, h⟩ := h
  refine rdE.step (f := fun _ => asB) s e h fun io1 H1 v x st1 x1 s1 e1 r1 h1 => ?_
  cases x with
  | bl b => exact ⟨b, r1, h1 io1 H1 x1 s1⟩
  | _ => exact h1.elim
theorem kt_val {e : Expr} {m : EM} (h : PE X e (rdE X.K W m)) (he : ∀ whole, isTrue e X.env whole = (do let v ← whole; standAt e.pos; holding [v] (truthy v)) := by intro _; rfl) : PT X e (rdT X.K W (tVal m)) :=
  PT.imp (pt_val h he) fun _ _ _ => rd_asB
theorem kt_cmp {op : CmpOp} {r : R2} {f : D → D → M D} {a b : Expr} {ma mb : EM} {pos : Pos} (ho : OpR X (compareOp op) r) (o : OpD X.K W f r) (ha : PE X a (rdE X.K W ma)) (hb : PE X b (rdE X.K W mb)) (hm : behindInMarks op b = false := by rfl) : PT X (.Compare a [op] [b] pos) (rdT X.K W (tVal (eBin f ma mb))) :=
  PT.imp (pt_cmpR ho ha hb hm) fun _ _ _ h => rd_bin o (rd_asB h)
def tAndM (a b : TM) : TM := fun ρ => M.bind (a ρ) fun x => if x = true then b ρ else M.pure false
def tOrM (a b : TM) : TM := fun ρ => M.bind (a ρ) fun x => if x = true then M.pure true else b ρ
def tNotM (a : TM) : TM := fun ρ => M.bind (a ρ) fun x => M.pure (!x)
theorem rd_and {a b : TM} {σ : St} {H : Hp} {Q : Bool → Hp → Prop} (h : rdT X.K W (tAndM a b) σ H Q) : tAnd (rdT X.K W a) (rdT X.K W b) σ H Q := by
  obtain ⟨io, ρ, st, s, e, h⟩ := h
  refine rdT.step (f := fun ρ x => if x = true then b ρ else M.pure false) s e h fun io1 H1 c st1 x1 s1 e1 h1 => ?_
  cases c with
  | true => exact ⟨io1, ρ, st1, s1, e1, wpM_mono h1 (fun b' s' z io2 H2 x2 s2 => z io2 H2 (x1.trans x2) s2) fun _ _ z => z⟩
  | false => exact (show Q false H1 from h1 io1 H1 x1 s1)
theorem rd_or {a b : TM} {σ : St} {H : Hp} {Q : Bool → Hp → Prop} (h : rdT X.K W (tOrM a b) σ H Q) : tOr (rdT X.K W a) (rdT X.K W b) σ H Q := by
  obtain ⟨io, ρ, st, s, e, h⟩ := h
  refine rdT.step (f := fun ρ x => if x = true then M.pure true else b ρ) s e h fun io1 H1 c st1 x1 s1 e1 h1 => ?_
  cases c with
  | false => exact ⟨io1, ρ, st1, s1, e1, wpM_mono h1 (fun b' s' z io2 H2 x2 s2 => z io2 H2 (x1.trans x2) s2) fun _ _ z => z⟩
  | true => exact (show Q true H1 from h1 io1 H1 x1 s1)
theorem rd_notT {a : TM} {σ : St} {H : Hp} {Q : Bool → Hp → Prop} (h : rdT X.K W (tNotM a) σ H Q) : tNot (rdT X.K W a) σ H Q := by
  obtain ⟨io, ρ, st, s, e, h⟩ := h
  refine rdT.step (f := fun ρ x => M.pure (!x)) s e h fun io1 H1 c st1 x1 s1 e1 h1 => ?_
  exact h1 io1 H1 x1 s1
section
variable {a b : Expr} {rest : List Expr} {ma mb : TM} {pos : Pos}
theorem kw_and1 (ha : PT X a (rdT X.K W ma)) : PW X (.BoolOp .And [a] pos) (rdT X.K W ma) := pw_and1 ha
theorem kw_or1 (ha : PT X a (rdT X.K W ma)) : PW X (.BoolOp .Or [a] pos) (rdT X.K W ma) := pw_or1 ha
theorem kw_and (ha : PT X a (rdT X.K W ma)) (hb : PW X (.BoolOp .And (b :: rest) pos) (rdT X.K W mb)) : PW X (.BoolOp .And (a :: b :: rest) pos) (rdT X.K W (tAndM ma mb)) := PW.imp (pw_and ha hb) fun _ _ _ => rd_and
theorem kw_or (ha : PT X a (rdT X.K W ma)) (hb : PW X (.BoolOp .Or (b :: rest) pos) (rdT X.K W mb)) : PW X (.BoolOp .Or (a :: b :: rest) pos) (rdT X.K W (tOrM ma mb)) := PW.imp (pw_or ha hb) fun _ _ _ => rd_or
theorem kt_not (ha : PT X a (rdT X.K W ma)) : PT X (.UnaryOp .Not a pos) (rdT X.K W (tNotM ma)) := PT.imp (pt_not ha) fun _ _ _ => rd_notT
end
/-- and, or, not as values (bools) -/
def eAnd (a b : EM) : EM := fun ρ => M.bind (a ρ) fun x => M.bind (asB x) fun c => if c = true then b ρ else M.pure (.bl false)
def eOr (a b : EM) : EM := fun ρ => M.bind (a ρ) fun x => M.bind (asB x) fun c => if c = true then M.pure (.bl true) else b ρ
def eNot (a : EM) : EM := fun ρ => M.bind (a ρ) fun x => M.bind (asB x) fun c => M.pure (.bl (!c))
theorem wpM_asB {x : D} {β : Type} {f : Bool → M β} {st : Sto} {ok : β → Sto → Prop} {ex : Xc → Sto → Prop} (h : wpM (M.bind (asB x) f) st ok ex) : ∃ c, x = .bl c ∧ wpM (f c) st ok ex := by
  cases x with
  | bl b => exact ⟨b, rfl, h⟩
  | _ => exact h.elim
theorem rd_andV {a b : EM} {σ : St} {H : Hp} {Q : VK} (h : rdE X.K W (eAnd a b) σ H Q) : tAndV (rdE X.K W a) (rdE X.K W b) σ H Q := by
  obtain ⟨io, ρ, st, s, e, h⟩ := h
  refine rdE.step (f := fun ρ x => M.bind (asB x) fun c => if c = true then b ρ else M.pure (D.bl false)) s e h fun io1 H1 v x st1 x1 s1 e1 r1 h1 => ?_
  obtain ⟨c, rfl, h2⟩ := wpM_asB h1
  refine ⟨c, r1, ?_⟩
  cases c with
  | true => exact ⟨io1, ρ, st1, s1, e1, wpM_afE x1 h2⟩
  | false => exact h2 io1 H1 _ x1 s1 rfl
theorem rd_orV {a b : EM} {σ : St} {H : Hp} {Q : VK} (h : rdE X.K W (eOr a b) σ H Q) : tOrV (rdE X.K W a) (rdE X.K W b) σ H Q := by
  obtain ⟨io, ρ, st, s, e, h⟩ := h
  refine rdE.step (f := fun ρ x => M.bind (asB x) fun c => if c = true then M.pure (D.bl true) else b ρ) s e h fun io1 H1 v x st1 x1 s1 e1 r1 h1 => ?_
  obtain ⟨c, rfl, h2⟩ := wpM_asB h1
  refine ⟨c, r1, ?_⟩
  cases c with
  | false => exact ⟨io1, ρ, st1, s1, e1, wpM_afE x1 h2⟩
  | true => exact h2 io1 H1 _ x1 s1 rfl
theorem rd_notV {a : EM} {σ : St} {H : Hp} {Q : VK} (h : rdE X.K W (eNot a) σ H Q) : tNotV (rdE X.K W a) σ H Q := by
  obtain ⟨io, ρ, st, s, e, h⟩ := h
  refine rdE.step (f := fun ρ x => M.bind (asB x) fun c => M.pure (D.bl (!c))) s e h fun io1 H1 v x st1 x1 s1 e1 r1 h1 => ?_
  obtain ⟨c, rfl, h2⟩ := wpM_asB h1
  exact ⟨c, r1, h2 io1 H1 _ x1 s1 rfl⟩
section
variable {a b : Expr} {rest : List Expr} {ma mb : EM} {pos : Pos}
theorem k_and1 (ha : PE X a (rdE X.K W ma)) {op} : PE X (.BoolOp op [a] pos) (rdE X.K W ma) := pe_one ha
theorem k_and (ha : PE X a (rdE X.K W ma)) (hb : PE X (.BoolOp .And (b :: rest) pos) (rdE X.K W mb)) : PE X (.BoolOp .And (a :: b :: rest) pos) (rdE X.K W (eAnd ma mb)) := PE.imp (pe_and ha hb) fun _ _ _ => rd_andV
theorem k_or (ha : PE X a (rdE X.K W ma)) (hb : PE X (.BoolOp .Or (b :: rest) pos) (rdE X.K W mb)) : PE X (.BoolOp .Or (a :: b :: rest) pos) (rdE X.K W (eOr ma mb)) := PE.imp (pe_or ha hb) fun _ _ _ => rd_orV
theorem k_not (ha : PE X a (rdE X.K W ma)) : PE X (.UnaryOp .Not a pos) (rdE X.K W (eNot ma)) := PE.imp (pe_not ha) fun _ _ _ => rd_notV
end
/-- a if t else b -/
def eIf (t : TM) (a b : EM) : EM := fun ρ => M.bind (t ρ) fun c => if c = true then a ρ else b ρ
theorem rd_if {t : TM} {a b : EM} {σ : St} {H : Hp} {Q : VK} (h : rdE X.K W (eIf t a b) σ H Q) : tIf (rdT X.K W t) (rdE X.K W a) (rdE X.K W b) σ H Q := by
  obtain ⟨io, ρ, st, s, e, h⟩ := h
  refine rdT.step (f := fun ρ x => if x = true then a ρ else b ρ) s e h fun io1 H1 c st1 x1 s1 e1 h1 => ?_
  cases c with
  | true => exact (show rdE X.K W a σ H1 Q from ⟨io1, ρ, st1, s1, e1, wpM_afE x1 h1⟩)
  | false => exact (show rdE X.K W b σ H1 Q from ⟨io1, ρ, st1, s1, e1, wpM_afE x1 h1⟩)
theorem k_ifE {c a b : Expr} {t : TM} {ma mb : EM} {pos : Pos} (hc : PT X c (rdT X.K W t)) (ha : PE X a (rdE X.K W ma)) (hb : PE X b (rdE X.K W mb)) : PE X (.IfExp c a b pos) (rdE X.K W (eIf t ma mb)) := PE.imp (pe_ifExp hc ha hb) fun _ _ _ => rd_if

/-! ### arguments, displays -/
def aNil : AM := fun _ => M.pure []
def aCons (a : EM) (r : AM) : AM := fun ρ => M.bind (a ρ) fun x => M.bind (r ρ) fun xs => M.pure (x :: xs)
theorem ka_nil : PA X [] (rdA X.K W aNil) := PA.imp pa_nil fun σ H Q h => by
  obtain ⟨io, ρ, st, s, _, h⟩ := h
  exact h io H [] (Ext.refl _ _) s rfl
theorem ka_cons {e : Expr} {es : List Expr} {m : EM} {r : AM} (ha : PE X e (rdE X.K W m)) (hr : PA X es (rdA X.K W r)) (hs : starEach (e :: es) X.env = (false, eval e X.env) :: starEach es X.env := by rfl) : PA X (e :: es) (rdA X.K W (aCons m r)) :=
  PA.imp (pa_cons ha hr hs) fun σ H Q h => by
    obtain ⟨io, ρ, st, s, e, h⟩ := h
    refine rdE.step (f := fun ρ x => M.bind (r ρ) fun xs => M.pure (x :: xs)) s e h fun io1 H1 v x st1 x1 s1 e1 r1 h1 => ?_
    refine rdA.step (f := fun ρ xs => M.pure (x :: xs)) s1 e1 h1 fun io2 H2 vs xs st2 x2 s2 e2 r2 h2 => ?_
    exact h2 io2 H2 (v :: vs) (x1.trans x2) s2 ⟨v, vs, rfl, r1.mono x2.mon, r2⟩
def eTup (r : AM) : EM := fun ρ => M.bind (r ρ) fun xs => if xs.length ≤ sizeLine then M.pure (.tup xs) else M.bad
def eLst (r : AM) : EM := fun ρ => M.bind (r ρ) fun xs => if xs.length ≤ sizeLine then M.pure (.lst xs) else M.bad
/-- a list of the store -/
def mNew (xs : List D) : M D := fun st => .ok (.loc st.length) (st ++ [.lst xs])
def eNew (r : AM) : EM := fun ρ => M.bind (r ρ) fun xs => if xs.length ≤ sizeLine then mNew xs else M.bad
theorem wpM_if {α : Type} {c : Prop} [Decidable c] {m : M α} {st : Sto} {ok : α → Sto → Prop} {ex : Xc → Sto → Prop} (h : wpM (if c then m else M.bad) st ok ex) : c ∧ wpM m st ok ex := by
  by_cases z : c
  · rw [if_pos z] at h; exact ⟨z, h⟩
  · rw [if_neg z] at h; exact h.elim
theorem fresh_tup {K : PySem.W.Frag} {io : Lo} {H : Hp} {st : Sto} {ds : List D} {vs : List V} {p : Addr} (s : SR K io H st) (r : RepL K io H ds vs) (hp : H p = none) : Rep K io (upd H p (.tup vs)) (.tup ds) (.ref p) :=
  ⟨p, vs, rfl, .inl ⟨.inl upd_same, s.notLoc hp⟩, RepL.mono (mon_fresh hp) _ _ r⟩
theorem fresh_lst {K : PySem.W.Frag} {io : Lo} {H : Hp} {st : Sto} {ds : List D} {vs : List V} {p : Addr} (s : SR K io H st) (r : RepL K io H ds vs) (hp : H p = none) : Rep K io (upd H p (.lst vs)) (.lst ds) (.ref p) :=
  ⟨p, vs, rfl, .inl ⟨.inl upd_same, s.notLoc hp⟩, RepL.mono (mon_fresh hp) _ _ r⟩
theorem k_tup {es : List Expr} {r : AM} {x1 pos} (h : PA X es (rdA X.K W r)) : PE X (.Tuple es x1 pos) (rdE X.K W (eTup r)) := PE.imp (pe_tup h) fun σ H Q h => by
  obtain ⟨io, ρ, st, s, e, h⟩ := h
  refine rdA.step (f := fun ρ xs => if xs.length ≤ sizeLine then M.pure (D.tup xs) else M.bad) s e h fun io1 H1 vs xs st1 x1 s1 e1 r1 h1 => ?_
  obtain ⟨hl, h2⟩ := wpM_if h1
  exact ⟨by rw [← r1.length]; exact hl, fun p hp => h2 io1 _ _ (x1.trans (ext_fresh s1 hp)) (s1.fresh hp) (fresh_tup s1 r1 hp)⟩
theorem k_lst {es : List Expr} {r : AM} {pos} (h : PA X es (rdA X.K W r)) : PE X (.List es pos) (rdE X.K W (eLst r)) := PE.imp (pe_lst h) fun σ H Q h => by
  obtain ⟨io, ρ, st, s, e, h⟩ := h
  refine rdA.step (f := fun ρ xs => if xs.length ≤ sizeLine then M.pure (D.lst xs) else M.bad) s e h fun io1 H1 vs xs st1 x1 s1 e1 r1 h1 => ?_
  obtain ⟨hl, h2⟩ := wpM_if h1
  exact ⟨by rw [← r1.length]; exact hl, fun p hp => h2 io1 _ _ (x1.trans (ext_fresh s1 hp)) (s1.fresh hp) (fresh_lst s1 r1 hp)⟩
theorem k_new {es : List Expr} {r : AM} {pos} (h : PA X es (rdA X.K W r)) : PE X (.List es pos) (rdE X.K W (eNew r)) := PE.imp (pe_lst h) fun σ H Q h => by
  obtain ⟨io, ρ, st, s, e, h⟩ := h
  refine rdA.step (f := fun ρ xs => if xs.length ≤ sizeLine then mNew xs else M.bad) s e h fun io1 H1 vs xs st1 x1 s1 e1 r1 h1 => ?_
  obtain ⟨hl, h2⟩ := wpM_if h1
  refine ⟨by rw [← r1.length]; exact hl, fun p hp => ?_⟩
  exact h2 _ _ (.ref p) (x1.trans (ext_add s1 hp)) (s1.add hp r1) ⟨p, rfl, addL_new⟩

/-! ### builtins by values -/
def eFn (f : List D → M D) (r : AM) : EM := fun ρ => M.bind (r ρ) f
theorem rd_fn {f : List D → M D} {r : List V → Hp → VK → Prop} {m : AM} {σ : St} {H : Hp} {Q : VK} (o : FnD X.K W f r) (h : rdE X.K W (eFn f m) σ H Q) : tCB r (rdA X.K W m) σ H Q := by
  obtain ⟨io, ρ, st, s, e, h⟩ := h
  refine rdA.step (f := fun ρ xs => f xs) s e h fun io1 H1 vs xs st1 x1 s1 e1 r1 h1 => ?_
  exact o io1 H1 st1 xs vs Q s1 r1 (wpM_afE x1 h1)
section
variable {x : Str} {p pos : Pos} {e : Expr} {es : List Expr} {t : AM} {id T : String} {r : List V → Hp → VK → Prop} {f : List D → M D}
theorem k_callB (hc : CallR X (.builtin id) r) (o : FnD X.K W f r) (hg : Gl X x) (hm : X.mg x = none) (hv : bootBuiltins x = some (.builtin id)) (ha : PA X (e :: es) (rdA X.K W t)) (hn : x ≠ "__name__" := by decide) (hdb : (x == ("__debug__" : Str)) = false := by decide)
    (he : starEach (e :: es) X.env = (false, eval e X.env) :: starEach es X.env := by rfl) (hpl : (backTo pos (starEach es X.env)).any (·.1) = false := by rfl) : PE X (.Call (.Name x p) (e :: es) [] pos) (rdE X.K W (eFn f t)) :=
  PE.imp (pe_callB hc hg hm hv ha hn hdb he hpl) fun _ _ _ => rd_fn o
theorem k_callT (hc : CallR X (.type T) r) (o : FnD X.K W f r) (hg : Gl X x) (hm : X.mg x = none) (hv : bootBuiltins x = some (.type T)) (ha : PA X (e :: es) (rdA X.K W t)) (hn : x ≠ "__name__" := by decide) (hdb : (x == ("__debug__" : Str)) = false := by decide)
    (he : starEach (e :: es) X.env = (false, eval e X.env) :: starEach es X.env := by rfl) (hpl : (backTo pos (starEach es X.env)).any (·.1) = false := by rfl) : PE X (.Call (.Name x p) (e :: es) [] pos) (rdE X.K W (eFn f t)) :=
  PE.imp (pe_callTy hc hg hm hv ha hn hdb he hpl) fun _ _ _ => rd_fn o
end
end
/-! ### the store's lists -/
def mGet (k : Nat) : M (List D) := fun st => match st[k]? with
  | some (.lst ds) => .ok ds st
  | none => .bad
theorem wpM_get {β : Type} {k : Nat} {f : List D → M β} {st : Sto} {ok : β → Sto → Prop} {ex : Xc → Sto → Prop} (h : wpM (M.bind (mGet k) f) st ok ex) : ∃ ds, st[k]? = some (.lst ds) ∧ wpM (f ds) st ok ex := by
  unfold wpM M.bind mGet at h
  cases z : st[k]? with
  | none => rw [z] at h; exact h.elim
  | some o =>
    obtain ⟨ds⟩ := o
    rw [z] at h
    exact ⟨ds, rfl, h⟩
end KT

/-! Kt3: statements, targets, loops, comprehensions. -/
namespace KT
open PySem PySem.Spec L2
open PyProof.Rows hiding St

inductive Out where
  | nx (ρ : En) | rt (d : D) | bk (ρ : En) | ct (ρ : En)
abbrev SM := En → M Out
def afN (K : PySem.W.Frag) (io : Lo) (H : Hp) (P : St → Hp → Prop) (ρ : En) (st' : Sto) : Prop := ∀ io' H' σ', Ext io H io' H' → SR K io' H' st' → EnvR K io' H' σ' ρ → P σ' H'
def afS (K : PySem.W.Frag) (io : Lo) (H : Hp) (E : Ends) : Out → Sto → Prop
  | .nx ρ, st => afN K io H E.nx ρ st
  | .rt d, st => afE K io H E.rt d st
  | .bk ρ, st => afN K io H E.bk ρ st
  | .ct ρ, st => afN K io H E.ct ρ st
def rdS (K : PySem.W.Frag) (W : XW) (m : SM) : TS := fun E σ H => ∃ io ρ st, SR K io H st ∧ EnvR K io H σ ρ ∧ wpM (m ρ) st (afS K io H E) (afX K io H W)
theorem afN.trans {K : PySem.W.Frag} {io io' : Lo} {H H' : Hp} {P : St → Hp → Prop} {ρ : En} {st : Sto} (e : Ext io H io' H') (h : afN K io H P ρ st) : afN K io' H' P ρ st := fun io2 H2 σ e2 s2 r => h io2 H2 σ (e.trans e2) s2 r
theorem afS.trans {K : PySem.W.Frag} {io io' : Lo} {H H' : Hp} {E : Ends} {o : Out} {st : Sto} (e : Ext io H io' H') (h : afS K io H E o st) : afS K io' H' E o st := by
  cases o with
  | nx ρ => exact afN.trans e h
  | rt d => exact afE.trans e h
  | bk ρ => exact afN.trans e h
  | ct ρ => exact afN.trans e h
theorem wpM_afS {K : PySem.W.Frag} {io io' : Lo} {H H' : Hp} {W : XW} {m : M Out} {st : Sto} {E : Ends} (e : Ext io H io' H') (h : wpM m st (afS K io H E) (afX K io' H' W)) : wpM m st (afS K io' H' E) (afX K io' H' W) :=
  wpM_mono h (fun _ _ z => afS.trans e z) fun _ _ z => z
theorem PS.imp {X : Cx} {e : Stmt} {t t' : TS} (h : PS X e t) (q : ∀ E σ H, t' E σ H → t E σ H) : PS X e t' := ⟨fun pins s σ H D I z => h.run pins s σ H D I (q D σ H z)⟩
theorem PSs.imp {X : Cx} {e : List Stmt} {t t' : TS} (h : PSs X e t) (q : ∀ E σ H, t' E σ H → t E σ H) : PSs X e t' := ⟨fun pins s σ H D I z => h.run pins s σ H D I (q D σ H z)⟩
theorem PG.imp {X : Cx} {e : Expr} {t t' : TG} (h : PG X e t) (q : ∀ v σ H Q, t' v σ H Q → t v σ H Q) : PG X e t' := ⟨fun pins s σ H v u Q I r z => h.run pins s σ H v u Q I r (q v σ H Q z)⟩
theorem PGs.imp {X : Cx} {e : List Expr} {t t' : TGs} (h : PGs X e t) (q : ∀ v σ H Q, t' v σ H Q → t v σ H Q) : PGs X e t' := ⟨fun pins s σ H v u Q I r z => h.run pins s σ H v u Q I r (q v σ H Q z)⟩
theorem PI.imp {X : Cx} {tg e : Expr} {t t' : TI} (h : PI X tg e t) (q : ∀ σ H Q, t' σ H Q → t σ H Q) : PI X tg e t' := ⟨fun pins s σ H Q I z => h.run pins s σ H Q I (q σ H Q z)⟩

/-! ### blocks -/
def sNil : SM := fun ρ => M.pure (.nx ρ)
def thenS (b : SM) : Out → M Out
  | .nx ρ => b ρ
  | o => M.pure o
def sSeq (a b : SM) : SM := fun ρ => M.bind (a ρ) (thenS b)
def sExpr (e : EM) : SM := fun ρ => M.bind (e ρ) fun _ => M.pure (.nx ρ)
def sRet (e : EM) : SM := fun ρ => M.bind (e ρ) fun d => M.pure (.rt d)
def sRetN : SM := fun _ => M.pure (.rt .non)
def sIf (t : TM) (a b : SM) : SM := fun ρ => M.bind (t ρ) fun c => if c = true then a ρ else b ρ
section
variable {X : Cx} {W : XW} {st : Stmt} {rest : List Stmt} {ms mr : SM} {pos : Pos}
theorem ks_nil : PSs X [] (rdS X.K W sNil) := PSs.imp pss_nil fun E σ H h => by
  obtain ⟨io, ρ, st, s, e, h⟩ := h
  exact h io H σ (Ext.refl _ _) s e
theorem ks_pass : PS X (.Pass pos) (rdS X.K W sNil) := PS.imp ps_pass fun E σ H h => by
  obtain ⟨io, ρ, st, s, e, h⟩ := h
  exact h io H σ (Ext.refl _ _) s e
theorem rd_seq {a b : SM} {E : Ends} {σ : St} {H : Hp} (h : rdS X.K W (sSeq a b) E σ H) : tSeq (rdS X.K W a) (rdS X.K W b) E σ H := by
  obtain ⟨io, ρ, st, s, e, h⟩ := h
  refine ⟨io, ρ, st, s, e, wpM_mono (wpM_bind h) (fun o st1 z => ?_) fun _ _ z => z⟩
  cases o with
  | nx ρ1 => exact fun io1 H1 σ1 x1 s1 e1 => ⟨io1, ρ1, st1, s1, e1, wpM_mono z (fun _ _ y => afS.trans x1 y) fun _ _ y => y.trans x1⟩
  | rt d => exact z
  | bk ρ1 => exact z
  | ct ρ1 => exact z
theorem ks_cons (h1 : PS X st (rdS X.K W ms)) (h2 : PSs X rest (rdS X.K W mr)) : PSs X (st :: rest) (rdS X.K W (sSeq ms mr)) := PSs.imp (pss_cons h1 h2) fun _ _ _ => rd_seq
theorem ks_one (h1 : PS X st (rdS X.K W ms)) : PSs X [st] (rdS X.K W ms) := pss_one h1
theorem ks_expr {e : Expr} {m : EM} (he : PE X e (rdE X.K W m)) (hs : swapsWith e none pos.line X.env = Pure.pure false := by rfl) : PS X (.Expr e pos) (rdS X.K W (sExpr m)) := PS.imp (ps_expr he hs) fun E σ H h => by
  obtain ⟨io, ρ, st, s, e, h⟩ := h
  exact rdE.step (f := fun ρ _ => M.pure (Out.nx ρ)) s e h fun io1 H1 v d st1 x1 s1 e1 r1 h1 => h1 io1 H1 σ x1 s1 e1
theorem ks_ret {e : Expr} {m : EM} (he : PE X e (rdE X.K W m)) : PS X (.Return (some e) pos) (rdS X.K W (sRet m)) := PS.imp (ps_ret he) fun E σ H h => by
  obtain ⟨io, ρ, st, s, e, h⟩ := h
  exact rdE.step (f := fun ρ d => M.pure (Out.rt d)) s e h fun io1 H1 v d st1 x1 s1 e1 r1 h1 => h1 io1 H1 v x1 s1 r1
theorem ks_retN : PS X (.Return none pos) (rdS X.K W sRetN) := PS.imp ps_retN fun E σ H h => by
  obtain ⟨io, ρ, st, s, e, h⟩ := h
  exact h io H .non (Ext.refl _ _) s rfl
theorem ks_if {c : Expr} {a b : List Stmt} {t : TM} {ma mb : SM} (hc : PT X c (rdT X.K W t)) (ha : PSs X a (rdS X.K W ma)) (hb : PSs X b (rdS X.K W mb)) : PS X (.If c a b pos) (rdS X.K W (sIf t ma mb)) := PS.imp (ps_if hc ha hb) fun E σ H h => by
  obtain ⟨io, ρ, st, s, e, h⟩ := h
  refine rdT.step (f := fun ρ x => if x = true then ma ρ else mb ρ) s e h fun io1 H1 c st1 x1 s1 e1 h1 => ?_
  cases c with
  | true => exact (show rdS X.K W ma E σ H1 from ⟨io1, ρ, st1, s1, e1, wpM_afS x1 h1⟩)
  | false => exact (show rdS X.K W mb E σ H1 from ⟨io1, ρ, st1, s1, e1, wpM_afS x1 h1⟩)
end

/-! ### targets -/
abbrev GM := D → En → M En
abbrev GMs := List D → En → M En
def rdG (K : PySem.W.Frag) (W : XW) (g : GM) : TG := fun v σ H Q => ∃ io ρ st d, SR K io H st ∧ EnvR K io H σ ρ ∧ Rep K io H d v ∧ wpM (g d ρ) st (afN K io H Q) (afX K io H W)
def rdGs (K : PySem.W.Frag) (W : XW) (g : GMs) : TGs := fun vs σ H Q => ∃ io ρ st ds, SR K io H st ∧ EnvR K io H σ ρ ∧ RepL K io H ds vs ∧ wpM (g ds ρ) st (afN K io H Q) (afX K io H W)
def gSlot (i : Nat) : GM := fun d ρ => M.pure (ρ.set i (some d))
def gsNil : GMs := fun ds ρ => match ds with
  | [] => M.pure ρ
  | _ => M.bad
def gsCons (g : GM) (r : GMs) : GMs := fun ds ρ => match ds with
  | [] => M.bad
  | d :: ds => M.bind (g d ρ) fun ρ1 => r ds ρ1
def gTupD (n : Nat) (g : GMs) : GM := fun d ρ => match d with
  | .tup ds => if ds.length = n then g ds ρ else M.bad
  | _ => M.bad
/-- a, b, .. = a list -/
def gUnlD (n : Nat) (g : GMs) : GM := fun d ρ => match d with
  | .loc k => M.bind (mGet k) fun ds => if ds.length = n then g ds ρ else M.bad
  | _ => M.bad
section
variable {X : Cx} {W : XW} {pos : Pos}
theorem kg_name (i : Nat) {x : Str} (hN : X.N.Nodup) (hi : X.N[i]? = some x := by rfl) (hx : Loc X.env.scope x := by first | exact Or.inl rfl | exact Or.inr rfl) (hf : X.fn x = true ∨ X.env.scope.names.lookup x = some .local := by first | exact .inl rfl | exact .inr rfl) : PG X (.Name x pos) (rdG X.K W (gSlot i)) :=
  PG.imp (pg_name hN hi hx hf) fun v σ H Q h => by
    obtain ⟨io, ρ, st, d, s, e, r, h⟩ := h
    exact h io H _ (Ext.refl _ _) s (e.set r)
theorem kgs_nil : PGs X [] (rdGs X.K W gsNil) := PGs.imp pgs_nil fun v σ H Q h => by
  obtain ⟨io, ρ, st, d, s, e, r, h⟩ := h
  cases d with
  | nil => exact ⟨r, h io H _ (Ext.refl _ _) s e⟩
  | cons _ _ => exact h.elim
theorem kgs_cons {e : Expr} {es : List Expr} {g : GM} {gr : GMs} (h1 : PG X e (rdG X.K W g)) (h2 : PGs X es (rdGs X.K W gr))
    (hs : (assignEach (e :: es) X.env).map (·.2) = assign e X.env :: (assignEach es X.env).map (·.2) := by rfl) : PGs X (e :: es) (rdGs X.K W (gsCons g gr)) := PGs.imp (pgs_cons h1 h2 hs) fun v σ H Q h => by
  obtain ⟨io, ρ, st, ds, s, e, r, h⟩ := h
  cases ds with
  | nil => exact h.elim
  | cons d ds =>
    obtain ⟨v1, vr, h3, h4, h5⟩ := r
    refine ⟨v1, vr, h3, io, ρ, st, d, s, e, h4, wpM_mono (wpM_bind h) (fun ρ1 st1 z => ?_) fun _ _ z => z⟩
    exact fun io1 H1 σ1 x1 s1 e1 => ⟨io1, ρ1, st1, ds, s1, e1, h5.mono x1.mon, wpM_mono z (fun _ _ y => y.trans x1) fun _ _ y => y.trans x1⟩
theorem kg_tup {es : List Expr} {k : Nat} {g : GMs} {n : Nat} (hc : X.calm = true) (h : PGs X es (rdGs X.K W g))
    (hn : (assignEach es X.env).length = n := by rfl) (hst : (assignEach es X.env).findIdx? (·.1) = none := by rfl) : PG X (.Tuple es k pos) (rdG X.K W (gTupD n g)) := PG.imp (pg_tup hc h hn hst) fun v σ H Q h => by
  obtain ⟨io, ρ, st, d, s, e, r, h⟩ := h
  cases d with
  | tup ds =>
    obtain ⟨a, xs, h1, h2, h3⟩ := r
    obtain ⟨hl, h⟩ := wpM_if h
    exact ⟨a, xs, h1, h2.seq, by rw [← h3.length]; exact hl, io, ρ, st, ds, s, e, h3, h⟩
  | _ => exact h.elim
theorem kg_unl {es : List Expr} {k : Nat} {g : GMs} {n : Nat} (hc : X.calm = true) (h : PGs X es (rdGs X.K W g))
    (hn : (assignEach es X.env).length = n := by rfl) (hst : (assignEach es X.env).findIdx? (·.1) = none := by rfl) : PG X (.Tuple es k pos) (rdG X.K W (gUnlD n g)) := PG.imp (pg_unl hc h hn hst) fun v σ H Q h => by
  obtain ⟨io, ρ, st, d, s, e, r, h⟩ := h
  cases d with
  | loc k =>
    obtain ⟨a, h1, h2⟩ := r
    obtain ⟨ds, z, h⟩ := wpM_get h
    obtain ⟨hl, h⟩ := wpM_if h
    obtain ⟨b, vs, h3, h4, h5⟩ := s.here k ds z
    rw [h2] at h3; cases h3
    exact ⟨a, vs, h1, SqL.of h4, by rw [← h5.length]; exact hl, io, ρ, st, ds, s, e, h5, h⟩
  | _ => exact h.elim
/-- target = value -/
def sAsg (e : EM) (g : GM) : SM := fun ρ => M.bind (e ρ) fun d => M.bind (g d ρ) fun ρ1 => M.pure (.nx ρ1)
theorem rd_asg {m : EM} {g : GM} {E : Ends} {σ : St} {H : Hp} (h : rdS X.K W (sAsg m g) E σ H) : tAsg (rdE X.K W m) (rdG X.K W g) E σ H := by
  obtain ⟨io, ρ, st, s, e, h⟩ := h
  refine rdE.step (f := fun ρ d => M.bind (g d ρ) fun ρ1 => M.pure (Out.nx ρ1)) s e h fun io1 H1 v d st1 x1 s1 e1 r1 h1 => ?_
  refine ⟨io1, ρ, st1, d, s1, e1, r1, wpM_mono (wpM_bind h1) (fun ρ1 st2 z => ?_) fun _ _ z => z⟩
  exact fun io2 H2 σ2 x2 s2 e2 => z io2 H2 σ2 (x1.trans x2) s2 e2
theorem ks_asg {tg e : Expr} {m : EM} {g : GM} (he : PE X e (rdE X.K W m)) (hg : PG X tg (rdG X.K W g)) (hs : swapsWithSole [tg] e pos.line X.env = Pure.pure false := by rfl) (hw : swappedStores [tg] e X.env = Pure.pure none := by rfl)
    (h1 : (assignEach [tg] X.env).map (·.2) = [assign tg X.env] := by rfl) : PS X (.Assign [tg] e pos) (rdS X.K W (sAsg m g)) := PS.imp (ps_asg he hg hs hw h1) fun _ _ _ => rd_asg
/-- name = value -/
def sSet (i : Nat) (e : EM) : SM := fun ρ => M.bind (e ρ) fun d => M.pure (.nx (ρ.set i (some d)))
theorem rd_set {i : Nat} {m : EM} {E : Ends} {σ : St} {H : Hp} (h : rdS X.K W (sSet i m) E σ H) : tAsg (rdE X.K W m) (gName i) E σ H := by
  obtain ⟨io, ρ, st, s, e, h⟩ := h
  exact rdE.step (f := fun ρ d => M.pure (Out.nx (ρ.set i (some d)))) s e h fun io1 H1 v d st1 x1 s1 e1 r1 h1 => h1 io1 H1 _ x1 s1 (e1.set r1)
theorem ks_set (i : Nat) {x : Str} {e : Expr} {m : EM} {pos' : Pos} (hN : X.N.Nodup) (he : PE X e (rdE X.K W m)) (hi : X.N[i]? = some x := by rfl) (hx : Loc X.env.scope x := by first | exact Or.inl rfl | exact Or.inr rfl) (hs : swapsWith e (some (.Name x pos')) pos.line X.env = Pure.pure false := by rfl) (hf : X.fn x = true ∨ X.env.scope.names.lookup x = some .local := by first | exact .inl rfl | exact .inr rfl) :
    PS X (.Assign [.Name x pos'] e pos) (rdS X.K W (sSet i m)) := PS.imp (ps_set hN hi hx he hs hf) fun _ _ _ => rd_set
/-- a, b = x, y; a, b, c = x, y, z with plain local names: no tuple is made -/
def sPar2 (i j : Nat) (r : AM) : SM := fun ρ => M.bind (r ρ) fun ds => match ds with
  | [a, b] => M.pure (.nx ((ρ.set i (some a)).set j (some b)))
  | _ => M.bad
def sPar3 (i j l : Nat) (r : AM) : SM := fun ρ => M.bind (r ρ) fun ds => match ds with
  | [a, b, c] => M.pure (.nx (((ρ.set i (some a)).set j (some b)).set l (some c)))
  | _ => M.bad
theorem ks_par2 (i j : Nat) {x y : Str} {a b : Expr} {r : AM} {px py pt : Pos} {kt k2 pt2} (hc : X.calm = true) (hN : X.N.Nodup) (ha : PA X [a, b] (rdA X.K W r)) (hi : X.N[i]? = some x := by rfl) (hj : X.N[j]? = some y := by rfl) (hij : i ≠ j := by decide)
    (hx : X.env.scope.names.lookup x = some .local := by rfl) (hy : X.env.scope.names.lookup y = some .local := by rfl)
    (hw : swappedStores [.Tuple [.Name x px, .Name y py] kt pt] (.Tuple [a, b] k2 pt2) X.env = Pure.pure (some [x, y]) := by rfl)
    (hs : swapsWithSole [.Tuple [.Name x px, .Name y py] kt pt] (.Tuple [a, b] k2 pt2) pos.line X.env = Pure.pure false := by rfl) :
    PS X (.Assign [.Tuple [.Name x px, .Name y py] kt pt] (.Tuple [a, b] k2 pt2) pos) (rdS X.K W (sPar2 i j r)) := PS.imp (ps_par hc hN hi hj hij hx hy ha hw hs) fun E σ H h => by
  obtain ⟨io, ρ, st, s, e, h⟩ := h
  refine rdA.step (f := fun ρ ds => match ds with
    | [a, b] => M.pure (Out.nx ((ρ.set i (some a)).set j (some b)))
    | _ => M.bad) s e h fun io1 H1 vs ds st1 x1 s1 e1 r1 h1 => ?_
  match ds, r1, h1 with
  | [d1, d2], ⟨v1, _, z1, q1, v2, _, z2, q2, z3⟩, h1 =>
    have z3 : _ = _ := z3
    subst z3; subst z2; subst z1
    exact ⟨v1, v2, rfl, h1 io1 H1 _ x1 s1 ((e1.set q1).set q2)⟩
  | [], _, h1 => exact h1.elim
  | [_], _, h1 => exact h1.elim
  | _ :: _ :: _ :: _, _, h1 => exact h1.elim
theorem ks_par3 (i j l : Nat) {x y z : Str} {a b c : Expr} {r : AM} {px py pz pt : Pos} {kt k2 pt2} (hc : X.calm = true) (hN : X.N.Nodup) (ha : PA X [a, b, c] (rdA X.K W r)) (hi : X.N[i]? = some x := by rfl) (hj : X.N[j]? = some y := by rfl) (hl : X.N[l]? = some z := by rfl) (hij : i ≠ j := by decide) (hil : i ≠ l := by decide) (hjl : j ≠ l := by decide)
    (hx : X.env.scope.names.lookup x = some .local := by rfl) (hy : X.env.scope.names.lookup y = some .local := by rfl) (hz : X.env.scope.names.lookup z = some .local := by rfl)
    (hw : swappedStores [.Tuple [.Name x px, .Name y py, .Name z pz] kt pt] (.Tuple [a, b, c] k2 pt2) X.env = Pure.pure (some [x, y, z]) := by rfl)
    (hs : swapsWithSole [.Tuple [.Name x px, .Name y py, .Name z pz] kt pt] (.Tuple [a, b, c] k2 pt2) pos.line X.env = Pure.pure false := by rfl) :
    PS X (.Assign [.Tuple [.Name x px, .Name y py, .Name z pz] kt pt] (.Tuple [a, b, c] k2 pt2) pos) (rdS X.K W (sPar3 i j l r)) := PS.imp (ps_par3 hc hN hi hj hl hij hil hjl hx hy hz ha hw hs) fun E σ H h => by
  obtain ⟨io, ρ, st, s, e, h⟩ := h
  refine rdA.step (f := fun ρ ds => match ds with
    | [a, b, c] => M.pure (Out.nx (((ρ.set i (some a)).set j (some b)).set l (some c)))
    | _ => M.bad) s e h fun io1 H1 vs ds st1 x1 s1 e1 r1 h1 => ?_
  match ds, r1, h1 with
  | [d1, d2, d3], ⟨v1, _, z1, q1, v2, _, z2, q2, v3, _, z3, q3, z4⟩, h1 =>
    have z4 : _ = _ := z4
    subst z4; subst z3; subst z2; subst z1
    exact ⟨v1, v2, v3, rfl, h1 io1 H1 _ x1 s1 (((e1.set q1).set q2).set q3)⟩
  | [], _, h1 => exact h1.elim
  | [_], _, h1 => exact h1.elim
  | [_, _], _, h1 => exact h1.elim
  | _ :: _ :: _ :: _ :: _, _, h1 => exact h1.elim
/-- name op= value -/
def sAug (i : Nat) (f : D → D → M D) (e : EM) : SM := fun ρ => M.bind (eVar i ρ) fun x => M.bind (e ρ) fun y => M.bind (f x y) fun z => M.pure (.nx (ρ.set i (some z)))
theorem ks_aug (i : Nat) {x : Str} {e : Expr} {m : EM} {op : Operator} {r : R2} {f : D → D → M D} {pos' : Pos} (ho : PIp X op r) (o : OpD X.K W f r) (hN : X.N.Nodup) (he : PE X e (rdE X.K W m)) (hi : X.N[i]? = some x := by rfl) (hx : Loc X.env.scope x := by first | exact Or.inl rfl | exact Or.inr rfl) (hf : X.fn x = true ∨ X.env.scope.names.lookup x = some .local := by first | exact .inl rfl | exact .inr rfl) :
    PS X (.AugAssign (.Name x pos') op e pos) (rdS X.K W (sAug i f m)) := PS.imp (ps_aug hN hi hx he ho hf) fun E σ H h => by
  obtain ⟨io, ρ, st, s, e, h⟩ := h
  have h0 : rdE X.K W (eVar i) σ H fun v H1 => rdE X.K W m σ H1 fun y H2 => r v y H2 fun z H3 => E.nx (σ.set i (some z)) H3 := by
    refine rdE.step (f := fun ρ x => M.bind (m ρ) fun y => M.bind (f x y) fun z => M.pure (Out.nx (ρ.set i (some z)))) s e h fun io1 H1 v d st1 x1 s1 e1 r1 h1 => ?_
    refine rdE.step (f := fun ρ y => M.bind (f d y) fun z => M.pure (Out.nx (ρ.set i (some z)))) s1 e1 h1 fun io2 H2 u d2 st2 x2 s2 e2 r2 h2 => ?_
    refine o io2 H2 st2 d d2 v u _ s2 (r1.mono x2.mon) r2 (wpM_mono (wpM_bind h2) (fun z st3 y => ?_) fun _ _ y => y)
    exact fun io3 H3 w x3 s3 r3 => y io3 H3 _ ((x1.trans x2).trans x3) s3 ((e2.mono x3.mon).set r3)
  obtain ⟨v, h1, h2⟩ := rd_var h0
  exact ⟨v, h1, h2⟩
/-- o[i] = value -/
def SetD (K : PySem.W.Frag) (W : XW) (f : D → D → D → M Unit) (t : TSet) : Prop := ∀ (io : Lo) (H : Hp) (st : Sto) (x y d : D) (v u w : V) (Q : Hp → Prop), SR K io H st → Rep K io H x v → Rep K io H y u → Rep K io H d w → wpM (f x y d) st (fun _ st' => ∀ io' H', Ext io H io' H' → SR K io' H' st' → Q H') (afX K io H W) → t v u w H Q
def gSubD (o i : EM) (f : D → D → D → M Unit) : GM := fun d ρ => M.bind (o ρ) fun x => M.bind (i ρ) fun y => M.bind (f x y d) fun _ => M.pure ρ
theorem kg_sub {o i : Expr} {mo mi : EM} {t : TSet} {f : D → D → D → M Unit} (hs : PSet X t) (q : SetD X.K W f t) (ho : PE X o (rdE X.K W mo)) (hi : PE X i (rdE X.K W mi))
    (ha : ∀ v, assign (.Subscript o i pos) X.env v = (do
      let ov ← holding [v] (eval o X.env)
      let iv ← holding [v, ov] (eval i X.env)
      standAt pos
      holding [v, ov, iv] (setItem ov iv v)
      release [v, ov, iv] []) := by intro _; rfl) : PG X (.Subscript o i pos) (rdG X.K W (gSubD mo mi f)) := PG.imp (pg_sub ho hi hs ha) fun v σ H Q h => by
  obtain ⟨io, ρ, st, d, s, e, r, h⟩ := h
  refine rdE.step (f := fun ρ x => M.bind (mi ρ) fun y => M.bind (f x y d) fun _ => M.pure ρ) s e h fun io1 H1 v1 d1 st1 x1 s1 e1 r1 h1 => ?_
  refine rdE.step (f := fun ρ y => M.bind (f d1 y d) fun _ => M.pure ρ) s1 e1 h1 fun io2 H2 v2 d2 st2 x2 s2 e2 r2 h2 => ?_
  refine q io2 H2 st2 d1 d2 d v1 v2 v _ s2 (r1.mono x2.mon) r2 (r.mono (x1.trans x2).mon) (wpM_mono (wpM_bind h2) (fun z st3 y => ?_) fun _ _ y => y)
  exact fun io3 H3 x3 s3 => y io3 H3 σ ((x1.trans x2).trans x3) s3 (e2.mono x3.mon)
end

/-! ### what is walked -/
structure Wk (K : PySem.W.Frag) (io : Lo) (J : It) (H : Hp) (ds : List D) : Prop where
  goes : ∀ H', (∀ a o, H a = some o → NotLoc io a → H' a = some o) → ∀ i d, ds[i]? = some d → J.go i H'
  stops : ∀ H', (∀ a o, H a = some o → NotLoc io a → H' a = some o) → J.stop ds.length H'
  gives : ∀ H', (∀ a o, H a = some o → NotLoc io a → H' a = some o) → ∀ i d, ds[i]? = some d → ∀ x H'', J.yld i H' x H'' →
    (H'' = H' ∧ Rep K io H d x) ∨ ∃ T d1 d2 x1 x2, d = .tup [d1, d2] ∧ x = .ref T ∧ H' T = none ∧ H'' = upd H' T (.tup [x1, x2]) ∧ Rep K io H d1 x1 ∧ Rep K io H d2 x2
abbrev IM := En → M (List D)
def rdI (K : PySem.W.Frag) (W : XW) (m : IM) : TI := fun σ H R => ∃ io ρ st, SR K io H st ∧ EnvR K io H σ ρ ∧ wpM (m ρ) st (fun ds st' => ∀ io' H' J, Ext io H io' H' → SR K io' H' st' → Wk K io' J H' ds → R J H') (afX K io H W)
def forL (g : GM) (b : SM) : List D → En → M Out
  | [], ρ => M.pure (.nx ρ)
  | d :: ds, ρ => M.bind (g d ρ) fun ρ1 => M.bind (b ρ1) fun o => match o with
    | .nx ρ2 => forL g b ds ρ2
    | .ct ρ2 => forL g b ds ρ2
    | .bk ρ2 => M.pure (.nx ρ2)
    | .rt d => M.pure (.rt d)
def sFor (m : IM) (g : GM) (b : SM) : SM := fun ρ => M.bind (m ρ) fun ds => forL g b ds ρ
def whL (c : TM) (b : SM) : Nat → En → M Out
  | 0, _ => M.bad
  | n + 1, ρ => M.bind (c ρ) fun t => if t = true then M.bind (b ρ) fun o => match o with
    | .nx ρ2 => whL c b n ρ2
    | .ct ρ2 => whL c b n ρ2
    | .bk ρ2 => M.pure (.nx ρ2)
    | .rt d => M.pure (.rt d) else M.pure (.nx ρ)
def sWhile (fu : Nat) (c : TM) (b : SM) : SM := whL c b fu
section
variable {X : Cx} {W : XW} {pos : Pos}
theorem wk_rep {K : PySem.W.Frag} {i1 i2 : Lo} {H1 H2 H3 : Hp} {J : It} {ds : List D} {st : Sto} {i : Nat} {d : D} {x : V} (w : Wk K i1 J H1 ds) (e : Ext i1 H1 i2 H2) (s : SR K i2 H2 st) (hd : ds[i]? = some d) (y : J.yld i H2 x H3) : Ext i2 H2 i2 H3 ∧ SR K i2 H3 st ∧ Rep K i2 H3 d x := by
  rcases w.gives H2 e.keep i d hd x H3 y with ⟨rfl, r⟩ | ⟨T, d1, d2, x1, x2, rfl, rfl, hT, rfl, r1, r2⟩
  · exact ⟨Ext.refl _ _, s, r.mono e.mon⟩
  · exact ⟨ext_fresh s hT, s.fresh hT, fresh_tup s ⟨x1, [x2], rfl, r1.mono e.mon, RepL.one (r2.mono e.mon)⟩ hT⟩
theorem rd_for {m : IM} {g : GM} {b : SM} {E : Ends} {σ : St} {H : Hp} (h : rdS X.K W (sFor m g b) E σ H) : tFor (rdI X.K W m) (rdG X.K W g) (rdS X.K W b) E σ H := by
  obtain ⟨io, ρ, st, s, e, h⟩ := h
  refine ⟨io, ρ, st, s, e, wpM_mono (wpM_bind h) (fun ds st1 z => ?_) fun _ _ z => z⟩
  intro io1 H1 J x1 s1 w
  refine ⟨fun i n σ2 H2 => i + n = ds.length ∧ ∃ io2 ρ2 st2, Ext io1 H1 io2 H2 ∧ SR X.K io2 H2 st2 ∧ EnvR X.K io2 H2 σ2 ρ2 ∧ wpM (forL g b (ds.drop i) ρ2) st2 (afS X.K io2 H2 E) (afX X.K io2 H2 W),
    ⟨ds.length, by omega, io1, ρ, st1, Ext.refl _ _, s1, e.mono x1.mon, wpM_mono z (fun _ _ y => y.trans x1) fun _ _ y => y.trans x1⟩, ?_⟩
  rintro i n σ2 H2 ⟨hn, io2, ρ2, st2, x2, s2, e2, h2⟩
  by_cases hi : i < ds.length
  · have hd : ds[i]? = some ds[i] := List.getElem?_eq_getElem hi
    rw [List.drop_eq_getElem_cons hi] at h2
    refine .inr ⟨w.goes H2 x2.keep i _ hd, fun σ' H' => i + 1 + (n - 1) = ds.length ∧ ∃ io3 ρ3 st3, Ext io1 H1 io3 H' ∧ SR X.K io3 H' st3 ∧ EnvR X.K io3 H' σ' ρ3 ∧ wpM (forL g b (ds.drop (i + 1)) ρ3) st3 (afS X.K io3 H' E) (afX X.K io3 H' W), fun σ' H' q => ⟨n - 1, by omega, q⟩, fun x H3 y => ?_⟩
    obtain ⟨x3, s3, r3⟩ := wk_rep w x2 s2 hd y
    have h2' : wpM (M.bind (g ds[i] ρ2) fun ρ1 => M.bind (b ρ1) fun o => match o with
      | .nx ρ2 => forL g b (ds.drop (i + 1)) ρ2
      | .ct ρ2 => forL g b (ds.drop (i + 1)) ρ2
      | .bk ρ2 => M.pure (.nx ρ2)
      | .rt d => M.pure (.rt d)) st2 (afS X.K io2 H2 E) (afX X.K io2 H2 W) := h2
    refine ⟨io2, ρ2, st2, ds[i], s3, e2.mono x3.mon, r3, wpM_mono (wpM_bind h2') (fun ρ4 st4 q4 => ?_) fun _ _ q => q.trans x3⟩
    intro io4 H4 σ4 x4 s4 e4
    have x24 := x3.trans x4
    refine ⟨io4, ρ4, st4, s4, e4, wpM_mono (wpM_bind q4) (fun o st5 q5 => ?_) fun _ _ q => q.trans x24⟩
    have again : ∀ ρ5, wpM (forL g b (ds.drop (i + 1)) ρ5) st5 (afS X.K io2 H2 E) (afX X.K io2 H2 W) → afN X.K io4 H4 (fun σ' H' => i + 1 + (n - 1) = ds.length ∧ ∃ io3 ρ3 st3, Ext io1 H1 io3 H' ∧ SR X.K io3 H' st3 ∧ EnvR X.K io3 H' σ' ρ3 ∧ wpM (forL g b (ds.drop (i + 1)) ρ3) st3 (afS X.K io3 H' E) (afX X.K io3 H' W)) ρ5 st5 := fun ρ5 q io5 H5 σ5 x5 s5 e5 =>
      ⟨by omega, io5, ρ5, st5, x2.trans (x24.trans x5), s5, e5, wpM_mono q (fun _ _ y => y.trans (x24.trans x5)) fun _ _ y => y.trans (x24.trans x5)⟩
    cases o with
    | nx ρ5 => exact again ρ5 q5
    | ct ρ5 => exact again ρ5 q5
    | bk ρ5 => exact fun io5 H5 σ5 x5 s5 e5 => (show afN X.K io2 H2 E.nx ρ5 st5 from q5) io5 H5 σ5 (x24.trans x5) s5 e5
    | rt d => exact fun io5 H5 v x5 s5 r5 => (show afE X.K io2 H2 E.rt d st5 from q5) io5 H5 v (x24.trans x5) s5 r5
  · have hi' : i = ds.length := by omega
    subst hi'
    rw [List.drop_length] at h2
    exact .inl ⟨w.stops H2 x2.keep, h2 io2 H2 σ2 (Ext.refl _ _) s2 e2⟩
theorem ks_for {tg iter : Expr} {body : List Stmt} {m : IM} {g : GM} {b : SM} (hp : PassesOwn (model X.prog X.w) X.A X.env X.xe) (hc : X.calm = true) (hi : PI X tg iter (rdI X.K W m)) (hg : PG X tg (rdG X.K W g)) (hb : PSs X body (rdS X.K W b))
    (hs : ∀ x, foldedSetIterable iter X.env x = Pure.pure x := by intro _; rfl) : PS X (.For tg iter body [] pos) (rdS X.K W (sFor m g b)) := PS.imp (ps_for hp hc hi hg hb hs) fun _ _ _ => rd_for
theorem rd_while {c : TM} {b : SM} {fu : Nat} {E : Ends} {σ : St} {H : Hp} (h : rdS X.K W (sWhile fu c b) E σ H) : tWhile (rdT X.K W c) (rdS X.K W b) E σ H := by
  obtain ⟨io, ρ, st, s, e, h⟩ := h
  refine ⟨fun n σ2 H2 => ∃ io2 ρ2 st2, Ext io H io2 H2 ∧ SR X.K io2 H2 st2 ∧ EnvR X.K io2 H2 σ2 ρ2 ∧ wpM (whL c b n ρ2) st2 (afS X.K io2 H2 E) (afX X.K io2 H2 W), ⟨fu, io, ρ, st, Ext.refl _ _, s, e, h⟩, ?_⟩
  rintro n σ2 H2 ⟨io2, ρ2, st2, x2, s2, e2, h2⟩
  cases n with
  | zero => exact h2.elim
  | succ n =>
    refine rdT.step (f := fun ρ t => if t = true then M.bind (b ρ) fun o => match o with
      | .nx ρ2 => whL c b n ρ2
      | .ct ρ2 => whL c b n ρ2
      | .bk ρ2 => M.pure (.nx ρ2)
      | .rt d => M.pure (.rt d) else M.pure (.nx ρ)) s2 e2 h2 fun io3 H3 t st3 x3 s3 e3 h3 => ?_
    cases t with
    | false => exact (show E.nx σ2 H3 from h3 io3 H3 σ2 x3 s3 e3)
    | true =>
      refine (show ∃ N : St → Hp → Prop, _ from ⟨fun σ' H' => ∃ io4 ρ4 st4, Ext io H io4 H' ∧ SR X.K io4 H' st4 ∧ EnvR X.K io4 H' σ' ρ4 ∧ wpM (whL c b n ρ4) st4 (afS X.K io4 H' E) (afX X.K io4 H' W), fun σ' H' q => ⟨n, Nat.lt_succ_self n, q⟩, io3, ρ2, st3, s3, e3, wpM_mono (wpM_bind h3) (fun o st4 q4 => ?_) fun _ _ q => q⟩)
      have again : ∀ ρ5, wpM (whL c b n ρ5) st4 (afS X.K io2 H2 E) (afX X.K io3 H3 W) → afN X.K io3 H3 (fun σ' H' => ∃ io4 ρ4 st4, Ext io H io4 H' ∧ SR X.K io4 H' st4 ∧ EnvR X.K io4 H' σ' ρ4 ∧ wpM (whL c b n ρ4) st4 (afS X.K io4 H' E) (afX X.K io4 H' W)) ρ5 st4 := fun ρ5 q io5 H5 σ5 x5 s5 e5 =>
        ⟨io5, ρ5, st4, x2.trans (x3.trans x5), s5, e5, wpM_mono q (fun _ _ y => y.trans (x3.trans x5)) fun _ _ y => y.trans x5⟩
      cases o with
      | nx ρ5 => exact again ρ5 q4
      | ct ρ5 => exact again ρ5 q4
      | bk ρ5 => exact fun io5 H5 σ5 x5 s5 e5 => (show afN X.K io2 H2 E.nx ρ5 st4 from q4) io5 H5 σ5 (x3.trans x5) s5 e5
      | rt d => exact fun io5 H5 v x5 s5 r5 => (show afE X.K io2 H2 E.rt d st4 from q4) io5 H5 v (x3.trans x5) s5 r5
theorem ks_while (fu : Nat) {c : Expr} {body : List Stmt} {t : TM} {b : SM} (hp : PassesOwn (model X.prog X.w) X.A X.env X.xe) (hc : PT X c (rdT X.K W t)) (hb : PSs X body (rdS X.K W b)) : PS X (.While c body [] pos) (rdS X.K W (sWhile fu t b)) := PS.imp (ps_while hp hc hb) fun _ _ _ => rd_while
end
end KT

/-! Kt4: comprehensions, calls, defs, the law's end. -/
namespace KT
open PySem PySem.Spec L2
open PyProof.Rows hiding St

def noX {α : Type} (m : M α) : M α := fun st => match m st with
  | .ok a s => .ok a s
  | _ => .bad
theorem wpM_noX {α : Type} {m : M α} {st : Sto} {ok : α → Sto → Prop} {ex : Xc → Sto → Prop} (h : wpM (noX m) st ok ex) : wpM m st ok fun _ _ => False := by
  unfold wpM noX at *
  cases e : m st with
  | ok a s => rw [e] at h; exact h
  | exc x s => rw [e] at h; exact h
  | bad => rw [e] at h; exact h
abbrev W0 : XW := fun _ _ _ => False
theorem wpM_W0 {α : Type} {K : PySem.W.Frag} {io : Lo} {H : Hp} {m : M α} {st : Sto} {ok : α → Sto → Prop} (h : wpM m st ok fun _ _ => False) : wpM m st ok (afX K io H W0) := wpM_mono h (fun _ _ z => z) fun _ _ z => z.elim
theorem wpM_of0 {α : Type} {K : PySem.W.Frag} {io : Lo} {H : Hp} {m : M α} {st : Sto} {ok : α → Sto → Prop} (h : wpM m st ok fun _ _ => False) {W : XW} : wpM m st ok (afX K io H W) := wpM_mono h (fun _ _ z => z) fun _ _ z => z.elim

/-! ### list comprehensions -/
def compL (g : GM) (t : TM) (e : EM) (ρ : En) : List D → M (List D)
  | [] => M.pure []
  | d :: ds => M.bind (g d ρ) fun ρ1 => M.bind (t ρ1) fun b => if b = true then M.bind (e ρ1) fun y => M.bind (compL g t e ρ ds) fun ys => M.pure (y :: ys) else compL g t e ρ ds
def eComp (vs : List Nat) (m : IM) (g : GM) (t : TM) (e : EM) : EM := fun ρ => M.bind (m ρ) fun ds => if ds.length ≤ sizeLine then M.bind (noX (compL g t e (wipeD ρ vs) ds)) fun ys => M.pure (.lst ys) else M.bad
/-- a block's target: its reading, and what it does to the names -/
def CG (vs : List Nat) (g : TG) (gd : GM) (K : PySem.W.Frag) : Prop := ∀ (io : Lo) (H : Hp) (st : Sto) (σ : St) (ρ : En) (d : D) (x : V) (Q : St → Hp → Prop) (ok : En → Sto → Prop) (ex : Xc → Sto → Prop),
  SR K io H st → EnvR K io H (L2.wipe σ vs) ρ → Rep K io H d x → wpM (gd d ρ) st ok ex → ∃ σ2 ρ2, ok ρ2 st ∧ EnvR K io H σ2 ρ2 ∧ L2.wipe σ2 vs = L2.wipe σ vs ∧ (Q σ2 H → g x (L2.wipe σ vs) H Q)
theorem cg_name (i : Nat) {K : PySem.W.Frag} : CG [i] (gName i) (gSlot i) K := fun io H st σ ρ d x Q ok ex s e r h =>
  ⟨(L2.wipe σ [i]).set i (some x), ρ.set i (some d), h, e.set r, by show ((σ.set i none).set i (some x)).set i none = σ.set i none; rw [List.set_set, List.set_set], fun q => q⟩
theorem cg_pair (i j : Nat) (hij : i ≠ j) {K : PySem.W.Frag} : CG [i, j] (gTup K 2 (gCons (gName i) (gCons (gName j) gNil))) (gTupD 2 (gsCons (gSlot i) (gsCons (gSlot j) gsNil))) K := fun io H st σ ρ d x Q ok ex s e r h => by
  cases d with
  | tup ds =>
    obtain ⟨a, xs, h1, h2, h3⟩ := r
    obtain ⟨hl, h⟩ := wpM_if h
    match ds, h3, h, hl with
    | [d1, d2], ⟨v1, _, z1, q1, v2, _, z2, q2, z3⟩, h, _ =>
      have z3 : _ = _ := z3
      subst z3; subst z2; subst z1
      refine ⟨((L2.wipe σ [i, j]).set i (some v1)).set j (some v2), (ρ.set i (some d1)).set j (some d2), h, (e.set q1).set q2, ?_, fun q => ⟨a, [v1, v2], h1, h2.seq, rfl, v1, [v2], rfl, v2, [], rfl, rfl, q⟩⟩
      show (((((σ.set j none).set i none).set i (some v1)).set j (some v2)).set j none).set i none = (σ.set j none).set i none
      rw [List.set_set, List.set_set, List.set_comm _ _ hij, List.set_set, List.set_set]
  | _ => exact h.elim
section
variable {X : Cx} {W : XW} {pos : Pos}
theorem mon_seen {i1 i2 : Lo} {H1 H2 : Hp} {p : Addr} (x : Ext i1 H1 (showL i2 i1.hid) H2) (h2 : ∀ a, i2.hid a ↔ i1.hid a ∨ a = p) (hp : H1 p = none) : Mon i1 H1 i2 H2 where
  sub := x.sub
  nl := fun a h l => ⟨(x.notLoc h l).1, fun z => ((h2 a).mp z).elim h.2 fun q => l (by rw [q]; exact hp)⟩
  keep := x.keep
theorem rd_comp {vs : List Nat} {m : IM} {g : TG} {gd : GM} {t : TM} {e : EM} {σ : St} {H : Hp} {Q : VK} (cg : CG vs g gd X.K) (h : rdE X.K W (eComp vs m gd t e) σ H Q) : tLc (rdI X.K W m) g (rdT X.K W0 t) (rdE X.K W0 e) vs σ H Q := by
  obtain ⟨io, ρ, st, s, en, h⟩ := h
  refine ⟨io, ρ, st, s, en, wpM_mono (wpM_bind h) (fun ds st1 z => ?_) fun _ _ z => z⟩
  obtain ⟨hl, z⟩ := wpM_if z
  have z := wpM_noX (wpM_bind z)
  intro io1 H1 J x1 s1 w D0 hD
  have hnD : ¬ io1.hid D0 := fun q => (s1.hidL D0 q).1 hD
  refine ⟨fun i n H2 => i + n = ds.length ∧ ∃ io2 st2 accD accV, Ext io1 H1 (showL io2 io1.hid) H2 ∧ (∀ a, io2.hid a ↔ io1.hid a ∨ a = D0) ∧ SR X.K io2 H2 st2 ∧ H2 D0 = some (.lst accV) ∧ RepL X.K io2 H2 accD accV ∧ EnvR X.K io2 H2 (L2.wipe σ vs) (wipeD ρ vs) ∧ accD.length ≤ i ∧
      wpM (compL gd t e (wipeD ρ vs) (ds.drop i)) st2 (fun ys st' => afE X.K io1 H1 Q (.lst (accD ++ ys)) st') fun _ _ => False,
    ⟨ds.length, by omega, hideL io1 D0, st1, [], [], ext_fresh s1 hD, fun a => Iff.rfl, s1.hide hD, upd_same, rfl, ((en.mono x1.mon).wipe vs).mono (mon_hide hD), Nat.le_refl _, wpM_mono z (fun ys s' q => ?_) fun _ _ q => q⟩, ?_⟩
  · exact afE.trans x1 q
  rintro i n H2 ⟨hn, io2, st2, accD, accV, x2, hid2, s2, hD2, ra, e2, hla, h2⟩
  by_cases hi : i < ds.length
  · have hd : ds[i]? = some ds[i] := List.getElem?_eq_getElem hi
    rw [List.drop_eq_getElem_cons hi] at h2
    refine .inr ⟨w.goes H2 x2.keep i _ hd, fun H' => i + 1 + (n - 1) = ds.length ∧ ∃ io2 st2 accD accV, Ext io1 H1 (showL io2 io1.hid) H' ∧ (∀ a, io2.hid a ↔ io1.hid a ∨ a = D0) ∧ SR X.K io2 H' st2 ∧ H' D0 = some (.lst accV) ∧ RepL X.K io2 H' accD accV ∧ EnvR X.K io2 H' (L2.wipe σ vs) (wipeD ρ vs) ∧ accD.length ≤ i + 1 ∧
      wpM (compL gd t e (wipeD ρ vs) (ds.drop (i + 1))) st2 (fun ys st' => afE X.K io1 H1 Q (.lst (accD ++ ys)) st') fun _ _ => False, fun H' q => ⟨n - 1, by omega, q⟩, fun x H3 y => ?_⟩
    -- the item
    obtain ⟨x3, s3, hD3, ra3, e3, r3⟩ : Ext io1 H1 (showL io2 io1.hid) H3 ∧ SR X.K io2 H3 st2 ∧ H3 D0 = some (.lst accV) ∧ RepL X.K io2 H3 accD accV ∧ EnvR X.K io2 H3 (L2.wipe σ vs) (wipeD ρ vs) ∧ Rep X.K io2 H3 ds[i] x := by
      rcases w.gives H2 x2.keep i _ hd x H3 y with ⟨rfl, r⟩ | ⟨T, d1, d2, y1, y2, hdd, rfl, hT, rfl, r1, r2⟩
      · exact ⟨x2, s2, hD2, ra, e2, r.mono (mon_seen x2 hid2 hD)⟩
      · rw [hdd]
        refine ⟨x2.trans ?_, s2.fresh hT, by rw [upd_ne (ne_of_none hD2 hT)]; exact hD2, ra.mono (mon_fresh hT), e2.mono (mon_fresh hT), fresh_tup s2 ⟨y1, [y2], rfl, r1.mono (mon_seen x2 hid2 hD), RepL.one (r2.mono (mon_seen x2 hid2 hD))⟩ hT⟩
        exact ext_fresh (s2.unhide fun a q => (hid2 a).mpr (.inl q)) hT
    have h2' : wpM (M.bind (gd ds[i] (wipeD ρ vs)) fun ρ1 => M.bind (t ρ1) fun b => if b = true then M.bind (e ρ1) fun y => M.bind (compL gd t e (wipeD ρ vs) (ds.drop (i + 1))) fun ys => M.pure (y :: ys) else compL gd t e (wipeD ρ vs) (ds.drop (i + 1))) st2 (fun ys st' => afE X.K io1 H1 Q (.lst (accD ++ ys)) st') fun _ _ => False := h2
    obtain ⟨σ4, ρ4, h4, e4, hw4, g4⟩ := cg io2 H3 st2 σ (wipeD ρ vs) ds[i] x _ _ _ s3 e3 r3 (wpM_bind h2')
    refine g4 ⟨hw4, io2, ρ4, st2, s3, e4, wpM_mono (wpM_bind h4) (fun b st5 q5 => ?_) fun _ _ q => q.elim⟩
    intro io5 H5 x5 s5
    have hid5 : ∀ a, io5.hid a ↔ io1.hid a ∨ a = D0 := fun a => by rw [x5.hidE]; exact hid2 a
    have hD5 : H5 D0 = some (.lst accV) := (x5.keepH D0 ((hid2 D0).mpr (.inr rfl))).trans hD3
    have x15 : Ext io1 H1 (showL io5 io1.hid) H5 := x3.seen hid2 hD x5
    cases b with
    | false =>
      exact ⟨by omega, io5, st5, accD, accV, x15, hid5, s5, hD5, ra3.mono x5.mon, e3.mono x5.mon, by omega, q5⟩
    | true =>
      refine (show rdE X.K W0 e σ4 H5 _ from ⟨io5, ρ4, st5, s5, e4.mono x5.mon, wpM_mono (wpM_bind q5) (fun dy st6 q6 => ?_) fun _ _ q => q.elim⟩)
      intro io6 H6 v6 x6 s6 r6
      have hid6 : ∀ a, io6.hid a ↔ io1.hid a ∨ a = D0 := fun a => by rw [x6.hidE]; exact hid5 a
      have hD6 : H6 D0 = some (.lst accV) := (x6.keepH D0 ((hid5 D0).mpr (.inr rfl))).trans hD5
      have hp6 : io6.hid D0 := (hid6 D0).mpr (.inr rfl)
      have ra6 : RepL X.K io6 H6 accD accV := (ra3.mono x5.mon).mono x6.mon
      refine ⟨accV, hD6, by rw [← ra6.length]; omega, by omega, io6, st6, accD ++ [dy], accV ++ [v6], (x15.seen hid5 hD x6).seenPut hD hnD, hid6, s6.hidPut hp6, upd_same, (ra6.append (RepL.one r6)).mono (mon_hid hp6), ((e3.mono x5.mon).mono x6.mon).mono (mon_hid hp6), by rw [List.length_append]; show accD.length + 1 ≤ i + 1; omega, wpM_mono (wpM_bind q6) (fun ys st7 q7 => ?_) fun _ _ q => q⟩
      rw [List.append_assoc]
      exact q7
  · have hi' : i = ds.length := by omega
    subst hi'
    rw [List.drop_length] at h2
    have h3 : afE X.K io1 H1 Q (.lst (accD ++ [])) st2 := h2
    rw [List.append_nil] at h3
    have up : ∀ a, io1.hid a → io2.hid a := fun a q => (hid2 a).mpr (.inl q)
    exact .inl ⟨w.stops H2 x2.keep, h3 _ H2 (.ref D0) x2 (s2.unhide up) ⟨D0, accV, rfl, .inl ⟨.inl hD2, (s2.hidL D0 ((hid2 D0).mpr (.inr rfl))).2, hnD⟩, ra.mono (mon_show up)⟩⟩
def tYesM : TM := fun _ => M.pure true
theorem kp_nil : PTs X [] (rdT X.K W tYesM) := ⟨fun pins s σ H Q I h => by
  obtain ⟨io, ρ, st, sr, e, h⟩ := h
  exact pts_nil.run pins s σ H Q I (h io H (Ext.refl _ _) sr)⟩
theorem kp_one {c : Expr} {t : TM} (h : PT X c (rdT X.K W t)) : PTs X [c] (rdT X.K W t) := pts_one h
/-- [elt for target in iter if ..] -/
theorem k_comp {elt tg iter : Expr} {ifs : List Expr} {scope : Scope} {own : List (Str × Nat)} {m : IM} {g : TG} {gd : GM} {t : TM} {e : EM} (own_ : List (Str × Nat) := own) (hc : X.calm = true) (hN : X.N.Nodup) (cg : CG (own.map (·.2)) g gd X.K) (hi : PI X tg iter (rdI X.K W m)) (ok : blkC X.N X.env.scope scope own = true)
    (hg : ∀ (s : Shared) (H : Hp) (C : Addr) (cl : List (Str × Addr)) (fp : List Addr), PG (X.blk s H scope (compEnvC scope cl C X.env) fp) tg g) (ht : ∀ (s : Shared) (H : Hp) (C : Addr) (cl : List (Str × Addr)) (fp : List Addr), PTs (X.blk s H scope (compEnvC scope cl C X.env) fp) ifs (rdT X.K W0 t))
    (he : ∀ (s : Shared) (H : Hp) (C : Addr) (cl : List (Str × Addr)) (fp : List Addr), PE (X.blk s H scope (compEnvC scope cl C X.env) fp) elt (rdE X.K W0 e)) (hs : ∀ x, foldedSetIterable iter X.env x = Pure.pure x := by intro _; rfl) :
    PE X (.ListComp elt [⟨tg, iter, ifs, 0⟩] scope pos) (rdE X.K W (eComp (own.map (·.2)) m gd t e)) := PE.imp (pe_lc hc hN hi (blkOk_by ok) hg ht he hs) fun _ _ _ => rd_comp cg
/-- name = [..] on one line -/
theorem ks_setC {i : Nat} {y : Str} {py : Pos} {elt tg iter : Expr} {ifs : List Expr} {scope : Scope} {own : List (Str × Nat)} {spos : Pos} {m : IM} {g : TG} {gd : GM} {t : TM} {e : EM} (hc : X.calm = true) (hN : X.N.Nodup) (cg : CG (own.map (·.2)) g gd X.K) (hy : X.N[i]? = some y) (hyl : X.env.scope.names.lookup y = some .local)
    (hsw : swapsWith (.ListComp elt [⟨tg, iter, ifs, 0⟩] scope pos) (some (.Name y py)) spos.line X.env = Pure.pure true) (hi : PI X tg iter (rdI X.K W m)) (ok : blkC X.N X.env.scope scope own = true)
    (hg : ∀ (s : Shared) (H : Hp) (C : Addr) (cl : List (Str × Addr)) (fp : List Addr), PG (X.blk s H scope (compEnvC scope cl C X.env) fp) tg g) (ht : ∀ (s : Shared) (H : Hp) (C : Addr) (cl : List (Str × Addr)) (fp : List Addr), PTs (X.blk s H scope (compEnvC scope cl C X.env) fp) ifs (rdT X.K W0 t))
    (he : ∀ (s : Shared) (H : Hp) (C : Addr) (cl : List (Str × Addr)) (fp : List Addr), PE (X.blk s H scope (compEnvC scope cl C X.env) fp) elt (rdE X.K W0 e)) (hs : ∀ x, foldedSetIterable iter X.env x = Pure.pure x := by intro _; rfl) :
    PS X (.Assign [.Name y py] (.ListComp elt [⟨tg, iter, ifs, 0⟩] scope pos) spos) (rdS X.K W (sSet i (eComp (own.map (·.2)) m gd t e))) :=
  PS.imp (ps_setLc hc hN hy hyl hsw hi (blkOk_by ok) hg ht he hs) fun E σ H h => rd_comp cg (by
    obtain ⟨io, ρ, st, s, en, h⟩ := h
    exact rdE.step (f := fun ρ d => M.pure (Out.nx (ρ.set i (some d)))) s en h fun io1 H1 v d st1 x1 s1 e1 r1 h1 => h1 io1 H1 _ x1 s1 (e1.set r1))
end

/-! ### defs -/
/-- the def at f does what m does to plain data -/
def FnG (P : Program) (w : World) (K : PySem.W.Frag) (mg : Str → Option Value) (base : Heap) (k : Nat) (f : Addr) (fd : FuncData) (ps : List Str) (m : List D → M D) : Prop :=
  ∀ (A : Around) (outer : List Env) (s : Shared) (H : Hp) (args : Args) (us : List Value) (vs : List V) (ds : List D) (io : Lo) (st : Sto) (Q : VK),
    Room k A → A.guards = some [] → Env0 P w K mg base A outer s H → BindsTo s fd args (ps.zip us) → Vals vs us → SR K io H st → RepL K io H ds vs → ds.length = ps.length →
    wpM (m ds) st (afE K io H Q) (fun _ _ => False) → codeAny (model P w) A (.call (.ref f) args) (CR CX0 outer P w H s Q E0) s
def mFun (n : Nat) (b : SM) : List D → M D := fun ds => M.bind (b (ds.map some ++ List.replicate (n - ds.length) none)) fun o => match o with
  | .rt d => M.pure d
  | .nx _ => M.pure .non
  | _ => M.bad
theorem EnvR.start {K : PySem.W.Frag} {io : Lo} {H : Hp} {ds : List D} {vs : List V} (r : RepL K io H ds vs) (N : List Str) : EnvR K io H (start N vs) (ds.map some ++ List.replicate (N.length - ds.length) none) := by
  unfold L2.start
  refine ⟨by simp only [List.length_append, List.length_map, List.length_replicate, r.length], fun i d e => ?_⟩
  by_cases hi : i < ds.length
  · rw [List.getElem?_append_left (by rw [List.length_map]; exact hi), List.getElem?_map] at e
    cases z : ds[i]? with
    | none => rw [z] at e; cases e
    | some d' =>
      rw [z] at e; cases e
      obtain ⟨v, h1, h2⟩ := r.get z
      exact ⟨v, by rw [List.getElem?_append_left (by rw [List.length_map, ← r.length]; exact hi), List.getElem?_map, h1]; rfl, h2⟩
  · rw [List.getElem?_append_right (by rw [List.length_map]; omega), List.getElem?_replicate] at e
    split at e <;> cases e
section
variable {P : Program} {w : World} {K : PySem.W.Frag} {mg : Str → Option Value} {base : Heap}
/-- the def's own context -/
abbrev cxG (P : Program) (w : World) (K : PySem.W.Frag) (mg : Str → Option Value) (base : Heap) (N : List Str) (qual : Str) (st : Stmt) (f : Addr) (cd : Value) (A : Around) (outer : List Env) (s : Shared) (H : Hp) : Cx :=
  (cxOf CX0 P w K mg base N qual (defScope st) f cd A outer s H E0).nox
theorem fnG_of {x qual : Str} {st : Stmt} {f : Addr} {fd : FuncData} {N ps : List Str} {k : Nat} {b : SM} (F : Fun K x qual st f fd) (S : FnScope N ps (defScope st))
    (body : ∀ (cd : Value) (A : Around) (outer : List Env) (s : Shared) (H : Hp), Room k (A.deeper (envOfC qual (defScope st) s.heap.objs.size f cd)) → (A.deeper (envOfC qual (defScope st) s.heap.objs.size f cd)).guards = some [] →
      PSs (cxG P w K mg base N qual st f cd A outer s H) (defBody st) (rdS K W0 b)) : FnG P w K mg base (k + 1) f fd ps (mFun N.length b) := by
  intro A outer s H args us vs ds io sto Q hr hgd e0 hb rv sr rp hlen hm
  obtain ⟨oc, od, kV, doc, pm, an, cdv, ct, osl, rfl, lk, hcd⟩ := F.ex
  have kept : ∀ b o, base.get? b = some o → s.heap.get? b = some o := fun b o e => (e0.bs b o e).1
  have KX := e0.mod.kin.keeps kept
  have lim := e0.mod.nolimit.keeps kept
  have hlv : vs.length = ps.length := by rw [← rp.length]; exact hlen
  refine codeAny_call_function hr.depth (KX _ _ lk) rfl S.co S.gen rfl (PySem.W.codeRec_of KX hcd) (hb _ _ _ _ ?_)
  refine wpAny_newFunctionEnv_cells S.kind (fun y hy => ?_) fun env he s1 z1 => ?_
  · rcases S.par y.1 (List.of_mem_zip hy).1 with q | q
    · exact .inl q
    · exact .inr ⟨q, PySem.W.cellsFrom_some _ _ _ (.inl q)⟩
  subst he
  refine ⟨lim.keeps z1.toInCall.keep, codeAny_func ?_⟩
  have J0 := inv_start (CX := CX0) (E := E0) (f := f) (cd := cdv) (qual := qual) S hr.hd e0 hlv rv z1
  have hr' := hr.deeper (envOfC qual (defScope st) s.heap.objs.size f cdv)
  have go := (body cdv A outer s H hr' hgd).nox.run [] s1 (start N vs) H { nx := fun _ H' => Q .non H', rt := Q } J0 ⟨io, _, sto, sr, EnvR.start rp N, wpM_mono (wpM_bind hm) (fun o st1 q => ?_) fun _ _ q => q.elim⟩
  · refine wpAny_mono go (fun fl s' q => ?_) fun e s' q => q
    cases fl with
    | ret u =>
      obtain ⟨v, σ', H', J, r1, q⟩ := q
      exact ⟨v, H', J.os, J.bare, J.base, J.hok, r1, q⟩
    | next =>
      obtain ⟨σ', H', J, q⟩ := q
      exact ⟨.non, H', J.os, J.bare, J.base, J.hok, rfl, q⟩
    | brk =>
      obtain ⟨_, _, _, q⟩ := q
      exact q.elim
    | cont =>
      obtain ⟨_, _, _, q⟩ := q
      exact q.elim
  · cases o with
    | rt d => exact q
    | nx ρ' => exact fun io' H' σ' x' s' _ => (show afE K io H Q .non st1 from q) io' H' .non x' s' rfl
    | bk ρ' => exact q.elim
    | ct ρ' => exact q.elim
end
section
variable {X : Cx} {W : XW} {pos p : Pos} {f : Addr} {fd : FuncData} {ps : List Str} {m : List D → M D} {k : Nat} {x : Str} {e : Expr} {es : List Expr} {r : AM}
def eCall (n : Nat) (m : List D → M D) (r : AM) : EM := fun ρ => M.bind (r ρ) fun ds => if ds.length = n then noX (m ds) else M.bad
/-- the callee runs -/
theorem runG {pins : List (Addr × Obj)} {σ : St} {H : Hp} {s : Shared} {Q : VK} {us : List Value} {kw : List (Str × Value)} {vs : List V} {ds : List D} {io : Lo} {st : Sto} {io0 : Lo} {H0 : Hp} (F : FnG X.prog X.w X.K X.mg X.base k f fd ps m) (hr : Room k X.A) (hgd : X.A.guards = some [])
    (I : Inv X pins σ H s) (hb : BindsTo s fd ⟨us, kw⟩ (ps.zip us')) (rv : Vals vs us') (sr : SR X.K io H st) (rp : RepL X.K io H ds vs) (h : wpM (if ds.length = ps.length then noX (m ds) else M.bad) st (afE X.K io H Q) (afX X.K io0 H0 W)) :
    wpAny (model X.prog X.w) X.A (call (.ref f) us kw) (EP X pins σ Q) X.xe s := by
  obtain ⟨hl, h⟩ := wpM_if h
  refine wpAny_call (codeAny_mono (F X.A X.stack s H _ us' vs ds io st Q hr hgd I.env0 hb rv sr rp hl (wpM_noX h)) fun r s' q => ?_)
  cases r with
  | error e => exact False.elim q
  | ok fl =>
    cases fl with
    | ret u => exact I.after q
    | next => exact False.elim q
    | brk => exact False.elim q
    | cont => exact False.elim q
theorem k_call (F : FnG X.prog X.w X.K X.mg X.base k f fd ps m) (hr : Room k X.A) (hgd : X.A.guards = some []) (hm : X.mg x = some (.ref f)) (hk : PySem.W.keepIn X.K (.ref f) = true) (hb : Binds X.K fd ps []) (ha : PA X (e :: es) (rdA X.K W r))
    (hg : Gl X x := by rfl) (hdb : (x == ("__debug__" : Str)) = false := by decide) (he : starEach (e :: es) X.env = (false, eval e X.env) :: starEach es X.env := by rfl) (hpl : (backTo pos (starEach es X.env)).any (·.1) = false := by rfl) :
    PE X (.Call (.Name x p) (e :: es) [] pos) (rdE X.K W (eCall ps.length m r)) := by
  refine ⟨fun pins s σ H Q I h => wpAny_Call_Name_kw (ld_glob I hg hm ?_ hdb)⟩
  obtain ⟨io, ρ, st, sr, en, h⟩ := h
  have hA : rdA X.K W r σ H fun vs H1 => ∃ io1 st1 ds, SR X.K io1 H1 st1 ∧ RepL X.K io1 H1 ds vs ∧ wpM (if ds.length = ps.length then noX (m ds) else M.bad) st1 (afE X.K io1 H1 Q) (afX X.K io1 H1 W) :=
    rdA.step (f := fun _ ds => if ds.length = ps.length then noX (m ds) else M.bad) sr en h fun io1 H1 vs ds st1 x1 s1 e1 r1 h1 => ⟨io1, st1, ds, s1, r1, wpM_afE x1 h1⟩
  refine PySem.W.callWith_K (h₀ := X.base) I.ok.mod.kin hk (thn (ha.run pos pins s σ H _ I hA) fun us s1 ⟨vs, H1, I1, rv, io1, st1, ds, s1', r1, h1⟩ => ⟨I1.kIn, ?_⟩) he hpl
  have hlu : (us ++ []).length = ps.length := by rw [List.append_nil, ← rv.length, ← r1.length]; exact (wpM_if h1).1
  have hb1 := hb s1 us I1.kIn hlu
  rw [List.append_nil] at hb1
  exact runG F hr hgd I1 hb1 rv s1' r1 h1
end
end KT

/-! Kt5: the law's end. -/
namespace KT
open PySem PySem.Spec L2
open PyProof.Rows hiding St

theorem repL_ints {K : PySem.W.Frag} {io : Lo} {H : Hp} : ∀ ns : List Int, RepL K io H (ns.map D.int) (ns.map V.int)
  | [] => rfl
  | n :: ns => ⟨.int n, ns.map V.int, rfl, rfl, repL_ints ns⟩
abbrev noLo : Lo := ⟨fun _ => none, fun _ => False⟩
theorem sr_nil {K : PySem.W.Frag} {H : Hp} : SR K noLo H [] := ⟨fun n xs e => by simp at e, fun n a e => (nomatch e), fun n m a e => (nomatch e), fun a q => q.elim⟩
theorem nl_no {a : Addr} : NotLoc noLo a := ⟨fun n z => (nomatch z), fun z => z⟩
section
variable {P : Program} {w : World} {K : PySem.W.Frag} {mg mb : Str → Option Value} {k : Nat} {fa a : Addr} {fd : FuncData} {x : Str} {m : List D → M D} {s₁ : Shared} {vs : List Value} {ns : List Int}
/-- one abstract heap at the entry: nothing, or the script alone -/
theorem law_at {H : Hp} (KX : K.In s₁.heap) (hns : s₁.heap.Ns mainGlobals mg) (hb : s₁.heap.Ns builtinsNs mb) (hbb : ∀ x : Str, x ≠ "__name__" → mb x = bootBuiltins x) (hlim : s₁.heap.NoLimit) (hg : s₁.gens = #[])
    (ha : s₁.heap.get? a = some { cls := .type "list", data := .seq vs.toArray }) (hr : Room k callerA)
    (F : ∀ base : Heap, K.In base → base.Ns mainGlobals mg → FnG P w K mg base k fa fd [x] m) (hbind : ∀ (s : Shared) (u : Value), BindsTo s fd ⟨[u], []⟩ [(x, u)])
    (hS : LstAt K noLo H a (ns.map V.int)) (hok : HOk P w H s₁.heap) (hA : ∀ b, H b ≠ none → b = a) (hK : H a ≠ none → K.lookup a = none) (hO : ∀ b, H b = none ∨ ∃ o xs, H b = some (.frz o (.lst xs)))
    (hm : wpM (m [.lst (ns.map D.int)]) [] (fun d _ => d = .bl true) fun _ _ => False) :
    codeAny (model P w) callerA (.call (.ref fa) ⟨[.ref a], []⟩) (fun r s' => r = .ok (.ret (.bool true)) ∧ OldK s₁.heap s'.heap ∧ s'.os = s₁.os ∧ AllBare s'.gens) s₁ := by
  have notA : ∀ {b : Addr} {o : Obj} {es : Array DictEntry} {ep : Nat}, s₁.heap.get? b = some o → o.data = .dict es ep → H b = none := fun {b o es ep} e d => by
    cases q : H b with
    | none => rfl
    | some u =>
      obtain rfl := hA b (by rw [q]; exact fun z => nomatch z)
      rw [ha] at e; cases e; cases d
  have nsT : ∀ {b : Addr} {mm : Str → Option Value}, s₁.heap.Ns b mm → (hidT s₁.heap H).Ns b mm := fun {b mm} ⟨o, es, ep, e, d, r⟩ => ⟨o, es, ep, hidT_get e (notA e d), d, r⟩
  have KB : K.In (hidT s₁.heap H) := fun b o e => hidT_get (KX b o e) (by
    cases q : H b with
    | none => rfl
    | some u =>
      obtain rfl := hA b (by rw [q]; exact fun z => nomatch z)
      rw [hK (by rw [q]; exact fun z => nomatch z)] at e; cases e)
  have hM : Mod K mg (hidT s₁.heap H) := ⟨KB, nsT hns, ⟨mb, nsT hb, hbb⟩, let ⟨mc, h1, h2⟩ := hlim; ⟨mc, nsT h1, h2⟩⟩
  have env : Env0 P w K mg (hidT s₁.heap H) callerA [] s₁ H := ⟨rfl, hM, fun b o e => of_hidT e, Nat.le_of_eq (hidT_size _ _), trivial, fun b z => absurd z List.not_mem_nil, hok, .of_eq hg⟩
  have run := F _ KB (nsT hns) callerA [] s₁ H ⟨[.ref a], []⟩ [.ref a] [.ref a] [.lst (ns.map D.int)] noLo [] (fun v _ => v = .bl true) hr rfl env (hbind s₁ _) (.cons rfl .nil) sr_nil ⟨.ref a, [], rfl, ⟨a, _, rfl, hS, repL_ints ns⟩, rfl⟩ rfl
    (wpM_mono hm (fun d st q => by subst q; exact fun io' H' v _ _ r => r) fun _ _ q => q)
  refine codeAny_mono run fun r s' q => ?_
  cases r with
  | error e => exact False.elim q
  | ok fl =>
    cases fl with
    | next => exact False.elim q
    | brk => exact False.elim q
    | cont => exact False.elim q
    | ret u =>
      obtain ⟨v, H', os, bare, un, ok', rv, q⟩ := q
      have q : v = .bl true := q
      subst q
      obtain rfl : u = Value.bool true := rv
      refine ⟨rfl, OldK.of_keep fun b o e => ?_, os, bare⟩
      cases z : H b with
      | none => exact un.keep b o e z List.not_mem_nil List.not_mem_nil
      | some u =>
        rcases hO b with y | ⟨ob, xs, y⟩
        · rw [z] at y; cases y
        · obtain ⟨e1, _⟩ := hok b _ y
          obtain ⟨e2, _⟩ := ok' b _ (un.frzs b ob _ y)
          rw [e] at e1; cases e1
          exact e2
theorem law_in (KX : K.In s₁.heap) (hns : s₁.heap.Ns mainGlobals mg) (hb : s₁.heap.Ns builtinsNs mb) (hbb : ∀ x : Str, x ≠ "__name__" → mb x = bootBuiltins x) (hlim : s₁.heap.NoLimit) (hg : s₁.gens = #[])
    (ha : s₁.heap.get? a = some { cls := .type "list", data := .seq vs.toArray }) (hi : IntsAre vs ns) (hl : ns.length ≤ sizeLine) (hr : Room k callerA)
    (F : ∀ base : Heap, K.In base → base.Ns mainGlobals mg → FnG P w K mg base k fa fd [x] m) (hbind : ∀ (s : Shared) (u : Value), BindsTo s fd ⟨[u], []⟩ [(x, u)])
    (hm : wpM (m [.lst (ns.map D.int)]) [] (fun d _ => d = .bl true) fun _ _ => False) :
    codeAny (model P w) callerA (.call (.ref fa) ⟨[.ref a], []⟩) (fun r s' => r = .ok (.ret (.bool true)) ∧ OldK s₁.heap s'.heap ∧ s'.os = s₁.os ∧ AllBare s'.gens) s₁ := by
  have rv := vals_ints hi
  cases hk : K.lookup a with
  | some o =>
    have e := KX a o hk
    rw [ha] at e; cases e
    exact law_at (H := fun _ => none) KX hns hb hbb hlim hg ha hr F hbind (.inr ⟨_, vs.toArray, _, hk, rfl, rfl, rfl, by rw [List.size_toArray, hi.length]; exact hl, by simpa using rv⟩) (fun b u z => nomatch z) (fun b z => absurd rfl z) (fun z => absurd rfl z) (fun b => .inl rfl) hm
  | none =>
    refine law_at (H := fun b => if b = a then some (.frz { cls := .type "list", data := .seq vs.toArray } (.lst (ns.map V.int))) else none) KX hns hb hbb hlim hg ha hr F hbind (.inl ⟨.inr ⟨_, if_pos rfl⟩, nl_no⟩) (fun b u z => ?_) (fun b z => ?_) (fun _ => hk) (fun b => ?_) hm
    · by_cases e : b = a
      · have z := (if_pos e).symm.trans z
        cases z
        subst e
        exact ⟨ha, by rw [List.length_map]; exact hl, vs, _, rv, ha⟩
      · have z := (if_neg e).symm.trans z
        cases z
    · by_cases e : b = a
      · exact e
      · exact absurd (if_neg e) z
    · by_cases e : b = a
      · exact .inr ⟨_, _, if_pos e⟩
      · exact .inl (if_neg e)
end
/-- the goal that the head leaves, from what the law's def does to plain data -/
theorem law_of {l : PySem.W.OpenLaw} {n k : Nat} {q : Program} {loose : List Str} {XP : (Str → Option Value) → Heap → Prop} {YP : World → Heap → Prop} {d : DefRec} {K : Params → PySem.W.Frag} {x : Str} (m : World → List D → M D)
    (hn : l.most = some n) (hn2 : n ≤ sizeLine) (hdf : d.params.defaults = []) (hr : Room k callerA) (hY : ∀ (w : World) (h : Heap), YP w h → (K w.params).In h)
    (F : ∀ (w : World) (mg : Str → Option Value) (fa : Addr) (h : Heap), (K w.params).In h → h.Ns mainGlobals mg → mg d.name = some (.ref fa) →
      ∃ fd : FuncData, (∀ (s : Shared) (u : Value), BindsTo s fd ⟨[u], []⟩ [(x, u)]) ∧ ∀ base : Heap, (K w.params).In base → base.Ns mainGlobals mg → FnG l.prog w (K w.params) mg base k fa fd [x] (m w))
    (hm : ∀ (w : World) (ns : List Int), ns.length ≤ n → (∀ z ∈ ns, Builtin.Int.intBits z ≤ 1048576) → wpM (m w [.lst (ns.map D.int)]) [] (fun d _ => d = .bl true) fun _ _ => False) :
    PySem.W.WalkO q loose XP YP l.row.toRowW d [] (fun f vs => PySem.call f vs) :=
  Att.attach_callB hn hdf fun w s₀ s₁ mg mb fa o pm cd doc a vs ns G Y ho hd hcd hmg hobj hints hlen hbits hg => by
    have KX := hY w _ Y
    obtain ⟨fd, hb, hF⟩ := F w mg fa _ KX G.T.g hmg
    exact law_in KX G.T.g G.T.b G.T.builtins G.T.nolimit hg hobj hints (Nat.le_trans hlen hn2) hr hF hb (hm w ns hlen hbits)
end KT

/-! Kt6: operators, comparisons, subscripts, built-in functions by values. -/
namespace KT
open PySem PySem.Spec L2
open PyProof.Rows hiding St

/-! ### data as the library has it -/
mutual
def toPy : D → Option PyData
  | .non => some .none
  | .bl b => some (.bool b)
  | .int i => some (.int i)
  | .str x => some (.str x)
  | .tup ds => (toPyL ds).map .tuple
  | .lst ds => (toPyL ds).map .list
  | .loc _ => none
def toPyL : List D → Option (List PyData)
  | [] => some []
  | d :: ds => match toPy d, toPyL ds with
    | some p, some ps => some (p :: ps)
    | _, _ => none
end
mutual
theorem dp_of {K : PySem.W.Frag} {io : Lo} {H : Hp} : ∀ (d : D) (v : V) (p : PyData), Rep K io H d v → toPy d = some p → Dp K H v p
  | .non, v, p, h, e => by
    have h : v = _ := h
    subst h; simp only [toPy] at e; cases e; exact .non
  | .bl b, v, p, h, e => by
    have h : v = _ := h
    subst h; simp only [toPy] at e; cases e; exact .bl b
  | .int i, v, p, h, e => by
    have h : v = _ := h
    subst h; simp only [toPy] at e; cases e; exact .int i
  | .str x, v, p, h, e => by
    have h : v = _ := h
    subst h; simp only [toPy] at e; cases e; exact .str x
  | .tup ds, v, p, ⟨a, xs, h1, h2, h3⟩, e => by
    subst h1
    simp only [toPy] at e
    cases z : toPyL ds with
    | none => rw [z] at e; cases e
    | some ps => rw [z] at e; cases e; exact .tup h2.seq (dpL_of ds xs ps h3 z)
  | .lst ds, v, p, ⟨a, xs, h1, h2, h3⟩, e => by
    subst h1
    simp only [toPy] at e
    cases z : toPyL ds with
    | none => rw [z] at e; cases e
    | some ps => rw [z] at e; cases e; exact .lst h2.seq (dpL_of ds xs ps h3 z)
  | .loc n, v, p, h, e => by simp only [toPy] at e; cases e
theorem dpL_of {K : PySem.W.Frag} {io : Lo} {H : Hp} : ∀ (ds : List D) (vs : List V) (ps : List PyData), RepL K io H ds vs → toPyL ds = some ps → DpAll K H vs ps
  | [], vs, ps, h, e => by
    have h : vs = _ := h
    subst h; simp only [toPyL] at e; cases e; exact .nil
  | d :: ds, vs, ps, ⟨v, r, h1, h2, h3⟩, e => by
    subst h1
    simp only [toPyL] at e
    cases z1 : toPy d with
    | none => rw [z1] at e; cases e
    | some p =>
      cases z2 : toPyL ds with
      | none => rw [z1, z2] at e; cases e
      | some ps' => rw [z1, z2] at e; cases e; exact .cons (dp_of d v p h2 z1) (dpL_of ds r ps' h3 z2)
end

section
variable {X : Cx} {W : XW}
/-! ### arithmetic -/
def asInt : D → Option Int
  | .int i => some i
  | _ => none
def asStr : D → Option Str
  | .str x => some x
  | _ => none
def asTup : D → Option (List D)
  | .tup x => some x
  | _ => none
def asLst : D → Option (List D)
  | .lst x => some x
  | _ => none
def withO {α β : Type} (o : Option α) (f : α → M β) : M β := match o with
  | some a => f a
  | none => M.bad
theorem wpM_withO {α β : Type} {o : Option α} {f : α → M β} {st : Sto} {ok : β → Sto → Prop} {ex : Xc → Sto → Prop} (h : wpM (withO o f) st ok ex) : ∃ a, o = some a ∧ wpM (f a) st ok ex := by
  cases o with
  | none => exact h.elim
  | some a => exact ⟨a, rfl, h⟩
theorem asInt_eq {x : D} {i : Int} (h : asInt x = some i) : x = .int i := by
  cases x <;> first | (cases h; rfl) | cases h
theorem asStr_eq {x : D} {i : Str} (h : asStr x = some i) : x = .str i := by
  cases x <;> first | (cases h; rfl) | cases h
theorem asTup_eq {x : D} {i : List D} (h : asTup x = some i) : x = .tup i := by
  cases x <;> first | (cases h; rfl) | cases h
theorem asLst_eq {x : D} {i : List D} (h : asLst x = some i) : x = .lst i := by
  cases x <;> first | (cases h; rfl) | cases h
def dAdd (x y : D) : M D := match x with
  | .int i => withO (asInt y) fun j => M.pure (.int (i + j))
  | .str a => withO (asStr y) fun b => if a.length + b.length ≤ sizeLine then M.pure (.str (a ++ b)) else M.bad
  | .tup xs => withO (asTup y) fun ys => if xs.length + ys.length ≤ sizeLine then M.pure (.tup (xs ++ ys)) else M.bad
  | .lst xs => withO (asLst y) fun ys => if xs.length + ys.length ≤ sizeLine then M.pure (.lst (xs ++ ys)) else M.bad
  | .loc n => withO (asLst y) fun ys => M.bind (mGet n) fun xs => if xs.length + ys.length ≤ sizeLine then M.pure (.lst (xs ++ ys)) else M.bad
  | _ => M.bad
/-- + of two lists, whatever they are -/
theorem op_catL : OpR X (binaryOp .Add) (fun x y H Q => ∃ a b xs ys, x = .ref a ∧ y = .ref b ∧ SqL X.K H a xs ∧ SqL X.K H b ys ∧ xs.length + ys.length ≤ sizeLine ∧ ∀ p, H p = none → Q (.ref p) (upd H p (.lst (xs ++ ys)))) := by
  intro pins s σ H x y v u Q I rx ry h
  obtain ⟨a, b, xs, ys, rfl, rfl, ha, hb, hz, q⟩ := h
  cases rx
  cases ry
  obtain ⟨i1, r1, ⟨⟨c1, d1, t1, l1⟩, n1, g1, hc1, hd1, ht1⟩, _⟩ := I.list ha
  obtain ⟨i2, r2, ⟨⟨c2, d2, t2, l2⟩, n2, g2, hc2, hd2, ht2⟩, _⟩ := I.list hb
  simp only at hc1 hd1 ht1 hc2 hd2 ht2
  subst hc1 hd1 ht1 hc2 hd2 ht2
  have k1 := r1.length
  have k2 := r2.length
  refine concat_meets ⟨_, g1, rfl⟩ ⟨_, g2, rfl⟩ noFill_list_add seq_list_add PySem.F.slot_list_add PySem.F.entry_list_add (PySem.F.args_list_add_2 _ _) (list_addW a b i1.toArray i2.toArray n1 n2 none none l1 l2 (by simpa [← k1, ← k2] using hz)) ⟨g1, g2, ?_⟩
  rw [show i1.toArray ++ i2.toArray = (i1 ++ i2).toArray by simp]
  exact ⟨.ref _, _, I.lnew (t' := s.toks) (r1.append r2) (by rw [List.length_append]; exact hz), rfl, q _ I.fresh⟩
abbrev rAddA (K : PySem.W.Frag) : R2 := fun x y H Q => (rI0 fun i j => .int (i + j)) x y H Q ∨ ((∃ i j, x = .str i ∧ y = .str j ∧ i.length + j.length ≤ sizeLine ∧ Q (.str (i ++ j)) H) ∨ (rCatA K x y H Q ∨
  ∃ a b xs ys, x = .ref a ∧ y = .ref b ∧ SqL K H a xs ∧ SqL K H b ys ∧ xs.length + ys.length ≤ sizeLine ∧ ∀ p, H p = none → Q (.ref p) (upd H p (.lst (xs ++ ys)))))
theorem op_addA : OpR X (binaryOp .Add) (rAddA X.K) := op_add.or (op_add_str.or (op_catA.or op_catL))
theorem rep_str {K : PySem.W.Frag} {io : Lo} {H : Hp} {x : Str} {v : V} (h : Rep K io H (.str x) v) : v = .str x := h
theorem rep_int {K : PySem.W.Frag} {io : Lo} {H : Hp} {x : Int} {v : V} (h : Rep K io H (.int x) v) : v = .int x := h
theorem rep_bl {K : PySem.W.Frag} {io : Lo} {H : Hp} {x : Bool} {v : V} (h : Rep K io H (.bl x) v) : v = .bl x := h
theorem rep_non {K : PySem.W.Frag} {io : Lo} {H : Hp} {v : V} (h : Rep K io H .non v) : v = .non := h
theorem od_add : OpD X.K W dAdd (rAddA X.K) := by
  intro io H st x y v u Q s rx ry h
  cases x with
  | int i =>
    obtain ⟨j, e, h⟩ := wpM_withO h
    rw [asInt_eq e] at ry
    exact .inl ⟨i, j, rx, ry, h io H _ (Ext.refl _ _) s rfl⟩
  | str i =>
    obtain ⟨j, e, h⟩ := wpM_withO h
    rw [asStr_eq e] at ry
    obtain ⟨hl, h⟩ := wpM_if h
    exact .inr (.inl ⟨i, j, rx, ry, hl, h io H _ (Ext.refl _ _) s rfl⟩)
  | tup xs =>
    obtain ⟨ys, e, h⟩ := wpM_withO h
    rw [asTup_eq e] at ry
    obtain ⟨a, vs, h1, h2, h3⟩ := rx
    obtain ⟨b, us, g1, g2, g3⟩ := ry
    obtain ⟨hl, h⟩ := wpM_if h
    refine .inr (.inr (.inl ⟨a, b, vs, us, h1, g1, h2.seq, g2.seq, by rw [← h3.length, ← g3.length]; exact hl, fun e => ?_, fun e e2 => ?_, fun e e2 p hp => ?_⟩))
    · have : xs = [] := List.length_eq_zero_iff.mp (by rw [h3.length, e]; rfl)
      subst this
      exact h io H _ (Ext.refl _ _) s ⟨b, us, rfl, g2, g3⟩
    · have : ys = [] := List.length_eq_zero_iff.mp (by rw [g3.length, e2]; rfl)
      subst this
      rw [List.append_nil] at h
      exact h io H _ (Ext.refl _ _) s ⟨a, vs, rfl, h2, h3⟩
    · exact h io _ _ (ext_fresh s hp) (s.fresh hp) (fresh_tup s (h3.append g3) hp)
  | lst xs =>
    obtain ⟨ys, e, h⟩ := wpM_withO h
    rw [asLst_eq e] at ry
    obtain ⟨a, vs, h1, h2, h3⟩ := rx
    obtain ⟨b, us, g1, g2, g3⟩ := ry
    obtain ⟨hl, h⟩ := wpM_if h
    refine .inr (.inr (.inr ⟨a, b, vs, us, h1, g1, h2.seq, g2.seq, by rw [← h3.length, ← g3.length]; exact hl, fun p hp => ?_⟩))
    exact h io _ _ (ext_fresh s hp) (s.fresh hp) (fresh_lst s (h3.append g3) hp)
  | loc n =>
    obtain ⟨ys, e, h⟩ := wpM_withO h
    rw [asLst_eq e] at ry
    obtain ⟨a, h1, h2⟩ := rx
    obtain ⟨b, us, g1, g2, g3⟩ := ry
    obtain ⟨xs, hx, h⟩ := wpM_get h
    obtain ⟨hl, h⟩ := wpM_if h
    obtain ⟨a', vs, h4, h5, h3⟩ := s.here n xs hx
    rw [h2] at h4; cases h4
    refine .inr (.inr (.inr ⟨a, b, vs, us, h1, g1, SqL.of h5, g2.seq, by rw [← h3.length, ← g3.length]; exact hl, fun p hp => ?_⟩))
    exact h io _ _ (ext_fresh s hp) (s.fresh hp) (fresh_lst s (h3.append g3) hp)
  | non => exact h.elim
  | bl b => exact h.elim
def int2 (x y : D) (f : Int → Int → M D) : M D := withO (asInt x) fun i => withO (asInt y) fun j => f i j
theorem wpM_int2 {x y : D} {f : Int → Int → M D} {st : Sto} {ok : D → Sto → Prop} {ex : Xc → Sto → Prop} (h : wpM (int2 x y f) st ok ex) : ∃ i j, x = .int i ∧ y = .int j ∧ wpM (f i j) st ok ex := by
  obtain ⟨i, e1, h⟩ := wpM_withO h
  obtain ⟨j, e2, h⟩ := wpM_withO h
  exact ⟨i, j, asInt_eq e1, asInt_eq e2, h⟩
def dInt2 (C : Int → Int → Prop) [∀ i j, Decidable (C i j)] (g : Int → Int → Int) (x y : D) : M D := int2 x y fun i j => if C i j then M.pure (.int (g i j)) else M.bad
theorem od_int2 {C : Int → Int → Prop} [∀ i j, Decidable (C i j)] {g : Int → Int → Int} : OpD X.K W (dInt2 C g) (rI C fun i j => .int (g i j)) := by
  intro io H st x y v u Q s rx ry h
  obtain ⟨i, j, rfl, rfl, h⟩ := wpM_int2 h
  obtain ⟨hl, h⟩ := wpM_if h
  exact ⟨i, j, rx, ry, hl, h io H _ (Ext.refl _ _) s rfl⟩
def dSub (x y : D) : M D := int2 x y fun i j => M.pure (.int (i - j))
theorem od_sub : OpD X.K W dSub (rI0 fun i j => .int (i - j)) := by
  intro io H st x y v u Q s rx ry h
  obtain ⟨i, j, rfl, rfl, h⟩ := wpM_int2 h
  exact ⟨i, j, rx, ry, h io H _ (Ext.refl _ _) s rfl⟩
abbrev mulC (i j : Int) : Prop := i.natAbs < 2 ^ 64 ∨ j.natAbs < 2 ^ 64 ∨ i.natAbs.log2 + j.natAbs.log2 < 1000000
theorem op_mulA : OpR X (binaryOp .Mult) (rI mulC fun i j => .int (i * j)) := opI fun i j _ _ _ _ _ hc q => mul_int q (by
  rcases hc with h | h | h
  · exact CMul.ok (.inl (by omega))
  · exact CMul.ok (.inr (by omega))
  · exact CMulW.ok h)
def dMul : D → D → M D := dInt2 mulC fun i j => i * j
abbrev powC (i j : Int) : Prop := 0 ≤ j ∧ (Builtin.Int.intBits i : Int) * j ≤ 2 ^ 27
theorem op_powA : OpR X (binaryOp .Pow) (rI powC fun i j => .int (i ^ j.toNat)) := opI fun i j _ _ _ _ _ hc q => pow_int hc.1 hc.2 q
def dPow : D → D → M D := dInt2 powC fun i j => i ^ j.toNat
def dMod : D → D → M D := dInt2 (fun _ j => 0 < j) fun i j => i % j
abbrev divC (_ j : Int) : Prop := 0 < j ∧ j.natAbs.log2 < 9000
def dDiv : D → D → M D := dInt2 divC fun i j => i / j
theorem op_divA : OpR X (binaryOp .FloorDiv) (rI divC fun i j => .int (i / j)) := op_fdivW
def dNeg (x : D) : M D := withO (asInt x) fun i => M.pure (.int (-i))
theorem ud_neg : UnD X.K W dNeg (rU fun i => .int (-i)) := by
  intro io H st x v Q s rx h
  obtain ⟨i, e, h⟩ := wpM_withO h
  rw [asInt_eq e] at rx
  exact ⟨i, rx, h io H _ (Ext.refl _ _) s rfl⟩
section
variable {a b : Expr} {ma mb : EM} {pos : Pos}
theorem k_add (ha : PE X a (rdE X.K W ma)) (hb : PE X b (rdE X.K W mb)) : PE X (.BinOp a .Add b pos) (rdE X.K W (eBin dAdd ma mb)) := k_op op_addA od_add ha hb
theorem k_sub (ha : PE X a (rdE X.K W ma)) (hb : PE X b (rdE X.K W mb)) : PE X (.BinOp a .Sub b pos) (rdE X.K W (eBin dSub ma mb)) := k_op op_sub od_sub ha hb
theorem k_mul (ha : PE X a (rdE X.K W ma)) (hb : PE X b (rdE X.K W mb)) : PE X (.BinOp a .Mult b pos) (rdE X.K W (eBin dMul ma mb)) := k_op op_mulA od_int2 ha hb
theorem k_pow (ha : PE X a (rdE X.K W ma)) (hb : PE X b (rdE X.K W mb)) : PE X (.BinOp a .Pow b pos) (rdE X.K W (eBin dPow ma mb)) := k_op op_powA od_int2 ha hb
theorem k_mod (ha : PE X a (rdE X.K W ma)) (hb : PE X b (rdE X.K W mb)) : PE X (.BinOp a .Mod b pos) (rdE X.K W (eBin dMod ma mb)) := k_op op_mod od_int2 ha hb
theorem k_div (ha : PE X a (rdE X.K W ma)) (hb : PE X b (rdE X.K W mb)) : PE X (.BinOp a .FloorDiv b pos) (rdE X.K W (eBin dDiv ma mb)) := k_op op_divA od_int2 ha hb
theorem k_neg (ha : PE X a (rdE X.K W ma)) : PE X (.UnaryOp .USub a pos) (rdE X.K W (eUn dNeg ma)) := k_un un_neg ud_neg ha
end

/-! ### comparisons -/
def sc : D → Option V
  | .non => some .non
  | .bl b => some (.bl b)
  | .int i => some (.int i)
  | .str x => some (.str x)
  | _ => none
theorem sc_rep {K : PySem.W.Frag} {io : Lo} {H : Hp} {x : D} {v u : V} (r : Rep K io H x v) (h : sc x = some u) : v = u := by
  cases x with
  | non => cases h; exact r
  | bl _ => cases h; exact r
  | int _ => cases h; exact r
  | str _ => cases h; exact r
  | tup _ => cases h
  | lst _ => cases h
  | loc _ => cases h
def eqGen (x y : D) : Option Bool := (toPy x).bind fun p => (toPy y).bind fun q => if SeqAt.shaped p = true ∧ SeqAt.shaped q = true then some (PyData.eqv p q) else none
def dEqB (x y : D) : Option Bool := match sc x, sc y with
  | some v, some u => if scal v u = true then some (decide (v = u)) else eqGen x y
  | _, _ => eqGen x y
def dEq (x y : D) : M D := M.bind (M.ofO (dEqB x y)) fun b => M.pure (.bl b)
def dNe (x y : D) : M D := M.bind (M.ofO (dEqB x y)) fun b => M.pure (.bl !b)
theorem dEqB_ok {K : PySem.W.Frag} {io : Lo} {H : Hp} {x y : D} {v u : V} {b : Bool} (rx : Rep K io H x v) (ry : Rep K io H y u) (h : dEqB x y = some b) :
    (scal v u = true ∧ decide (v = u) = b) ∨ ∃ d e, Dp K H v d ∧ Dp K H u e ∧ SeqAt.shaped d = true ∧ SeqAt.shaped e = true ∧ PyData.eqv d e = b := by
  have gen : eqGen x y = some b → ∃ d e, Dp K H v d ∧ Dp K H u e ∧ SeqAt.shaped d = true ∧ SeqAt.shaped e = true ∧ PyData.eqv d e = b := fun h => by
    unfold eqGen at h
    cases z1 : toPy x with
    | none => rw [z1] at h; cases h
    | some p =>
      cases z2 : toPy y with
      | none => rw [z1, z2] at h; cases h
      | some q =>
        rw [z1, z2] at h
        have h : (if SeqAt.shaped p = true ∧ SeqAt.shaped q = true then some (PyData.eqv p q) else none) = some b := h
        by_cases c : SeqAt.shaped p = true ∧ SeqAt.shaped q = true
        · rw [if_pos c] at h
          exact ⟨p, q, dp_of x v p rx z1, dp_of y u q ry z2, c.1, c.2, Option.some.inj h⟩
        · rw [if_neg c] at h; cases h
  unfold dEqB at h
  cases z1 : sc x with
  | none => rw [z1] at h; exact .inr (gen h)
  | some v' =>
    cases z2 : sc y with
    | none => rw [z1, z2] at h; exact .inr (gen h)
    | some u' =>
      rw [z1, z2] at h
      have h : (if scal v' u' = true then some (decide (v' = u')) else eqGen x y) = some b := h
      by_cases c : scal v' u' = true
      · rw [if_pos c] at h
        rw [sc_rep rx z1, sc_rep ry z2]
        exact .inl ⟨c, Option.some.inj h⟩
      · rw [if_neg c] at h
        exact .inr (gen h)
abbrev rEqA (K : PySem.W.Frag) : R2 := fun x y H Q => rEq x y H Q ∨ rEqD K x y H Q
abbrev rNeA (K : PySem.W.Frag) : R2 := fun x y H Q => rNe x y H Q ∨ rNeD K x y H Q
theorem op_eqA (hr : X.A.units + 64 < cLine) : OpR X (compareOp .Eq) (rEqA X.K) := op_eq.or (op_eqD hr)
theorem op_neA (hr : X.A.units + 64 < cLine) : OpR X (compareOp .NotEq) (rNeA X.K) := op_ne.or (op_neD hr)
theorem od_eq : OpD X.K W dEq (rEqA X.K) := by
  intro io H st x y v u Q s rx ry h
  obtain ⟨b, hb, h⟩ := wpM_ofO (wpM_bind h)
  have q : Q (.bl b) H := h io H _ (Ext.refl _ _) s rfl
  rcases dEqB_ok rx ry hb with ⟨h1, h2⟩ | ⟨d, e, h1, h2, h3, h4, h5⟩
  · exact .inl ⟨h1, by rw [h2]; exact q⟩
  · exact .inr ⟨d, e, h1, h2, h3, h4, by rw [h5]; exact q⟩
theorem od_ne : OpD X.K W dNe (rNeA X.K) := by
  intro io H st x y v u Q s rx ry h
  obtain ⟨b, hb, h⟩ := wpM_ofO (wpM_bind h)
  have q : Q (.bl !b) H := h io H _ (Ext.refl _ _) s rfl
  rcases dEqB_ok rx ry hb with ⟨h1, h2⟩ | ⟨d, e, h1, h2, h3, h4, h5⟩
  · exact .inl ⟨h1, by rw [h2]; exact q⟩
  · exact .inr ⟨d, e, h1, h2, h3, h4, by rw [h5]; exact q⟩
def dCmpI (g : Int → Int → Bool) (x y : D) : M D := int2 x y fun i j => M.pure (.bl (g i j))
theorem od_cmpI {g : Int → Int → Bool} : OpD X.K W (dCmpI g) (rI0 fun i j => .bl (g i j)) := by
  intro io H st x y v u Q s rx ry h
  obtain ⟨i, j, rfl, rfl, h⟩ := wpM_int2 h
  exact ⟨i, j, rx, ry, h io H _ (Ext.refl _ _) s rfl⟩
abbrev dLt := dCmpI fun i j => decide (i < j)
abbrev dLe := dCmpI fun i j => decide (i ≤ j)
abbrev dGt := dCmpI fun i j => decide (j < i)
abbrev dGe := dCmpI fun i j => decide (j ≤ i)
def isNon : D → Bool
  | .non => true
  | _ => false
def dIsN (x y : D) : M D := if isNon y = true then M.pure (.bl (isNon x)) else M.bad
def dNotN (x y : D) : M D := if isNon y = true then M.pure (.bl (!isNon x)) else M.bad
theorem isNon_ok {K : PySem.W.Frag} {io : Lo} {H : Hp} {x : D} {v : V} (r : Rep K io H x v) : decide (v = .non) = isNon x := by
  cases x with
  | tup ds => obtain ⟨a, xs, h, _⟩ := r; subst h; rfl
  | lst ds => obtain ⟨a, xs, h, _⟩ := r; subst h; rfl
  | loc n => obtain ⟨a, h, _⟩ := r; subst h; rfl
  | _ => rw [show v = _ from r]; rfl
theorem od_isN : OpD X.K W dIsN (fun x y H Q => y = .non ∧ Q (.bl (decide (x = .non))) H) := by
  intro io H st x y v u Q s rx ry h
  obtain ⟨c, h⟩ := wpM_if h
  cases y with
  | non => exact ⟨ry, by rw [isNon_ok rx]; exact h io H _ (Ext.refl _ _) s rfl⟩
  | _ => cases c
theorem od_notN : OpD X.K W dNotN (fun x y H Q => y = .non ∧ Q (.bl (!decide (x = .non))) H) := by
  intro io H st x y v u Q s rx ry h
  obtain ⟨c, h⟩ := wpM_if h
  cases y with
  | non => exact ⟨ry, by rw [isNon_ok rx]; exact h io H _ (Ext.refl _ _) s rfl⟩
  | _ => cases c
end
end KT

/-! Kt7: membership, subscripts, slices, built-in functions, methods. -/
namespace KT
open PySem PySem.Spec L2
open PyProof.Rows hiding St
section
variable {X : Cx} {W : XW}

/-! ### what has items -/
/-- the items of a tuple, of a list -/
def itemsM (x : D) : M (List D) := match x with
  | .tup ds => M.pure ds
  | .lst ds => M.pure ds
  | .loc n => mGet n
  | _ => M.bad
theorem wpM_items {β : Type} {K : PySem.W.Frag} {io : Lo} {H : Hp} {x : D} {v : V} {f : List D → M β} {st : Sto} {ok : β → Sto → Prop} {ex : Xc → Sto → Prop} (s : SR K io H st) (r : Rep K io H x v) (h : wpM (M.bind (itemsM x) f) st ok ex) :
    ∃ ds a vs, v = .ref a ∧ (SqL K H a vs ∨ SqT K H a vs) ∧ RepL K io H ds vs ∧ wpM (f ds) st ok ex := by
  cases x with
  | tup ds => obtain ⟨a, vs, h1, h2, h3⟩ := r; exact ⟨ds, a, vs, h1, .inr h2.seq, h3, h⟩
  | lst ds => obtain ⟨a, vs, h1, h2, h3⟩ := r; exact ⟨ds, a, vs, h1, .inl h2.seq, h3, h⟩
  | loc n =>
    obtain ⟨a, h1, h2⟩ := r
    obtain ⟨ds, hd, h⟩ := wpM_get h
    obtain ⟨b, vs, h4, h5, h6⟩ := s.here n ds hd
    rw [h2] at h4; cases h4
    exact ⟨ds, a, vs, h1, .inl (SqL.of h5), h6, h⟩
  | non => exact h.elim
  | bl _ => exact h.elim
  | int _ => exact h.elim
  | str _ => exact h.elim
/-- .. of a list alone -/
def listM (x : D) : M (List D) := match x with
  | .lst ds => M.pure ds
  | .loc n => mGet n
  | _ => M.bad
theorem wpM_list {β : Type} {K : PySem.W.Frag} {io : Lo} {H : Hp} {x : D} {v : V} {f : List D → M β} {st : Sto} {ok : β → Sto → Prop} {ex : Xc → Sto → Prop} (s : SR K io H st) (r : Rep K io H x v) (h : wpM (M.bind (listM x) f) st ok ex) :
    ∃ ds a vs, v = .ref a ∧ SqL K H a vs ∧ RepL K io H ds vs ∧ wpM (f ds) st ok ex := by
  cases x with
  | lst ds => obtain ⟨a, vs, h1, h2, h3⟩ := r; exact ⟨ds, a, vs, h1, h2.seq, h3, h⟩
  | loc n =>
    obtain ⟨a, h1, h2⟩ := r
    obtain ⟨ds, hd, h⟩ := wpM_get h
    obtain ⟨b, vs, h4, h5, h6⟩ := s.here n ds hd
    rw [h2] at h4; cases h4
    exact ⟨ds, a, vs, h1, SqL.of h5, h6, h⟩
  | tup _ => exact h.elim
  | non => exact h.elim
  | bl _ => exact h.elim
  | int _ => exact h.elim
  | str _ => exact h.elim

/-! ### subscripts -/
def dIx (o i : D) : M D := withO (asInt i) fun k => match o with
  | .str z => if z.length ≤ sizeLine then M.bind (M.ofO (atI z.cps.toList k)) fun c => M.pure (.str ⟨#[c]⟩) else M.bad
  | o => M.bind (itemsM o) fun ds => M.ofO (atI ds k)
theorem atI_rep {K : PySem.W.Frag} {io : Lo} {H : Hp} {ds : List D} {vs : List V} {k : Int} {d : D} (r : RepL K io H ds vs) (h : atI ds k = some d) : ∃ v, atI vs k = some v ∧ Rep K io H d v := by
  unfold atI at *
  rw [← r.length]
  cases z : ixN ds.length k with
  | none => rw [z] at h; cases h
  | some j =>
    rw [z] at h
    exact r.get h
theorem od_ix : OpD X.K W dIx (rIx X.K) := by
  intro io H st x y v u Q s rx ry h
  obtain ⟨k, e, h⟩ := wpM_withO h
  rw [asInt_eq e] at ry
  have gen : wpM (M.bind (itemsM x) fun ds => M.ofO (atI ds k)) st (afE X.K io H Q) (afX X.K io H W) → rIx X.K v u H Q := fun h => by
    obtain ⟨ds, a, vs, h1, h2, h3, h⟩ := wpM_items s rx h
    obtain ⟨d, hd, h⟩ := wpM_ofO h
    obtain ⟨w, h4, h5⟩ := atI_rep h3 hd
    have q := h io H w (Ext.refl _ _) s h5
    rcases h2 with h2 | h2
    · exact .inl ⟨a, vs, k, w, h1, ry, h2, h4, q⟩
    · exact .inr (.inl ⟨a, vs, k, w, h1, ry, h2, h4, q⟩)
  cases x with
  | str z =>
    obtain ⟨hl, h⟩ := wpM_if h
    obtain ⟨c, hc, h⟩ := wpM_ofO (wpM_bind h)
    exact .inr (.inr ⟨z, k, c, rx, ry, hl, hc, h io H _ (Ext.refl _ _) s rfl⟩)
  | tup ds => exact gen h
  | lst ds => exact gen h
  | loc n => exact gen h
  | non => exact gen h
  | bl _ => exact gen h
  | int _ => exact gen h
theorem k_item {a b : Expr} {ma mb : EM} {pos : Pos} (ha : PE X a (rdE X.K W ma)) (hb : PE X b (rdE X.K W mb)) (hs : PlainIx b := by exact fun _ _ => rfl) : PE X (.Subscript a b pos) (rdE X.K W (eBin dIx ma mb)) := k_ix ix_seq od_ix ha hb hs
/-- xs[i] = d -/
def dSetIx (o i d : D) : M Unit := withO (asInt i) fun k => match o with
  | .loc n => M.bind (mGet n) fun ds => withO (ixN ds.length k) fun j => fun st => .ok () (st.set n (.lst (ds.set j d)))
  | _ => M.bad
theorem sd_set : SetD X.K W dSetIx rSetL := by
  intro io H st x y d v u w Q s rx ry rd h
  obtain ⟨k, e, h⟩ := wpM_withO h
  rw [asInt_eq e] at ry
  cases x with
  | loc n =>
    obtain ⟨a, h1, h2⟩ := rx
    obtain ⟨ds, hd, h⟩ := wpM_get h
    obtain ⟨j, hj, h⟩ := wpM_withO h
    obtain ⟨b, vs, h4, h5, h6⟩ := s.here n ds hd
    rw [h2] at h4; cases h4
    refine ⟨a, vs, k, j, h1, ry, h5, by rw [← h6.length]; exact hj, ?_⟩
    exact h io _ (ext_put s h2) (s.put h2 (h6.set rd j))
  | str z => exact h.elim
  | tup ds => exact h.elim
  | lst ds => exact h.elim
  | non => exact h.elim
  | bl _ => exact h.elim
  | int _ => exact h.elim
theorem kg_set {o i : Expr} {mo mi : EM} {pos : Pos} (ho : PE X o (rdE X.K W mo)) (hi : PE X i (rdE X.K W mi))
    (ha : ∀ v, assign (.Subscript o i pos) X.env v = (do
      let ov ← holding [v] (eval o X.env)
      let iv ← holding [v, ov] (eval i X.env)
      standAt pos
      holding [v, ov, iv] (setItem ov iv v)
      release [v, ov, iv] []) := by intro _; rfl) : PG X (.Subscript o i pos) (rdG X.K W (gSubD mo mi dSetIx)) := kg_sub set_list sd_set ho hi ha

/-! ### slices -/
abbrev OM := En → M (Option Int)
def rdO (K : PySem.W.Frag) (W : XW) (m : OM) : TO := fun σ H Q => ∃ io ρ st, SR K io H st ∧ EnvR K io H σ ρ ∧ wpM (m ρ) st (fun o st' => ∀ io' H', Ext io H io' H' → SR K io' H' st' → Q o H') (afX K io H W)
def oNone : OM := fun _ => M.pure none
def oSome (e : EM) : OM := fun ρ => M.bind (e ρ) fun d => withO (asInt d) fun i => M.pure (some i)
theorem PO.imp {e : Option Expr} {t t' : TO} (h : PO X e t) (q : ∀ σ H Q, t' σ H Q → t σ H Q) : PO X e t' := ⟨fun pins s σ H Q I z => h.run pins s σ H Q I (q σ H Q z)⟩
theorem ko_none : PO X none (rdO X.K W oNone) := PO.imp po_none fun σ H Q h => by
  obtain ⟨io, ρ, st, s, e, h⟩ := h
  exact h io H (Ext.refl _ _) s
theorem ko_some {e : Expr} {m : EM} (he : PE X e (rdE X.K W m)) : PO X (some e) (rdO X.K W (oSome m)) := PO.imp (po_some he) fun σ H Q h => by
  obtain ⟨io, ρ, st, s, e, h⟩ := h
  refine rdE.step (f := fun _ d => withO (asInt d) fun i => M.pure (some i)) s e h fun io1 H1 v d st1 x1 s1 e1 r1 h1 => ?_
  obtain ⟨i, hi, h1⟩ := wpM_withO h1
  rw [asInt_eq hi] at r1
  exact ⟨i, r1, h1 io1 H1 x1 s1⟩
def cutD (xs : List D) (lo hi : Option Int) : List D := (xs.drop (HT.sIx xs.length 0 lo)).take (HT.sIx xs.length xs.length hi - HT.sIx xs.length 0 lo)
theorem cut_rep {K : PySem.W.Frag} {io : Lo} {H : Hp} {ds : List D} {vs : List V} (r : RepL K io H ds vs) (lo hi : Option Int) : RepL K io H (cutD ds lo hi) (cutV vs lo hi) := by
  unfold cutD cutV
  rw [r.length]
  exact (r.drop _).take _
def eSl (e : EM) (lo hi : OM) (f : D → Option Int → Option Int → M D) : EM := fun ρ => M.bind (e ρ) fun d => M.bind (lo ρ) fun l => M.bind (hi ρ) fun u => f d l u
def SlD (K : PySem.W.Frag) (W : XW) (f : D → Option Int → Option Int → M D) (r : V → Option Int → Option Int → Hp → VK → Prop) : Prop := ∀ (io : Lo) (H : Hp) (st : Sto) (x : D) (v : V) (l u : Option Int) (Q : VK), SR K io H st → Rep K io H x v → wpM (f x l u) st (afE K io H Q) (afX K io H W) → r v l u H Q
theorem rdO.step {m : OM} {β : Type} {f : En → Option Int → M β} {io : Lo} {ρ : En} {st : Sto} {ok : β → Sto → Prop} {K : PySem.W.Frag} {σ : St} {H : Hp} {Q : Option Int → Hp → Prop} (s : SR K io H st) (r : EnvR K io H σ ρ)
    (h : wpM (M.bind (m ρ) (f ρ)) st ok (afX K io H W))
    (q : ∀ io' H' o st', Ext io H io' H' → SR K io' H' st' → EnvR K io' H' σ ρ → wpM (f ρ o) st' ok (afX K io' H' W) → Q o H') : rdO K W m σ H Q :=
  ⟨io, ρ, st, s, r, wpM_mono (wpM_bind h) (fun o st' z io' H' e s' => q io' H' o st' e s' (r.mono e.mon) (wpM_mono z (fun _ _ y => y) fun _ _ y => y.trans e)) fun _ _ z => z⟩
theorem k_slice {e : Expr} {lo hi : Option Expr} {me : EM} {ml mh : OM} {r : V → Option Int → Option Int → Hp → VK → Prop} {f : D → Option Int → Option Int → M D} {p2 pos : Pos} (hr : SlR X r) (o : SlD X.K W f r) (he : PE X e (rdE X.K W me)) (hl : PO X lo (rdO X.K W ml)) (hh : PO X hi (rdO X.K W mh)) :
    PE X (.Subscript e (.Slice lo hi none p2) pos) (rdE X.K W (eSl me ml mh f)) := PE.imp (pe_slice hr he hl hh) fun σ H Q h => by
  obtain ⟨io, ρ, st, s, e, h⟩ := h
  refine rdE.step (f := fun ρ d => M.bind (ml ρ) fun l => M.bind (mh ρ) fun u => f d l u) s e h fun io1 H1 v d st1 x1 s1 e1 r1 h1 => ?_
  refine rdO.step (f := fun ρ l => M.bind (mh ρ) fun u => f d l u) s1 e1 h1 fun io2 H2 l st2 x2 s2 e2 h2 => ?_
  refine rdO.step (f := fun ρ u => f d l u) s2 e2 h2 fun io3 H3 u st3 x3 s3 e3 h3 => ?_
  exact o io3 H3 st3 d v l u Q s3 ((r1.mono x2.mon).mono x3.mon) (wpM_afE ((x1.trans x2).trans x3) h3)
/-- a tuple's part -/
def dSlT (x : D) (l u : Option Int) : M D := withO (asTup x) fun ds => M.pure (.tup (cutD ds l u))
theorem sl_T : SlD X.K W dSlT (rSlA X.K) := by
  intro io H st x v l u Q s rx h
  obtain ⟨ds, e, h⟩ := wpM_withO h
  rw [asTup_eq e] at rx
  obtain ⟨a, vs, h1, h2, h3⟩ := rx
  refine ⟨a, vs, h1, h2.seq, fun hw => ?_, fun _ p hp => ?_⟩
  · refine h io H (.ref a) (Ext.refl _ _) s ⟨a, vs, rfl, h2, ?_⟩
    have e2 : cutD ds l u = ds := by
      unfold cutD
      rw [h3.length, hw.1, hw.2, List.drop_zero, Nat.sub_zero, ← h3.length]
      exact List.take_length
    rw [e2]; exact h3
  · exact h io _ _ (ext_fresh s hp) (s.fresh hp) (fresh_tup s (cut_rep h3 l u) hp)
/-- a list's part -/
def dSlL (x : D) (l u : Option Int) : M D := M.bind (listM x) fun ds => M.pure (.lst (cutD ds l u))
theorem sl_L : SlD X.K W dSlL (rSlL X.K) := by
  intro io H st x v l u Q s rx h
  obtain ⟨ds, a, vs, h1, h2, h3, h⟩ := wpM_list s rx h
  exact ⟨a, vs, h1, h2, fun p hp => h io _ _ (ext_fresh s hp) (s.fresh hp) (fresh_lst s (cut_rep h3 l u) hp)⟩
theorem k_slT {e : Expr} {lo hi : Option Expr} {me : EM} {ml mh : OM} {p2 pos : Pos} (he : PE X e (rdE X.K W me)) (hl : PO X lo (rdO X.K W ml)) (hh : PO X hi (rdO X.K W mh)) : PE X (.Subscript e (.Slice lo hi none p2) pos) (rdE X.K W (eSl me ml mh dSlT)) := k_slice sl_tupA sl_T he hl hh
theorem k_slL {e : Expr} {lo hi : Option Expr} {me : EM} {ml mh : OM} {p2 pos : Pos} (he : PE X e (rdE X.K W me)) (hl : PO X lo (rdO X.K W ml)) (hh : PO X hi (rdO X.K W mh)) : PE X (.Subscript e (.Slice lo hi none p2) pos) (rdE X.K W (eSl me ml mh dSlL)) := k_slice sl_list sl_L he hl hh
/-- xs[::-1] -/
def dRev (x : D) : M D := M.bind (listM x) fun ds => M.pure (.lst ds.reverse)
theorem k_rev {e : Expr} {me : EM} {k : Nat} {p1 p2 p3 pos : Pos} (he : PE X e (rdE X.K W me)) : PE X (.Subscript e (.Slice none none (some (.UnaryOp .USub (.Constant (.int 1) k p1) p2)) p3) pos) (rdE X.K W (eUn dRev me)) := PE.imp (pe_revL he) fun σ H Q h => by
  obtain ⟨io, ρ, st, s, e, h⟩ := h
  refine rdE.step (f := fun ρ x => dRev x) s e h fun io1 H1 v d st1 x1 s1 e1 r1 h1 => ?_
  obtain ⟨ds, a, vs, h2, h3, h4, h1⟩ := wpM_list s1 r1 h1
  exact ⟨a, vs, h2, h3, fun p hp => h1 io1 _ _ (x1.trans (ext_fresh s1 hp)) (s1.fresh hp) (fresh_lst s1 h4.reverse hp)⟩

/-! ### in, not in -/
def memD (neg : Bool) (x y : D) : M D := withO (sc x) fun v => M.bind (itemsM y) fun ds => withO (ds.mapM sc) fun vs => M.pure (.bl (if neg then !inV v vs else inV v vs))
theorem flat_sc {x : D} {v : V} (h : sc x = some v) : flatV v = true := by
  cases x <;> first | (cases h; rfl) | cases h
theorem mapM_sc {K : PySem.W.Frag} {io : Lo} {H : Hp} : ∀ {ds : List D} {vs us : List V}, RepL K io H ds vs → ds.mapM sc = some us → vs = us ∧ us.all flatV = true
  | [], vs, us, r, h => by
    have r : vs = _ := r
    subst r
    rw [List.mapM_nil] at h; cases h; exact ⟨rfl, rfl⟩
  | d :: ds, _, us, ⟨v, r, h1, h2, h3⟩, h => by
    subst h1
    rw [List.mapM_cons] at h
    cases z : sc d with
    | none => rw [z] at h; cases h
    | some w =>
      cases z2 : ds.mapM sc with
      | none => rw [z, z2] at h; cases h
      | some ws =>
        rw [z, z2] at h
        cases h
        obtain ⟨e1, e2⟩ := mapM_sc h3 z2
        rw [sc_rep h2 z, e1, List.all_cons, flat_sc z, e2]
        exact ⟨rfl, rfl⟩
theorem od_mem {neg : Bool} : OpD X.K W (memD neg) (rIn X.K neg) := by
  intro io H st x y v u Q s rx ry h
  obtain ⟨w, e, h⟩ := wpM_withO h
  obtain ⟨ds, a, vs, h1, h2, h3, h⟩ := wpM_items s ry h
  obtain ⟨us, e2, h⟩ := wpM_withO h
  obtain ⟨rfl, hf⟩ := mapM_sc h3 e2
  rw [sc_rep rx e]
  exact ⟨a, vs, h1, h2, flat_sc e, hf, h io H _ (Ext.refl _ _) s rfl⟩
section
variable {a b : Expr} {ma mb : EM} {pos : Pos}
theorem k_in (ha : PE X a (rdE X.K W ma)) (hb : PE X b (rdE X.K W mb)) (hm : behindInMarks .In b = false := by rfl) : PE X (.Compare a [.In] [b] pos) (rdE X.K W (eBin (memD false) ma mb)) := k_cmp op_in_seq od_mem ha hb hm
theorem k_nin (ha : PE X a (rdE X.K W ma)) (hb : PE X b (rdE X.K W mb)) (hm : behindInMarks .NotIn b = false := by rfl) : PE X (.Compare a [.NotIn] [b] pos) (rdE X.K W (eBin (memD true) ma mb)) := k_cmp op_notIn_seq od_mem ha hb hm
theorem kt_in (ha : PE X a (rdE X.K W ma)) (hb : PE X b (rdE X.K W mb)) (hm : behindInMarks .In b = false := by rfl) : PT X (.Compare a [.In] [b] pos) (rdT X.K W (tVal (eBin (memD false) ma mb))) := kt_cmp op_in_seq od_mem ha hb hm
theorem kt_nin (ha : PE X a (rdE X.K W ma)) (hb : PE X b (rdE X.K W mb)) (hm : behindInMarks .NotIn b = false := by rfl) : PT X (.Compare a [.NotIn] [b] pos) (rdT X.K W (tVal (eBin (memD true) ma mb))) := kt_cmp op_notIn_seq od_mem ha hb hm
end
/-- a sign in a text -/
def signD (neg : Bool) (x y : D) : M D := withO (asStr x) fun a => withO (asStr y) fun z => match a.cps.toList with
  | [c] => M.pure (.bl (if neg then !decide (c ∈ z.cps.toList) else decide (c ∈ z.cps.toList)))
  | _ => M.bad
theorem od_sign (neg : Bool) : OpD X.K W (signD neg) (fun x y H Q => ∃ (c : Nat) (z : Str), x = .str ⟨#[c]⟩ ∧ y = .str z ∧ Q (.bl (if neg then !decide (c ∈ z.cps.toList) else decide (c ∈ z.cps.toList))) H) := by
  intro io H st x y v u Q s rx ry h
  obtain ⟨a, e, h⟩ := wpM_withO h
  obtain ⟨z, e2, h⟩ := wpM_withO h
  rw [asStr_eq e] at rx
  rw [asStr_eq e2] at ry
  obtain ⟨l, hl⟩ : ∃ l, a.cps.toList = l := ⟨_, rfl⟩
  have h' : wpM (match l with
    | [c] => M.pure (.bl (if neg then !decide (c ∈ z.cps.toList) else decide (c ∈ z.cps.toList)))
    | _ => M.bad) st (afE X.K io H Q) (afX X.K io H W) := by rw [← hl]; exact h
  cases l with
  | nil => exact h'.elim
  | cons c r =>
    cases r with
    | cons _ _ => exact h'.elim
    | nil =>
      have ea : a = ⟨#[c]⟩ := by
        obtain ⟨cp⟩ := a
        have : cp = #[c] := by
          apply Array.toList_inj.mp
          exact hl
        rw [this]
      rw [ea] at rx
      exact ⟨c, z, rx, ry, h' io H _ (Ext.refl _ _) s rfl⟩
section
variable {a b : Expr} {ma mb : EM} {pos : Pos}
theorem k_insign (ha : PE X a (rdE X.K W ma)) (hb : PE X b (rdE X.K W mb)) (hm : behindInMarks .In b = false := by rfl) : PE X (.Compare a [.In] [b] pos) (rdE X.K W (eBin (signD false) ma mb)) := k_cmp op_in_sign (od_sign false) ha hb hm
theorem k_ninsign (ha : PE X a (rdE X.K W ma)) (hb : PE X b (rdE X.K W mb)) (hm : behindInMarks .NotIn b = false := by rfl) : PE X (.Compare a [.NotIn] [b] pos) (rdE X.K W (eBin (signD true) ma mb)) := k_cmp op_notIn_sign (od_sign true) ha hb hm
end

/-! ### built-in functions -/
def f1 (f : D → M D) : List D → M D
  | [x] => f x
  | _ => M.bad
theorem wpM_f1 {f : D → M D} {xs : List D} {st : Sto} {ok : D → Sto → Prop} {ex : Xc → Sto → Prop} (h : wpM (f1 f xs) st ok ex) : ∃ x, xs = [x] ∧ wpM (f x) st ok ex := by
  cases xs with
  | nil => exact h.elim
  | cons x r =>
    cases r with
    | nil => exact ⟨x, rfl, h⟩
    | cons _ _ => exact h.elim
theorem repL_1 {K : PySem.W.Frag} {io : Lo} {H : Hp} {x : D} {vs : List V} (r : RepL K io H [x] vs) : ∃ v, vs = [v] ∧ Rep K io H x v := by
  obtain ⟨v, t, h1, h2, h3⟩ := r
  have h3 : t = _ := h3
  subst h3
  exact ⟨v, h1, h2⟩
def f2 (f : D → D → M D) : List D → M D
  | [x, y] => f x y
  | _ => M.bad
theorem wpM_f2 {f : D → D → M D} {xs : List D} {st : Sto} {ok : D → Sto → Prop} {ex : Xc → Sto → Prop} (h : wpM (f2 f xs) st ok ex) : ∃ x y, xs = [x, y] ∧ wpM (f x y) st ok ex := by
  cases xs with
  | nil => exact h.elim
  | cons x r =>
    cases r with
    | nil => exact h.elim
    | cons y r =>
      cases r with
      | nil => exact ⟨x, y, rfl, h⟩
      | cons _ _ => exact h.elim
theorem repL_2 {K : PySem.W.Frag} {io : Lo} {H : Hp} {x y : D} {vs : List V} (r : RepL K io H [x, y] vs) : ∃ v u, vs = [v, u] ∧ Rep K io H x v ∧ Rep K io H y u := by
  obtain ⟨v, t, h1, h2, h3⟩ := r
  obtain ⟨u, h4, h5⟩ := repL_1 h3
  subst h4
  exact ⟨v, u, h1, h2, h5⟩
def dLen (x : D) : M D := match x with
  | .str z => if z.length ≤ sizeLine then M.pure (.int z.length) else M.bad
  | x => M.bind (itemsM x) fun ds => M.pure (.int ds.length)
theorem fd_len : FnD X.K W (f1 dLen) (fun xs H Q => (∃ p ys, xs = [.ref p] ∧ (SqL X.K H p ys ∨ SqT X.K H p ys) ∧ Q (.int ys.length) H) ∨ ∃ z, xs = [.str z] ∧ z.length ≤ sizeLine ∧ Q (.int z.length) H) := by
  intro io H st xs vs Q s r h
  obtain ⟨x, rfl, h⟩ := wpM_f1 h
  obtain ⟨v, rfl, rx⟩ := repL_1 r
  have gen : wpM (M.bind (itemsM x) fun ds => M.pure (.int ds.length)) st (afE X.K io H Q) (afX X.K io H W) → (∃ p ys, [v] = [V.ref p] ∧ (SqL X.K H p ys ∨ SqT X.K H p ys) ∧ Q (.int ys.length) H) ∨ ∃ z, [v] = [V.str z] ∧ z.length ≤ sizeLine ∧ Q (.int z.length) H := fun h => by
    obtain ⟨ds, a, vs, h1, h2, h3, h⟩ := wpM_items s rx h
    exact .inl ⟨a, vs, by rw [h1], h2, by rw [← h3.length]; exact h io H _ (Ext.refl _ _) s rfl⟩
  cases x with
  | str z =>
    obtain ⟨hl, h⟩ := wpM_if h
    exact .inr ⟨z, by rw [show v = _ from rx], hl, h io H _ (Ext.refl _ _) s rfl⟩
  | tup ds => exact gen h
  | lst ds => exact gen h
  | loc n => exact gen h
  | non => exact gen h
  | bl _ => exact gen h
  | int _ => exact gen h
section
variable {p pos : Pos} {e e2 : Expr} {m m2 : EM} {r : AM}
theorem k_len (hm : X.mg "len" = none) (ha : PA X [e] (rdA X.K W r)) (hg : Gl X "len" := by rfl) (he : starEach [e] X.env = [(false, eval e X.env)] := by rfl) : PE X (.Call (.Name "len" p) [e] [] pos) (rdE X.K W (eFn (f1 dLen) r)) :=
  k_callB (call_len_seq.or call_len_str) fd_len hg hm PySem.boot_len ha (he := he) (hpl := rfl)
/-- int(n) of a number or a bool, of a text -/
def dIntOf (x : D) : M D := match x with
  | .int i => M.pure (.int i)
  | .bl b => M.pure (.int (if b then 1 else 0))
  | .str z => withO (PySem.intText? z) fun n => if z.length ≤ 640 then M.pure (.int n) else M.bad
  | _ => M.bad
theorem fd_int : FnD X.K W (f1 dIntOf) (fun xs H Q => ((∃ i, xs = [.int i] ∧ Q (.int i) H) ∨ ∃ k, xs = [.bl k] ∧ Q (.int (if k then 1 else 0)) H) ∨ ∃ a n, xs = [.str a] ∧ PySem.intText? a = some n ∧ a.length ≤ 640 ∧ Q (.int n) H) := by
  intro io H st xs vs Q s r h
  obtain ⟨x, rfl, h⟩ := wpM_f1 h
  obtain ⟨v, rfl, rx⟩ := repL_1 r
  cases x with
  | int i => exact .inl (.inl ⟨i, by rw [show v = _ from rx], h io H _ (Ext.refl _ _) s rfl⟩)
  | bl i => exact .inl (.inr ⟨i, by rw [show v = _ from rx], h io H _ (Ext.refl _ _) s rfl⟩)
  | str z =>
    obtain ⟨n, hn, h⟩ := wpM_withO h
    obtain ⟨hl, h⟩ := wpM_if h
    exact .inr ⟨z, n, by rw [show v = _ from rx], hn, hl, h io H _ (Ext.refl _ _) s rfl⟩
  | tup ds => exact h.elim
  | lst ds => exact h.elim
  | loc n => exact h.elim
  | non => exact h.elim
theorem k_intof (hm : X.mg "int" = none) (ha : PA X [e] (rdA X.K W r)) (hg : Gl X "int" := by rfl) (he : starEach [e] X.env = [(false, eval e X.env)] := by rfl) : PE X (.Call (.Name "int" p) [e] [] pos) (rdE X.K W (eFn (f1 dIntOf) r)) :=
  k_callT (call_int1.or call_int_str) fd_int hg hm (by decide +kernel) ha (he := he) (hpl := rfl)
end
end
end KT

/-! Kt8: more built-in functions, methods of texts and lists. -/
namespace KT
open PySem PySem.Spec L2
open PyProof.Rows hiding St
section
variable {X : Cx} {W : XW} {p pos : Pos} {e e2 : Expr} {m m2 : EM} {r : AM}
/-- str(x) of a number, of a text -/
def dStrOf (x : D) : M D := match x with
  | .int i => if i.natAbs.log2 < 1920 then M.pure (.str (toString i)) else M.bad
  | .str z => M.pure (.str z)
  | _ => M.bad
theorem fd_str : FnD X.K W (f1 dStrOf) (fun xs H Q => (∃ i, xs = [.int i] ∧ i.natAbs.log2 < 1920 ∧ Q (.str (toString i)) H) ∨ ∃ a, xs = [.str a] ∧ Q (.str a) H) := by
  intro io H st xs vs Q s r h
  obtain ⟨x, rfl, h⟩ := wpM_f1 h
  obtain ⟨v, rfl, rx⟩ := repL_1 r
  cases x with
  | int i =>
    obtain ⟨hl, h⟩ := wpM_if h
    exact .inl ⟨i, by rw [show v = _ from rx], hl, h io H _ (Ext.refl _ _) s rfl⟩
  | str z => exact .inr ⟨z, by rw [show v = _ from rx], h io H _ (Ext.refl _ _) s rfl⟩
  | bl _ => exact h.elim
  | tup ds => exact h.elim
  | lst ds => exact h.elim
  | loc n => exact h.elim
  | non => exact h.elim
theorem k_str1 (hm : X.mg "str" = none) (ha : PA X [e] (rdA X.K W r)) (hg : Gl X "str" := by rfl) (he : starEach [e] X.env = [(false, eval e X.env)] := by rfl) : PE X (.Call (.Name "str" p) [e] [] pos) (rdE X.K W (eFn (f1 dStrOf) r)) :=
  k_callT (call_str_int.or SkE.call_str_str) fd_str hg hm (by decide +kernel) ha (he := he) (hpl := rfl)
def dAbs (x : D) : M D := withO (asInt x) fun i => M.pure (.int (if i < 0 then -i else i))
theorem fd_abs : FnD X.K W (f1 dAbs) (fun xs H Q => ∃ i, xs = [.int i] ∧ Q (.int (if i < 0 then -i else i)) H) := by
  intro io H st xs vs Q s r h
  obtain ⟨x, rfl, h⟩ := wpM_f1 h
  obtain ⟨v, rfl, rx⟩ := repL_1 r
  obtain ⟨i, hi, h⟩ := wpM_withO h
  rw [asInt_eq hi] at rx
  exact ⟨i, by rw [show v = _ from rx], h io H _ (Ext.refl _ _) s rfl⟩
theorem k_abs (hm : X.mg "abs" = none) (ha : PA X [e] (rdA X.K W r)) (hg : Gl X "abs" := by rfl) (he : starEach [e] X.env = [(false, eval e X.env)] := by rfl) : PE X (.Call (.Name "abs" p) [e] [] pos) (rdE X.K W (eFn (f1 dAbs) r)) :=
  k_callB call_abs fd_abs hg hm boot_abs ha (he := he) (hpl := rfl)
def dMax (x y : D) : M D := int2 x y fun i j => M.pure (.int (if j > i then j else i))
def dMin (x y : D) : M D := int2 x y fun i j => M.pure (.int (if j < i then j else i))
theorem fd_max : FnD X.K W (f2 dMax) (fun xs H Q => ∃ i j, xs = [.int i, .int j] ∧ Q (.int (if j > i then j else i)) H) := by
  intro io H st xs vs Q s r h
  obtain ⟨x, y, rfl, h⟩ := wpM_f2 h
  obtain ⟨v, u, rfl, rx, ry⟩ := repL_2 r
  obtain ⟨i, j, rfl, rfl, h⟩ := wpM_int2 h
  exact ⟨i, j, by rw [show v = _ from rx, show u = _ from ry], h io H _ (Ext.refl _ _) s rfl⟩
theorem fd_min : FnD X.K W (f2 dMin) (fun xs H Q => ∃ i j, xs = [.int i, .int j] ∧ Q (.int (if j < i then j else i)) H) := by
  intro io H st xs vs Q s r h
  obtain ⟨x, y, rfl, h⟩ := wpM_f2 h
  obtain ⟨v, u, rfl, rx, ry⟩ := repL_2 r
  obtain ⟨i, j, rfl, rfl, h⟩ := wpM_int2 h
  exact ⟨i, j, by rw [show v = _ from rx, show u = _ from ry], h io H _ (Ext.refl _ _) s rfl⟩
theorem k_max (hc : X.calm = true) (hm : X.mg "max" = none) (ha : PA X [e, e2] (rdA X.K W r)) (hg : Gl X "max" := by rfl) (he : starEach [e, e2] X.env = (false, eval e X.env) :: starEach [e2] X.env := by rfl) (hpl : (backTo pos (starEach [e2] X.env)).any (·.1) = false := by rfl) : PE X (.Call (.Name "max" p) [e, e2] [] pos) (rdE X.K W (eFn (f2 dMax) r)) :=
  k_callB (call_max2 hc) fd_max hg hm boot_max ha (he := he) (hpl := hpl)
theorem k_min (hc : X.calm = true) (hm : X.mg "min" = none) (ha : PA X [e, e2] (rdA X.K W r)) (hg : Gl X "min" := by rfl) (he : starEach [e, e2] X.env = (false, eval e X.env) :: starEach [e2] X.env := by rfl) (hpl : (backTo pos (starEach [e2] X.env)).any (·.1) = false := by rfl) : PE X (.Call (.Name "min" p) [e, e2] [] pos) (rdE X.K W (eFn (f2 dMin) r)) :=
  k_callB (call_min2 hc) fd_min hg hm boot_min ha (he := he) (hpl := hpl)

/-! ### isinstance -/
def tyD : D → String
  | .non => "NoneType"
  | .bl _ => "bool"
  | .int _ => "int"
  | .str _ => "str"
  | .tup _ => "tuple"
  | .lst _ => "list"
  | .loc _ => "list"
theorem tyX_of {K : PySem.W.Frag} {io : Lo} {H : Hp} {st : Sto} {x : D} {v : V} (s : SR K io H st) (r : Rep K io H x v) : TyX K H v (.type (tyD x)) := by
  cases x with
  | non => rw [show v = _ from r]; exact .base .non
  | bl b => rw [show v = _ from r]; exact .base (.bl b)
  | int i => rw [show v = _ from r]; exact .base (.int i)
  | str z => rw [show v = _ from r]; exact .base (.str z)
  | tup ds =>
    obtain ⟨a, vs, h1, h2, _⟩ := r
    subst h1
    rcases h2 with ⟨h | ⟨o, h⟩, _⟩ | ⟨o, its, n, h, hc, _⟩
    · exact .base (.tup h)
    · exact .fTuple h
    · exact .kTuple h hc
  | lst ds =>
    obtain ⟨a, vs, h1, h2, _⟩ := r
    subst h1
    rcases h2 with ⟨h | ⟨o, h⟩, _⟩ | ⟨o, its, n, h, hc, _⟩
    · exact .base (.lst h)
    · exact .base (.frz h)
    · exact .kList h hc
  | loc n =>
    obtain ⟨a, h1, h2⟩ := r
    subst h1
    obtain ⟨vs, h⟩ := s.lst h2
    exact .base (.lst h)
def dIsi (T : String) (x : D) : M D := M.bind (M.ofO (kitB (tyD x) T)) fun b => M.pure (.bl b)
/-- isinstance(x, T), T a built-in class -/
def eIsi (T : String) (e : EM) : EM := fun ρ => M.bind (e ρ) (dIsi T)
theorem k_isi (T : String) {x : Str} {px : Pos} (hm : X.mg "isinstance" = none) (hmT : X.mg x = none) (hv : bootBuiltins x = some (.type T)) (he : PE X e (rdE X.K W m)) (hg : Gl X "isinstance" := by rfl) (hgT : Gl X x := by rfl) (hn : x ≠ "__name__" := by decide) (hdb : (x == ("__debug__" : Str)) = false := by decide)
    (hs : starEach [e, .Name x px] X.env = (false, eval e X.env) :: starEach [.Name x px] X.env := by rfl) (hpl : (backTo pos (starEach [.Name x px] X.env)).any (·.1) = false := by rfl) :
    PE X (.Call (.Name "isinstance" p) [e, .Name x px] [] pos) (rdE X.K W (eIsi T m)) :=
  PE.imp (pe_callB call_isi hg hm boot_isinstance (pa_cons he (pa_cons (pe_bltn (v := .ty T) hgT hmT hv rfl hn hdb) pa_nil) hs) (he := hs) (hpl := hpl)) fun σ H Q h => by
    obtain ⟨io, ρ, st, s, en, h⟩ := h
    refine rdE.step (f := fun ρ x => dIsi T x) s en h fun io1 H1 v d st1 x1 s1 e1 r1 h1 => ?_
    obtain ⟨b, hb, h2⟩ := wpM_ofO (wpM_bind h1)
    exact ⟨v, .ty T, .type (tyD d), .type T, b, rfl, .ty T, tyX_of s1 r1, kit_ty hb, h2 io1 H1 _ x1 s1 rfl⟩

/-! ### repr -/
def reprC (d : PyData) : Prop := SeqAt.shaped d = true ∧ d.showable = true ∧ d.shown.length ≤ sizeLine
instance (d : PyData) : Decidable (reprC d) := by unfold reprC; infer_instance
def dRepr (x : D) : M D := withO (toPy x) fun d => if reprC d then M.pure (.str d.shown) else M.bad
theorem call_reprD (hgd : X.A.guards = some []) (hu : X.A.units + 66 < cLine) : CallR X (.builtin "repr") (fun xs H Q => ∃ x d, xs = [x] ∧ Dp X.K H x d ∧ reprC d ∧ Q (.str d.shown) H) := by
  intro pins s σ H xs us Q I r h
  obtain ⟨x, d, rfl, hd, ⟨h1, h2, h3⟩, q⟩ := h
  obtain ⟨u, rfl, rx⟩ := vals1 r
  have dep := SeqAt.depth_of_shaped h1
  have nd := PyData.hasDict_of_canLay d (SeqAt.canLay_of_shaped h1)
  cases hd with
  | non =>
    cases rx
    exact PySem.P.repr_of_none ⟨.str (PyData.shown .none), H, I.tok _, ⟨_, rfl⟩, q⟩
  | bl b =>
    cases rx
    exact PySem.P.repr_of_bool ⟨.str (PyData.shown (.bool b)), H, I.tok _, ⟨s.toks, by cases b <;> rfl⟩, q⟩
  | int i =>
    obtain ⟨t, rfl⟩ := rx
    exact PySem.P.repr_of_int (by simpa [PyData.showable] using h2) ⟨.str (PyData.shown (.int i)), H, I.tok _, ⟨_, rfl⟩, q⟩
  | str z =>
    obtain ⟨t, rfl⟩ := rx
    exact PySem.P.repr_of_str ⟨.str (PyData.shown (.str z)), H, I.tok _, ⟨_, rfl⟩, q⟩ h3
  | lst a b =>
    obtain ⟨as, rd⟩ := Dp.reads I _ _ u (.lst a b) rx
    cases rx
    exact repr_of_reads' rd h2 (PyData.noDict_hsm nd) hgd (by omega) (fun _ _ e => e) (fun h' u tk k => ⟨.str (PyData.shown (.list _)), H, I.kept k, ⟨u, rfl⟩, q⟩) h3
  | tup a b =>
    obtain ⟨as, rd⟩ := Dp.reads I _ _ u (.tup a b) rx
    cases rx
    exact repr_of_reads' rd h2 (PyData.noDict_hsm nd) hgd (by omega) (fun _ _ e => e) (fun h' u tk k => ⟨.str (PyData.shown (.tuple _)), H, I.kept k, ⟨u, rfl⟩, q⟩) h3
theorem fd_repr : FnD X.K W (f1 dRepr) (fun xs H Q => ∃ x d, xs = [x] ∧ Dp X.K H x d ∧ reprC d ∧ Q (.str d.shown) H) := by
  intro io H st xs vs Q s r h
  obtain ⟨x, rfl, h⟩ := wpM_f1 h
  obtain ⟨v, rfl, rx⟩ := repL_1 r
  obtain ⟨d, hd, h⟩ := wpM_withO h
  obtain ⟨hc, h⟩ := wpM_if h
  exact ⟨v, d, rfl, dp_of x v d rx hd, hc, h io H _ (Ext.refl _ _) s rfl⟩
theorem k_repr (hgd : X.A.guards = some []) (hu : X.A.units + 66 < cLine) (hm : X.mg "repr" = none) (ha : PA X [e] (rdA X.K W r)) (hg : Gl X "repr" := by rfl) (he : starEach [e] X.env = [(false, eval e X.env)] := by rfl) : PE X (.Call (.Name "repr" p) [e] [] pos) (rdE X.K W (eFn (f1 dRepr) r)) :=
  k_callB (call_reprD hgd hu) fd_repr hg hm boot_repr ha (he := he) (hpl := rfl)

/-! ### tuple, any, all -/
def dTupOf (x : D) : M D := match x with
  | .tup ds => M.pure (.tup ds)
  | x => M.bind (listM x) fun ds => M.pure (.tup ds)
theorem fd_tup : FnD X.K W (f1 dTupOf) (fun xs H Q => ∃ p ys, xs = [.ref p] ∧ ((SqL X.K H p ys ∧ ∀ l, H l = none → Q (.ref l) (upd H l (.tup ys))) ∨ (SqT X.K H p ys ∧ Q (.ref p) H))) := by
  intro io H st xs vs Q s r h
  obtain ⟨x, rfl, h⟩ := wpM_f1 h
  obtain ⟨v, rfl, rx⟩ := repL_1 r
  have gen : wpM (M.bind (listM x) fun ds => M.pure (.tup ds)) st (afE X.K io H Q) (afX X.K io H W) → ∃ p ys, [v] = [V.ref p] ∧ ((SqL X.K H p ys ∧ ∀ l, H l = none → Q (.ref l) (upd H l (.tup ys))) ∨ (SqT X.K H p ys ∧ Q (.ref p) H)) := fun h => by
    obtain ⟨ds, a, vs, h1, h2, h3, h⟩ := wpM_list s rx h
    exact ⟨a, vs, by rw [h1], .inl ⟨h2, fun l hl => h io _ _ (ext_fresh s hl) (s.fresh hl) (fresh_tup s h3 hl)⟩⟩
  cases x with
  | tup ds =>
    obtain ⟨a, vs, h1, h2, h3⟩ := rx
    subst h1
    exact ⟨a, vs, rfl, .inr ⟨h2.seq, h io H _ (Ext.refl _ _) s ⟨a, vs, rfl, h2, h3⟩⟩⟩
  | lst ds => exact gen h
  | loc n => exact gen h
  | non => exact gen h
  | bl _ => exact gen h
  | int _ => exact gen h
  | str _ => exact gen h
theorem k_tupof (hm : X.mg "tuple" = none) (ha : PA X [e] (rdA X.K W r)) (hg : Gl X "tuple" := by rfl) (he : starEach [e] X.env = [(false, eval e X.env)] := by rfl) : PE X (.Call (.Name "tuple" p) [e] [] pos) (rdE X.K W (eFn (f1 dTupOf) r)) :=
  k_callT call_tuple_of fd_tup hg hm boot_tuple ha (he := he) (hpl := rfl)
def asBl : D → Option Bool
  | .bl b => some b
  | _ => none
theorem mapM_bl {K : PySem.W.Frag} {io : Lo} {H : Hp} : ∀ {ds : List D} {vs : List V} {bs : List Bool}, RepL K io H ds vs → ds.mapM asBl = some bs → vs = bs.map V.bl
  | [], vs, us, r, h => by
    have r : vs = _ := r
    subst r
    rw [List.mapM_nil] at h; cases h; rfl
  | d :: ds, _, us, ⟨v, r, h1, h2, h3⟩, h => by
    subst h1
    rw [List.mapM_cons] at h
    cases z : asBl d with
    | none => rw [z] at h; cases h
    | some w =>
      cases z2 : ds.mapM asBl with
      | none => rw [z, z2] at h; cases h
      | some ws =>
        rw [z, z2] at h
        cases h
        have e1 := mapM_bl h3 z2
        have e2 : d = .bl w := by cases d <;> first | (cases z; rfl) | cases z
        rw [e2] at h2
        rw [e1, show v = _ from h2]
        rfl
def dAll (x : D) : M D := M.bind (listM x) fun ds => withO (ds.mapM asBl) fun bs => M.pure (.bl (bs.all id))
def dAny (x : D) : M D := M.bind (listM x) fun ds => withO (ds.mapM asBl) fun bs => M.pure (.bl (bs.any id))
theorem fd_all : FnD X.K W (f1 dAll) (rAll X.K) := by
  intro io H st xs vs Q s r h
  obtain ⟨x, rfl, h⟩ := wpM_f1 h
  obtain ⟨v, rfl, rx⟩ := repL_1 r
  obtain ⟨ds, a, vs, h1, h2, h3, h⟩ := wpM_list s rx h
  obtain ⟨bs, hb, h⟩ := wpM_withO h
  rw [mapM_bl h3 hb] at h2
  exact ⟨a, bs, by rw [h1], h2, h io H _ (Ext.refl _ _) s rfl⟩
theorem fd_any : FnD X.K W (f1 dAny) (rAny X.K) := by
  intro io H st xs vs Q s r h
  obtain ⟨x, rfl, h⟩ := wpM_f1 h
  obtain ⟨v, rfl, rx⟩ := repL_1 r
  obtain ⟨ds, a, vs, h1, h2, h3, h⟩ := wpM_list s rx h
  obtain ⟨bs, hb, h⟩ := wpM_withO h
  rw [mapM_bl h3 hb] at h2
  exact ⟨a, bs, by rw [h1], h2, h io H _ (Ext.refl _ _) s rfl⟩
theorem k_all (hc : X.calm = true) (hm : X.mg "all" = none) (ha : PA X [e] (rdA X.K W r)) (hg : Gl X "all" := by rfl) (he : starEach [e] X.env = [(false, eval e X.env)] := by rfl) : PE X (.Call (.Name "all" p) [e] [] pos) (rdE X.K W (eFn (f1 dAll) r)) :=
  k_callB (cr_all hc) fd_all hg hm boot_all ha (he := he) (hpl := rfl)
theorem k_any (hc : X.calm = true) (hm : X.mg "any" = none) (ha : PA X [e] (rdA X.K W r)) (hg : Gl X "any" := by rfl) (he : starEach [e] X.env = [(false, eval e X.env)] := by rfl) : PE X (.Call (.Name "any" p) [e] [] pos) (rdE X.K W (eFn (f1 dAny) r)) :=
  k_callB (cr_any hc) fd_any hg hm boot_any ha (he := he) (hpl := rfl)

/-! ### join, split -/
theorem mapM_str {K : PySem.W.Frag} {io : Lo} {H : Hp} : ∀ {ds : List D} {vs : List V} {bs : List Str}, RepL K io H ds vs → ds.mapM asStr = some bs → vs = bs.map V.str
  | [], vs, us, r, h => by
    have r : vs = _ := r
    subst r
    rw [List.mapM_nil] at h; cases h; rfl
  | d :: ds, _, us, ⟨v, r, h1, h2, h3⟩, h => by
    subst h1
    rw [List.mapM_cons] at h
    cases z : asStr d with
    | none => rw [z] at h; cases h
    | some w =>
      cases z2 : ds.mapM asStr with
      | none => rw [z, z2] at h; cases h
      | some ws =>
        rw [z, z2] at h
        cases h
        have e1 := mapM_str h3 z2
        rw [asStr_eq z] at h2
        rw [e1, show v = _ from h2]
        rfl
/-- o.method(e), o a text -/
def eM1 (f : Str → D → M D) (o e : EM) : EM := fun ρ => M.bind (o ρ) fun x => withO (asStr x) fun a => M.bind (e ρ) fun y => f a y
def M1D (K : PySem.W.Frag) (W : XW) (f : Str → D → M D) (r : V → List V → Hp → VK → Prop) : Prop := ∀ (io : Lo) (H : Hp) (st : Sto) (a : Str) (y : D) (u : V) (Q : VK), SR K io H st → Rep K io H y u → wpM (f a y) st (afE K io H Q) (afX K io H W) → r (.str a) [u] H Q
theorem rd_m1 {f : Str → D → M D} {r : V → List V → Hp → VK → Prop} {mo me : EM} {σ : St} {H : Hp} {Q : VK} (o : M1D X.K W f r) (h : rdE X.K W (eM1 f mo me) σ H Q) : tM1 r (rdE X.K W mo) (rdE X.K W me) σ H Q := by
  obtain ⟨io, ρ, st, s, en, h⟩ := h
  refine rdE.step (f := fun ρ x => withO (asStr x) fun a => M.bind (me ρ) fun y => f a y) s en h fun io1 H1 v d st1 x1 s1 e1 r1 h1 => ?_
  obtain ⟨a, ha, h1⟩ := wpM_withO h1
  rw [asStr_eq ha] at r1
  refine ⟨⟨a, r1⟩, ?_⟩
  refine rdE.step (f := fun ρ y => f a y) s1 e1 h1 fun io2 H2 u d2 st2 x2 s2 e2 r2 h2 => ?_
  have q := o io2 H2 st2 a d2 u Q s2 r2 (wpM_afE (x1.trans x2) h2)
  rw [show v = _ from r1]
  exact q
def dJoin (a : Str) (y : D) : M D := M.bind (itemsM y) fun ds => withO (ds.mapM asStr) fun ys => if (ys.map (·.length)).sum + ys.length * a.length ≤ 16777216 then M.pure (.str (Txt.join a ys)) else M.bad
theorem k_join {o : Expr} {mo : EM} {apos : Pos} (ho : PE X o (rdE X.K W mo)) (he : PE X e (rdE X.K W m)) (hs : starEach [e] X.env = [(false, eval e X.env)] := by rfl) (hbase : attributeBase o "join" X.env (eval o X.env) = eval o X.env := by rfl) (hline : (apos.endLine == pos.line) = true := by rfl) :
    PE X (.Call (.Attribute o "join" apos) [e] [] pos) (rdE X.K W (eM1 dJoin mo m)) := PE.imp (pe_join ho he hs hbase hline) fun σ H Q => rd_m1 fun io H st a y u Q s ry h => by
  obtain ⟨ds, p, vs, h1, h2, h3, h⟩ := wpM_items s ry h
  obtain ⟨ys, hy, h⟩ := wpM_withO h
  obtain ⟨hl, h⟩ := wpM_if h
  rw [mapM_str h3 hy] at h2
  exact ⟨a, p, ys, rfl, by rw [h1], h2, hl, h io H _ (Ext.refl _ _) s rfl⟩
theorem repL_strs {K : PySem.W.Frag} {io : Lo} {H : Hp} : ∀ ys : List Str, RepL K io H (ys.map D.str) (ys.map V.str)
  | [] => rfl
  | y :: ys => ⟨.str y, ys.map V.str, rfl, rfl, repL_strs ys⟩
def dSplit (a : Str) (y : D) : M D := withO (asStr y) fun b => if (b.length == 0) = false ∧ a.length + 2 ≤ sizeLine then M.pure (.lst ((Txt.split a b).map D.str)) else M.bad
theorem k_split {o : Expr} {mo : EM} {apos : Pos} (ho : PE X o (rdE X.K W mo)) (he : PE X e (rdE X.K W m)) (hs : starEach [e] X.env = [(false, eval e X.env)] := by rfl) (hbase : attributeBase o "split" X.env (eval o X.env) = eval o X.env := by rfl) (hline : (apos.endLine == pos.line) = true := by rfl) :
    PE X (.Call (.Attribute o "split" apos) [e] [] pos) (rdE X.K W (eM1 dSplit mo m)) := PE.imp (pe_split ho he hs hbase hline) fun σ H Q => rd_m1 fun io H st a y u Q s ry h => by
  obtain ⟨b, hb, h⟩ := wpM_withO h
  rw [asStr_eq hb] at ry
  obtain ⟨hl, h⟩ := wpM_if h
  refine ⟨a, b, rfl, by rw [show u = _ from ry], hl.1, hl.2, fun p hp => ?_⟩
  exact h io _ _ (ext_fresh s hp) (s.fresh hp) (fresh_lst s (repL_strs _) hp)

/-! ### append, pop of the store's lists -/
def locOf : D → Option Nat
  | .loc n => some n
  | _ => none
theorem locOf_eq {x : D} {n : Nat} (h : locOf x = some n) : x = .loc n := by
  cases x <;> first | (cases h; rfl) | cases h
def putM (n : Nat) (ds : List D) (d : D) : M D := fun st => .ok d (st.set n (.lst ds))
def appM (n : Nat) (d : D) : M D := M.bind (mGet n) fun ds => if ds.length < sizeLine then putM n (ds ++ [d]) .non else M.bad
def popM (n : Nat) : M D := M.bind (mGet n) fun ds => withO (ds[ds.length - 1]?) fun d => putM n ds.dropLast d
/-- xs.append(e): xs first -/
def eAppend (o e : EM) : EM := fun ρ => M.bind (o ρ) fun x => withO (locOf x) fun n => M.bind (e ρ) fun d => appM n d
theorem k_append {o : Expr} {mo : EM} {apos : Pos} (ho : PE X o (rdE X.K W mo)) (he : PE X e (rdE X.K W m)) (hs : starEach [e] X.env = (false, eval e X.env) :: starEach [] X.env := by rfl) (hbase : attributeBase o "append" X.env (eval o X.env) = eval o X.env := by rfl) (hline : (apos.endLine == pos.line) = true := by rfl)
    (hfew : ((backTo pos (starEach [e] X.env)).all (fun x => !x.1) && (backToKw pos (keywordEach [] X.env)).all (fun x => x.1.isSome)
      && decide (([e] : List Expr).length + ([] : List Keyword).length + (if ([] : List Keyword).isEmpty then 0 else 1) < 30)) = true := by rfl) :
    PE X (.Call (.Attribute o "append" apos) [e] [] pos) (rdE X.K W (eAppend mo m)) := PE.imp (pe_bm PySem.F.plainAttrs_list PySem.F.slot_list_append PySem.F.type_list_append mt_append ho (pa_cons he pa_nil hs) hbase hfew hline hs rfl) fun σ H Q h => by
  obtain ⟨io, ρ, st, s, en, h⟩ := h
  refine rdE.step (f := fun ρ x => withO (locOf x) fun n => M.bind (m ρ) fun d => appM n d) s en h fun io1 H1 v d st1 x1 s1 e1 r1 h1 => ?_
  obtain ⟨n, hn, h1⟩ := wpM_withO h1
  rw [locOf_eq hn] at r1
  obtain ⟨a, h2, h3⟩ := r1
  obtain ⟨vs0, h4⟩ := s1.lst h3
  subst h2
  refine ⟨.inl ⟨rfl, vs0, SqL.of h4⟩, ?_⟩
  refine rdE.step (f := fun ρ d => appM n d) s1 e1 h1 fun io2 H2 u d2 st2 x2 s2 e2 r2 h2 => ?_
  obtain ⟨ds, hd, h2⟩ := wpM_get h2
  obtain ⟨hl, h2⟩ := wpM_if h2
  have h3' := x2.sub n a h3
  obtain ⟨b, vs, h5, h6, h7⟩ := s2.here n ds hd
  rw [h3'] at h5; cases h5
  refine ⟨a, vs, u, rfl, rfl, h6, by rw [← h7.length]; exact hl, ?_⟩
  exact h2 io2 _ .non ((x1.trans x2).trans (ext_put s2 h3')) (s2.put h3' (h7.append (RepL.one r2))) rfl
/-- xs.pop() -/
def ePop (o : EM) : EM := fun ρ => M.bind (o ρ) fun x => withO (locOf x) popM
theorem k_pop {o : Expr} {mo : EM} {apos : Pos} (ho : PE X o (rdE X.K W mo)) (hbase : attributeBase o "pop" X.env (eval o X.env) = eval o X.env := by rfl) (hline : (apos.endLine == pos.line) = true := by rfl) :
    PE X (.Call (.Attribute o "pop" apos) [] [] pos) (rdE X.K W (ePop mo)) := PE.imp (pe_bm0 PySem.F.plainAttrs_list PySem.F.slot_list_pop PySem.F.type_list_pop mt_pop ho hbase hline) fun σ H Q h => by
  obtain ⟨io, ρ, st, s, en, h⟩ := h
  refine rdE.step (f := fun ρ x => withO (locOf x) popM) s en h fun io1 H1 v d st1 x1 s1 e1 r1 h1 => ?_
  obtain ⟨n, hn, h1⟩ := wpM_withO h1
  rw [locOf_eq hn] at r1
  obtain ⟨a, h2, h3⟩ := r1
  obtain ⟨ds, hd, h1⟩ := wpM_get h1
  obtain ⟨d, hl, h1⟩ := wpM_withO h1
  obtain ⟨b, vs, h5, h6, h7⟩ := s1.here n ds hd
  rw [h3] at h5; cases h5
  subst h2
  obtain ⟨w, h8, h9⟩ := h7.get hl
  refine ⟨.inl ⟨rfl, vs, SqL.of h6⟩, a, vs, w, rfl, rfl, h6, by rw [← h7.length]; exact h8, ?_⟩
  exact h1 io1 _ w (x1.trans (ext_put s1 h3)) (s1.put h3 h7.dropLast) (h9.mono (ext_put s1 h3).mon)
end
end KT

/-! Kt9: what is walked: sequences, texts, ranges, enumerate, zip of a tuple and a text; written dicts; chains; keyword calls. -/
namespace KT
open PySem PySem.Spec L2
open PyProof.Rows hiding St

theorem seqL_keep {K : PySem.W.Frag} {io : Lo} {H H' : Hp} {a : Addr} {xs : List V} (h : LstAt K io H a xs) (k : ∀ a o, H a = some o → NotLoc io a → H' a = some o) : SqL K H' a xs := by
  rcases h with ⟨h | ⟨o, h⟩, nl⟩ | h
  · exact .inl (.inl (k _ _ h nl))
  · exact .inl (.inr ⟨o, k _ _ h nl⟩)
  · exact .inr h
theorem seqT_keep {K : PySem.W.Frag} {io : Lo} {H H' : Hp} {a : Addr} {xs : List V} (h : TupAt K io H a xs) (k : ∀ a o, H a = some o → NotLoc io a → H' a = some o) : SqT K H' a xs := by
  rcases h with ⟨h | ⟨o, h⟩, nl⟩ | h
  · exact .inl (.inl (k _ _ h nl))
  · exact .inl (.inr ⟨o, k _ _ h nl⟩)
  · exact .inr h
theorem wk_list {K : PySem.W.Frag} {io : Lo} {H : Hp} {a : Addr} {vs : List V} {ds : List D} (h : LstAt K io H a vs) (r : RepL K io H ds vs) : Wk K io (Itl K a) H ds where
  goes := fun H' k i d hd => by
    obtain ⟨v, hv, _⟩ := r.get hd
    exact ⟨vs, v, seqL_keep h k, hv⟩
  stops := fun H' k => ⟨vs, seqL_keep h k, by rw [r.length]; exact Nat.le_refl _⟩
  gives := fun H' k i d hd x H'' y => by
    obtain ⟨e, y⟩ := y
    obtain ⟨v, hv, rv⟩ := r.get hd
    have := y vs (seqL_keep h k)
    rw [hv] at this; cases this
    exact .inl ⟨e, rv⟩
theorem wk_tup {K : PySem.W.Frag} {io : Lo} {H : Hp} {a : Addr} {vs : List V} {ds : List D} (h : TupAt K io H a vs) (r : RepL K io H ds vs) : Wk K io (Itt K a) H ds where
  goes := fun H' k i d hd => by
    obtain ⟨v, hv, _⟩ := r.get hd
    exact ⟨vs, v, seqT_keep h k, hv⟩
  stops := fun H' k => ⟨vs, seqT_keep h k, by rw [r.length]; exact Nat.le_refl _⟩
  gives := fun H' k i d hd x H'' y => by
    obtain ⟨e, y⟩ := y
    obtain ⟨v, hv, rv⟩ := r.get hd
    have := y vs (seqT_keep h k)
    rw [hv] at this; cases this
    exact .inl ⟨e, rv⟩
def signsD (z : Str) : List D := z.cps.toList.map fun c => .str ⟨#[c]⟩
theorem signs_get {z : Str} {i : Nat} {d : D} (h : (signsD z)[i]? = some d) : ∃ c, z.cps[i]? = some c ∧ d = .str ⟨#[c]⟩ := by
  unfold signsD at h
  rw [List.getElem?_map] at h
  cases e : z.cps.toList[i]? with
  | none => rw [e] at h; cases h
  | some c =>
    rw [e] at h; cases h
    exact ⟨c, by rw [← Array.getElem?_toList]; exact e, rfl⟩
theorem signs_len (z : Str) : (signsD z).length = z.cps.size := by unfold signsD; rw [List.length_map, Array.length_toList]
theorem wk_str {K : PySem.W.Frag} {io : Lo} {H : Hp} {z : Str} : Wk K io (Its z) H (signsD z) where
  goes := fun H' k i d hd => by
    have := (List.getElem?_eq_some_iff.mp hd).1
    rw [signs_len] at this
    exact this
  stops := fun H' k => by rw [signs_len]; exact Nat.le_refl _
  gives := fun H' k i d hd x H'' y => by
    obtain ⟨e, c, hc, hx⟩ := y
    obtain ⟨c', hc', hd'⟩ := signs_get hd
    rw [hc] at hc'; cases hc'
    subst hd' hx
    exact .inl ⟨e, rfl⟩
theorem wk_range {K : PySem.W.Frag} {io : Lo} {H : Hp} {n : Nat} : Wk K io (Itr 0 n) H ((List.range n).map fun i => .int (i : Nat)) where
  goes := fun H' k i d hd => by
    have := (List.getElem?_eq_some_iff.mp hd).1
    rw [List.length_map, List.length_range] at this
    exact this
  stops := fun H' k => by rw [List.length_map, List.length_range]; exact Nat.le_refl _
  gives := fun H' k i d hd x H'' y => by
    obtain ⟨e, hx⟩ := y
    have hi := (List.getElem?_eq_some_iff.mp hd).1
    rw [List.length_map, List.length_range] at hi
    rw [List.getElem?_map, List.getElem?_range hi] at hd
    cases hd
    refine .inl ⟨e, ?_⟩
    rw [hx, Int.zero_add]; rfl
section
variable {X : Cx} {W : XW} {pos p : Pos} {tg e e2 : Expr} {m : EM} {r : AM}
/-- a list, as a value; a list of the store that the loop leaves -/
def iLst (e : EM) : IM := fun ρ => M.bind (e ρ) fun x => withO (asLst x) fun ds => M.pure ds
def iTupM (e : EM) : IM := fun ρ => M.bind (e ρ) fun x => withO (asTup x) fun ds => M.pure ds
def iStrM (e : EM) : IM := fun ρ => M.bind (e ρ) fun x => withO (asStr x) fun z => M.pure (signsD z)
theorem rdI.step {β : Type} {K : PySem.W.Frag} {m : EM} {f : En → D → M β} {io : Lo} {ρ : En} {st : Sto} {σ : St} {H : Hp} {ok : β → Sto → Prop} {Q : VK} (s : SR K io H st) (r : EnvR K io H σ ρ)
    (h : wpM (M.bind (m ρ) (f ρ)) st ok (afX K io H W))
    (q : ∀ io' H' v d st', Ext io H io' H' → SR K io' H' st' → EnvR K io' H' σ ρ → Rep K io' H' d v → wpM (f ρ d) st' ok (afX K io' H' W) → Q v H') : rdE K W m σ H Q := rdE.step s r h q
theorem ki_lst (he : PE X e (rdE X.K W m)) : PI X tg e (rdI X.K W (iLst m)) := PI.imp (pi_list he) fun σ H R h => by
  obtain ⟨io, ρ, st, s, en, h⟩ := h
  refine rdE.step (f := fun ρ x => withO (asLst x) fun ds => M.pure ds) s en h fun io1 H1 v d st1 x1 s1 e1 r1 h1 => ?_
  obtain ⟨ds, hd, h1⟩ := wpM_withO h1
  rw [asLst_eq hd] at r1
  obtain ⟨a, vs, h2, h3, h4⟩ := r1
  exact ⟨a, h2, ⟨vs, h3.seq⟩, h1 io1 H1 _ x1 s1 (wk_list h3 h4)⟩
theorem ki_tup (he : PE X e (rdE X.K W m)) : PI X tg e (rdI X.K W (iTupM m)) := PI.imp (pi_tup he) fun σ H R h => by
  obtain ⟨io, ρ, st, s, en, h⟩ := h
  refine rdE.step (f := fun ρ x => withO (asTup x) fun ds => M.pure ds) s en h fun io1 H1 v d st1 x1 s1 e1 r1 h1 => ?_
  obtain ⟨ds, hd, h1⟩ := wpM_withO h1
  rw [asTup_eq hd] at r1
  obtain ⟨a, vs, h2, h3, h4⟩ := r1
  exact ⟨a, h2, ⟨vs, h3.seq⟩, h1 io1 H1 _ x1 s1 (wk_tup h3 h4)⟩
theorem ki_str (he : PE X e (rdE X.K W m)) : PI X tg e (rdI X.K W (iStrM m)) := PI.imp (pi_str he) fun σ H R h => by
  obtain ⟨io, ρ, st, s, en, h⟩ := h
  refine rdE.step (f := fun ρ x => withO (asStr x) fun z => M.pure (signsD z)) s en h fun io1 H1 v d st1 x1 s1 e1 r1 h1 => ?_
  obtain ⟨z, hd, h1⟩ := wpM_withO h1
  rw [asStr_eq hd] at r1
  exact ⟨z, r1, h1 io1 H1 _ x1 s1 wk_str⟩
/-- range(n) -/
def iRange1 (r : AM) : IM := fun ρ => M.bind (r ρ) fun ds => match ds with
  | [x] => withO (asInt x) fun n => if -(2 ^ 62) ≤ n ∧ n < 2 ^ 62 then M.pure ((List.range n.toNat).map fun i => D.int (i : Nat)) else M.bad
  | _ => M.bad
theorem ki_range1 (hm : X.mg "range" = none) (ha : PA X [e] (rdA X.K W r)) (hg : Gl X "range" := by rfl) (hs : starEach [e] X.env = [(false, eval e X.env)] := by rfl) : PI X tg (.Call (.Name "range" p) [e] [] pos) (rdI X.K W (iRange1 r)) :=
  PI.imp (pi_range1 hg hm ha hs) fun σ H R h => by
    obtain ⟨io, ρ, st, s, en, h⟩ := h
    refine rdA.step (f := fun ρ ds => match ds with
      | [x] => withO (asInt x) fun n => if -(2 ^ 62) ≤ n ∧ n < 2 ^ 62 then M.pure ((List.range n.toNat).map fun i => D.int (i : Nat)) else M.bad
      | _ => M.bad) s en h fun io1 H1 vs ds st1 x1 s1 e1 r1 h1 => ?_
    match ds, r1, h1 with
    | [x], r1, h1 =>
      obtain ⟨v, rfl, rx⟩ := repL_1 r1
      obtain ⟨n, hn, h1⟩ := wpM_withO h1
      obtain ⟨hb, h1⟩ := wpM_if h1
      rw [asInt_eq hn] at rx
      exact ⟨n, by rw [show v = _ from rx], hb.1, hb.2, h1 io1 H1 _ x1 s1 wk_range⟩
    | [], _, h1 => exact h1.elim
    | _ :: _ :: _, _, h1 => exact h1.elim
/-- enumerate(xs) of a list -/
def enumD (ds : List D) : List D := (List.range ds.length).zipWith (fun i d => .tup [.int (i : Nat), d]) ds
theorem enum_len (ds : List D) : (enumD ds).length = ds.length := by unfold enumD; simp
theorem enum_get {ds : List D} {i : Nat} {d : D} (h : (enumD ds)[i]? = some d) : ∃ x, ds[i]? = some x ∧ d = .tup [.int (i : Nat), x] := by
  have hi := (List.getElem?_eq_some_iff.mp h).1
  rw [enum_len] at hi
  unfold enumD at h
  rw [List.getElem?_zipWith, List.getElem?_range hi, List.getElem?_eq_getElem hi] at h
  cases h
  exact ⟨ds[i], List.getElem?_eq_getElem hi, rfl⟩
theorem wk_enum {K : PySem.W.Frag} {io : Lo} {H : Hp} {a : Addr} {vs : List V} {ds : List D} (h : LstAt K io H a vs) (r : RepL K io H ds vs) : Wk K io (Ite K a) H (enumD ds) where
  goes := fun H' k i d hd => by
    obtain ⟨x, hx, _⟩ := enum_get hd
    obtain ⟨v, hv, _⟩ := r.get hx
    exact ⟨vs, v, seqL_keep h k, hv⟩
  stops := fun H' k => ⟨vs, seqL_keep h k, by rw [enum_len, r.length]; exact Nat.le_refl _⟩
  gives := fun H' k i d hd x H'' y => by
    obtain ⟨T, v0, h1, h2, h3, h4⟩ := y
    obtain ⟨dx, hx, ed⟩ := enum_get hd
    obtain ⟨v, hv, rv⟩ := r.get hx
    have := h4 vs (seqL_keep h k)
    rw [hv] at this; cases this
    exact .inr ⟨T, _, _, _, _, ed, h1, h2, h3, rfl, rv⟩
def iEnumM (r : AM) : IM := fun ρ => M.bind (r ρ) fun ds => match ds with
  | [x] => withO (asLst x) fun ds => M.pure (enumD ds)
  | _ => M.bad
theorem ki_enum {elts : List Expr} {kk : Nat} {tpos : Pos} (hm : X.mg "enumerate" = none) (ha : PA X [e] (rdA X.K W r)) (hg : Gl X "enumerate" := by rfl) (hs : starEach [e] X.env = [(false, eval e X.env)] := by rfl) : PI X (.Tuple elts kk tpos) (.Call (.Name "enumerate" p) [e] [] pos) (rdI X.K W (iEnumM r)) :=
  PI.imp (pi_enum hg hm ha hs) fun σ H R h => by
    obtain ⟨io, ρ, st, s, en, h⟩ := h
    refine rdA.step (f := fun ρ ds => match ds with
      | [x] => withO (asLst x) fun ds => M.pure (enumD ds)
      | _ => M.bad) s en h fun io1 H1 vs ds st1 x1 s1 e1 r1 h1 => ?_
    match ds, r1, h1 with
    | [x], r1, h1 =>
      obtain ⟨v, rfl, rx⟩ := repL_1 r1
      obtain ⟨ds, hd, h1⟩ := wpM_withO h1
      rw [asLst_eq hd] at rx
      obtain ⟨a, vs, h2, h3, h4⟩ := rx
      exact ⟨a, vs, by rw [h2], h3.seq, h1 io1 H1 _ x1 s1 (wk_enum h3 h4)⟩
    | [], _, h1 => exact h1.elim
    | _ :: _ :: _, _, h1 => exact h1.elim
end

/-! ### zip of a tuple and a text -/
def ItzS (K : PySem.W.Frag) (a : Addr) (z : Str) : It :=
  ⟨fun i H => ∃ xs : List V, SqT K H a xs ∧ i < min xs.length z.cps.size,
    fun i H v H' => ∃ T x c, v = .ref T ∧ H T = none ∧ H' = upd H T (.tup [x, .str ⟨#[c]⟩]) ∧ (∀ xs, SqT K H a xs → xs[i]? = some x) ∧ z.cps[i]? = some c,
    fun i H => ∃ xs : List V, SqT K H a xs ∧ i = min xs.length z.cps.size⟩
theorem turn_zipS {P : Program} {w : World} {K : PySem.W.Frag} {elts : List Expr} {kk : Nat} {tpos : Pos} {a zz TI TO i1 i2 : Addr} {z : Str} {t : Tok} (S : ZipSep2 zz TI TO i1 i2 [i1, a] [i2]) :
    Turn P w K (.Tuple elts kk tpos) (ItzS K a z) [zz, TI, TO, i1, i2] zz (fun i h => IsZip h zz TI TO .none ∧ IsTupOf2 h TI (.ref i1) (.ref i2) ∧ (∃ a1 a2, IsTupOf2 h TO a1 a2) ∧ h.IsTupleIter i1 a i ∧ h.IsStrIter i2 (strIterType z) z t i) where
  mem := List.mem_cons_self ..
  obj := fun i h st c hc => by
    obtain ⟨hz, hTI, ⟨x, y, hTO⟩, ⟨o1, e1, _, d1⟩, h2⟩ := st
    have e' : c = zz ∨ c = TI ∨ c = TO ∨ c = i1 ∨ c = i2 := by simpa using hc
    rcases e' with q | q | q | q | q
    · rw [q]; exact ⟨_, hz, fun v q => nomatch q⟩
    · rw [q]; exact ⟨_, hTI, fun v q => nomatch q⟩
    · rw [q]; exact ⟨_, hTO, fun v q => nomatch q⟩
    · rw [q]; exact ⟨o1, e1, fun v q => by rw [d1] at q; cases q⟩
    · rw [q]
      obtain ⟨o2, e2, _, d2⟩ := h2
      exact ⟨o2, e2, fun v q => by rw [d2] at q; cases q⟩
  keep := fun i h h' st k => by
    obtain ⟨hz, hTI, ⟨x, y, hTO⟩, h1, h2⟩ := st
    exact ⟨k zz (by simp) _ hz, k TI (by simp) _ hTI, ⟨x, y, k TO (by simp) _ hTO⟩, h1.at fun o q => k i1 (by simp) o q, (let ⟨o2, e2, r2⟩ := h2; ⟨o2, k i2 (by simp) _ e2, r2⟩)⟩
  item := by
    intro X hP hw hK hc i pins s σ H E I hf st hg
    subst hP hw hK
    obtain ⟨hz, hTI, hTO, h1, h2⟩ := st
    obtain ⟨xs, hq, hi⟩ := hg
    obtain ⟨its, rv, pt, _⟩ := I.tuple hq
    have hne : a ≠ i1 := fun e => by
      obtain ⟨o, ho, hoc, _⟩ := pt
      obtain ⟨o1, e1, c1, _⟩ := h1
      rw [e, e1] at ho; cases ho; rw [c1] at hoc; exact absurd (Value.type.inj hoc) (by decide)
    have G := GoesN.zip2 (prog := X.prog) (w := X.w) (A := X.A) (elts := elts) (x1 := kk) (pos := tpos) S (Draws.tuple (prog := X.prog) (w := X.w) (A := X.A.in1) (I.ok.hd hc) i1 a hne its.toArray) (Draws.text (prog := X.prog) (w := X.w) (A := X.A.in1) (I.ok.hd hc) i2 z t)
    have hlen : its.toArray.size = xs.length := by rw [List.size_toArray]; exact rv.length.symm
    refine G.goes i s _ E (by rw [hlen]; exact hi) ⟨hz, hTI, hTO, ⟨h1, pt⟩, h2⟩ fun v h' tk hY st' hk htk => ?_
    obtain ⟨T, x, y, rfl, hT, hx, ⟨c, u, hc', rfl⟩, hIs⟩ := hY
    obtain ⟨hz', hTI', hTO', ⟨h1', pt'⟩, h2'⟩ := st'
    have hxi : i < xs.length := by omega
    obtain ⟨ux, hux, rx⟩ := rv.get (List.getElem?_eq_getElem hxi)
    have hxe : x = ux := by
      have : its.toArray[i]? = some x := hx
      rw [List.getElem?_toArray, hux] at this
      exact (Option.some.inj this).symm
    subst hxe
    have new : ObjOk X.prog X.w (upd H T (.tup [xs[i], .str ⟨#[c]⟩])) h' T (.tup [xs[i], .str ⟨#[c]⟩]) := ⟨by show 2 ≤ sizeLine; decide, [x, .str ⟨#[c]⟩ u], .cons rx (.cons ⟨u, rfl⟩ .nil), hIs⟩
    have I1 : Inv X pins σ (upd H T (.tup [xs[i], .str ⟨#[c]⟩])) { s with heap := h', toks := tk } :=
      I.turnedNew (t' := tk) (ch := [zz, TI, TO, i1, i2]) (fun b ob hb q => hk b ob (fun z' => hb (by
        have : b = zz ∨ b = TO ∨ b = i1 ∨ b = i2 := by simpa using z'
        rcases this with q | q | q | q <;> simp [q])) q) hf hT new
    have hTn : H T = none := I.hok.fresh hT
    refine ⟨.ref T, _, I1, rfl, ⟨T, xs[i], c, rfl, hTn, rfl, fun l hl => by rw [I.tuple_inj hl hq]; exact List.getElem?_eq_getElem hxi, hc'⟩, ⟨hz', hTI', hTO', h1', h2'⟩, fun b hb => ?_⟩
    have hbl : b < s.heap.objs.size := by
      have e' : b = zz ∨ b = TI ∨ b = TO ∨ b = i1 ∨ b = i2 := by simpa using hb
      rcases e' with q | q | q | q | q
      · rw [q]; exact Heap.lt_size hz
      · rw [q]; exact Heap.lt_size hTI
      · obtain ⟨_, _, e⟩ := hTO; rw [q]; exact Heap.lt_size e
      · obtain ⟨_, e, _⟩ := h1; rw [q]; exact Heap.lt_size e
      · obtain ⟨_, e, _⟩ := h2; rw [q]; exact Heap.lt_size e
    rw [upd_ne (Nat.ne_of_lt (Nat.lt_of_lt_of_le hbl hT))]
    exact (hf b hb).1
  done := by
    intro X hP hw hK hc i pins s σ H E I hf st hg
    subst hP hw hK
    obtain ⟨hz, hTI, hTO, h1, h2⟩ := st
    obtain ⟨xs, hq, hi⟩ := hg
    obtain ⟨its, rv, pt, _⟩ := I.tuple hq
    have hne : a ≠ i1 := fun e => by
      obtain ⟨o, ho, hoc, _⟩ := pt
      obtain ⟨o1, e1, c1, _⟩ := h1
      rw [e, e1] at ho; cases ho; rw [c1] at hoc; exact absurd (Value.type.inj hoc) (by decide)
    have G := GoesN.zip2 (prog := X.prog) (w := X.w) (A := X.A) (elts := elts) (x1 := kk) (pos := tpos) S (Draws.tuple (prog := X.prog) (w := X.w) (A := X.A.in1) (I.ok.hd hc) i1 a hne its.toArray) (Draws.text (prog := X.prog) (w := X.w) (A := X.A.in1) (I.ok.hd hc) i2 z t)
    have hlen : its.toArray.size = xs.length := by rw [List.size_toArray]; exact rv.length.symm
    have hi' : i = min its.toArray.size z.cps.size := by rw [hlen]; exact hi
    subst hi'
    refine G.stops s _ E ⟨hz, hTI, hTO, ⟨h1, pt⟩, h2⟩ fun h' tk hk htk => ?_
    exact I.turnedL (t' := tk) (ch := [zz, TI, TO, i1, i2]) (fun b ob hb q => hk b ob (fun z' => hb (by
        have : b = zz ∨ b = TO ∨ b = i1 ∨ b = i2 := by simpa using z'
        rcases this with q | q | q | q <;> simp [q])) q) hf
  self := fun A i s Q E st h => wpAny_pyIter_zip st.1 h
theorem wk_zipS {K : PySem.W.Frag} {io : Lo} {H : Hp} {a : Addr} {vs : List V} {ds : List D} {z : Str} (h : TupAt K io H a vs) (r : RepL K io H ds vs) : Wk K io (ItzS K a z) H (ds.zipWith (fun x y => .tup [x, y]) (signsD z)) where
  goes := fun H' k i d hd => by
    have hi := (List.getElem?_eq_some_iff.mp hd).1
    rw [List.length_zipWith, signs_len] at hi
    exact ⟨vs, seqT_keep h k, by rw [← r.length]; exact hi⟩
  stops := fun H' k => ⟨vs, seqT_keep h k, by rw [List.length_zipWith, signs_len, r.length]⟩
  gives := fun H' k i d hd x H'' y => by
    obtain ⟨T, v0, c, h1, h2, h3, h4, h5⟩ := y
    have hi := (List.getElem?_eq_some_iff.mp hd).1
    rw [List.length_zipWith, signs_len] at hi
    have hi1 : i < ds.length := by omega
    have hi2 : i < (signsD z).length := by rw [signs_len]; omega
    rw [List.getElem?_zipWith, List.getElem?_eq_getElem hi1, List.getElem?_eq_getElem hi2] at hd
    cases hd
    obtain ⟨v, hv, rv⟩ := r.get (List.getElem?_eq_getElem hi1)
    have := h4 vs (seqT_keep h k)
    rw [hv] at this; cases this
    obtain ⟨c', hc', e'⟩ := signs_get (List.getElem?_eq_getElem hi2)
    rw [h5] at hc'; cases hc'
    refine .inr ⟨T, _, _, _, _, rfl, h1, h2, h3, rv, ?_⟩
    rw [e']; rfl
section
variable {X : Cx} {W : XW} {pos p : Pos} {e e2 : Expr} {r : AM}
def iZipTS (K : PySem.W.Frag) (ta : TA) : TI := fun σ H R => ta σ H fun vs H1 => ∃ a xs z, vs = [.ref a, .str z] ∧ SqT K H1 a xs ∧ R (ItzS K a z) H1
theorem pi_zipTS {elts : List Expr} {kk : Nat} {tpos : Pos} {ta : TA} (hg : Gl X "zip") (hm : X.mg "zip" = none) (ha : PA X [e, e2] ta)
    (hs : starEach [e, e2] X.env = (false, eval e X.env) :: starEach [e2] X.env := by rfl) (hpl : (backTo pos (starEach [e2] X.env)).any (·.1) = false := by rfl) : PI X (.Tuple elts kk tpos) (.Call (.Name "zip" p) [e, e2] [] pos) (iZipTS X.K ta) := by
  refine ⟨fun pins s σ H R I h => ?_⟩
  refine Call_ (ld_blt I hg hm boot_zip (callWith_type1 (thn (ha.run pos pins s σ H _ I h) fun us s1 ⟨vs, H1, I1, r1, q1⟩ => ?_) hs hpl))
  obtain ⟨a, xs, z, rfl, hq, q⟩ := q1
  obtain ⟨u1, u2, rfl, ra, rb⟩ := vals2 r1
  cases ra
  obtain ⟨t, rfl⟩ := rb
  obtain ⟨its, rv, pt, _⟩ := I1.tuple hq
  obtain ⟨o0, ho0, _⟩ := id pt
  refine zip_begins2 (begins_tuple a its.toArray) (begins_text z t) pt trivial fun h' hz hTI hTO g1 g2 hsz hk => wpAny_pyIter_zip hz ?_
  have I2 : Inv X pins σ H1 { s1 with heap := h' } := I1.kept (t' := s1.toks) hk
  have sep := zip_sep2 (N := s1.heap.objs.size) (fp1 := [a]) (fp2 := []) (fun b hb => by rw [List.mem_singleton.mp hb]; exact Heap.lt_size ho0) (fun b hb => absurd hb List.not_mem_nil)
  refine ⟨s1.heap.objs.size + 4, [s1.heap.objs.size + 4, s1.heap.objs.size + 2, s1.heap.objs.size + 3, s1.heap.objs.size, s1.heap.objs.size + 1], _, _, H1, rfl, I2, turn_zipS (z := z) (t := t) sep, ⟨hz, hTI, ⟨_, _, hTO⟩, ⟨_, g1, rfl, rfl⟩, ⟨_, g2, rfl, rfl⟩⟩, fun c hc => ?_, q⟩
  have e' : c = s1.heap.objs.size + 4 ∨ c = s1.heap.objs.size + 2 ∨ c = s1.heap.objs.size + 3 ∨ c = s1.heap.objs.size ∨ c = s1.heap.objs.size + 1 := by simpa using hc
  have hle : s1.heap.objs.size ≤ c := by
    rcases e' with q | q | q | q | q
    · rw [q]; exact Nat.le_add_right _ _
    · rw [q]; exact Nat.le_add_right _ _
    · rw [q]; exact Nat.le_add_right _ _
    · rw [q]; exact Nat.le_refl _
    · rw [q]; exact Nat.le_add_right _ _
  exact I1.fpOk hle (I1.hok.fresh hle)
def iZipTSM (r : AM) : IM := fun ρ => M.bind (r ρ) fun ds => match ds with
  | [x, y] => withO (asTup x) fun xs => withO (asStr y) fun z => M.pure (xs.zipWith (fun x y => D.tup [x, y]) (signsD z))
  | _ => M.bad
theorem ki_zipTS {elts : List Expr} {kk : Nat} {tpos : Pos} (hm : X.mg "zip" = none) (ha : PA X [e, e2] (rdA X.K W r)) (hg : Gl X "zip" := by rfl)
    (hs : starEach [e, e2] X.env = (false, eval e X.env) :: starEach [e2] X.env := by rfl) (hpl : (backTo pos (starEach [e2] X.env)).any (·.1) = false := by rfl) : PI X (.Tuple elts kk tpos) (.Call (.Name "zip" p) [e, e2] [] pos) (rdI X.K W (iZipTSM r)) :=
  PI.imp (pi_zipTS hg hm ha hs hpl) fun σ H R h => by
    obtain ⟨io, ρ, st, s, en, h⟩ := h
    refine rdA.step (f := fun ρ ds => match ds with
      | [x, y] => withO (asTup x) fun xs => withO (asStr y) fun z => M.pure (xs.zipWith (fun x y => D.tup [x, y]) (signsD z))
      | _ => M.bad) s en h fun io1 H1 vs ds st1 x1 s1 e1 r1 h1 => ?_
    match ds, r1, h1 with
    | [x, y], r1, h1 =>
      obtain ⟨v, u, rfl, rx, ry⟩ := repL_2 r1
      obtain ⟨xs, hx, h1⟩ := wpM_withO h1
      obtain ⟨z, hz, h1⟩ := wpM_withO h1
      rw [asTup_eq hx] at rx
      rw [asStr_eq hz] at ry
      obtain ⟨a, vs, h2, h3, h4⟩ := rx
      exact ⟨a, vs, z, by rw [h2, show u = _ from ry], h3.seq, h1 io1 H1 _ x1 s1 (wk_zipS h3 h4)⟩
    | [], _, h1 => exact h1.elim
    | [_], _, h1 => exact h1.elim
    | _ :: _ :: _ :: _, _, h1 => exact h1.elim
end
end KT

/-! Kt10: written dicts, comparisons by name, chains, keyword calls. -/
namespace KT
open PySem PySem.Spec L2
open PyProof.Rows hiding St

/-- a dict of the text's own, its keys texts -/
def KMap (K : PySem.W.Frag) (w : World) (mg : Str → Option Value) (x : Str) (kvs : List (Str × D)) : Prop :=
  ∃ d es n, mg x = some (.ref d) ∧ KDict K w d es n ∧ Paired (fun (p : Str × D) (e : DictEntry) => (∃ t, e.key = .str p.1 t) ∧ ∃ v, RelV v e.val ∧ ∀ io H, Rep K io H p.2 v) kvs es.toList
theorem find_pairs {K : PySem.W.Frag} {z : Str} : ∀ {kvs : List (Str × D)} {es : List DictEntry}, Paired (fun (p : Str × D) (e : DictEntry) => (∃ t, e.key = .str p.1 t) ∧ ∃ v, RelV v e.val ∧ ∀ io H, Rep K io H p.2 v) kvs es →
    es.any (·.refKey) = false ∧ ((kvs.lookup z = none ∧ es.find? (·.key.isStr z) = none) ∨ ∃ dd e v, kvs.lookup z = some dd ∧ es.find? (·.key.isStr z) = some e ∧ RelV v e.val ∧ ∀ io H, Rep K io H dd v)
  | _, _, .nil => ⟨rfl, .inl ⟨rfl, rfl⟩⟩
  | (k, dd) :: kvs, e :: es, .cons ⟨⟨t, hk⟩, v, rv, rd⟩ r => by
    obtain ⟨h1, h2⟩ := find_pairs (z := z) r
    have hk : e.key = .str k t := hk
    have hr : e.refKey = false := by
      unfold DictEntry.refKey
      rw [hk]
    have hs : e.key.isStr z = (z == k) := by
      rw [hk, PySem.W.isStr_of]
      show (k == z) = (z == k)
      exact BEq.comm
    refine ⟨by rw [List.any_cons, hr, h1]; rfl, ?_⟩
    rw [List.lookup_cons, List.find?_cons, hs]
    cases c : (z == k) with
    | true => exact .inr ⟨dd, e, v, rfl, rfl, rv, rd⟩
    | false => exact h2
theorem nsIn_map {K : PySem.W.Frag} {w : World} {d : Addr} {es : Array DictEntry} {n : Nat} {kvs : List (Str × D)} (k : KDict K w d es n)
    (p : Paired (fun (p : Str × D) (e : DictEntry) => (∃ t, e.key = .str p.1 t) ∧ ∃ v, RelV v e.val ∧ ∀ io H, Rep K io H p.2 v) kvs es.toList) (z : Str) :
    (kvs.lookup z = none ∧ PySem.W.nsIn K d z = some none) ∨ ∃ dd u v, kvs.lookup z = some dd ∧ PySem.W.nsIn K d z = some (some u) ∧ RelV v u ∧ ∀ io H, Rep K io H dd v := by
  obtain ⟨h1, h2⟩ := find_pairs (z := z) p
  unfold PySem.W.nsIn
  rw [k.at_]
  rcases h2 with ⟨h2, h3⟩ | ⟨dd, e, v, h2, h3, h4, h5⟩
  · refine .inl ⟨h2, ?_⟩
    show (match es.toList.find? (·.key.isStr z) with
      | some e => some (some e.val)
      | none => if es.toList.any (·.refKey) then none else some none) = some none
    rw [h3]
    show (if es.toList.any (·.refKey) = true then none else some none) = some none
    rw [h1]; rfl
  · refine .inr ⟨dd, e.val, v, h2, ?_, h4, h5⟩
    show (match es.toList.find? (·.key.isStr z) with
      | some e => some (some e.val)
      | none => if es.toList.any (·.refKey) then none else some none) = some (some e.val)
    rw [h3]
section
variable {X : Cx} {W : XW} {pos p : Pos} {e : Expr} {m : EM} {x : Str} {kvs : List (Str × D)}
def eInK (neg : Bool) (kvs : List (Str × D)) (m : EM) : EM := fun ρ => M.bind (m ρ) fun d => withO (asStr d) fun z => M.pure (.bl (if neg then !(kvs.lookup z).isSome else (kvs.lookup z).isSome))
def eGetK (kvs : List (Str × D)) (m : EM) : EM := fun ρ => M.bind (m ρ) fun d => withO (asStr d) fun z => withO (kvs.lookup z) M.pure
theorem rd_inK {neg : Bool} {σ : St} {H : Hp} {Q : VK} (h : rdE X.K W (eInK neg kvs m) σ H Q) : rdE X.K W m σ H fun v H1 => ∃ z, v = .str z ∧ Q (.bl (if neg then !(kvs.lookup z).isSome else (kvs.lookup z).isSome)) H1 := by
  obtain ⟨io, ρ, st, s, en, h⟩ := h
  refine rdE.step (f := fun ρ d => withO (asStr d) fun z => M.pure (D.bl (if neg then !(kvs.lookup z).isSome else (kvs.lookup z).isSome))) s en h fun io1 H1 v d st1 x1 s1 e1 r1 h1 => ?_
  obtain ⟨z, hz, h1⟩ := wpM_withO h1
  rw [asStr_eq hz] at r1
  exact ⟨z, r1, h1 io1 H1 _ x1 s1 rfl⟩
theorem inK_ok {neg : Bool} {d : Addr} {es : Array DictEntry} {n : Nat} {H1 : Hp} {Q : VK} {v : V} (hk : KDict X.K X.w d es n) (hp : Paired (fun (p : Str × D) (e : DictEntry) => (∃ t, e.key = .str p.1 t) ∧ ∃ v, RelV v e.val ∧ ∀ io H, Rep X.K io H p.2 v) kvs es.toList)
    (h : ∃ z, v = .str z ∧ Q (.bl (if neg then !(kvs.lookup z).isSome else (kvs.lookup z).isSome)) H1) : ∃ (z : Str) (r : Option Value), v = .str z ∧ (V.ref d) = .ref d ∧ PySem.W.nsIn X.K d z = some r ∧ Q (.bl (if neg then !r.isSome else r.isSome)) H1 := by
  obtain ⟨z, rfl, q⟩ := h
  rcases nsIn_map hk hp z with ⟨h1, h2⟩ | ⟨dd, u, v, h1, h2, _, _⟩
  · rw [h1] at q; exact ⟨z, none, rfl, rfl, h2, q⟩
  · rw [h1] at q; exact ⟨z, some u, rfl, rfl, h2, q⟩
theorem k_inK (M : KMap X.K X.w X.mg x kvs) (he : PE X e (rdE X.K W m)) (hg : Gl X x := by rfl) (hd : (x == ("__debug__" : Str)) = false := by decide) : PE X (.Compare e [.In] [.Name x p] pos) (rdE X.K W (eInK false kvs m)) := by
  obtain ⟨d, es, n, hm, hk, hp⟩ := M
  refine PE.imp (pe_cmpR (op_in_kd hk) he (pe_glob (v := .ref d) hg hm rfl hd) rfl) fun σ H Q h => ?_
  exact (rd_inK h).mono fun v H1 q => inK_ok (neg := false) hk hp q
theorem k_ninK (M : KMap X.K X.w X.mg x kvs) (he : PE X e (rdE X.K W m)) (hg : Gl X x := by rfl) (hd : (x == ("__debug__" : Str)) = false := by decide) : PE X (.Compare e [.NotIn] [.Name x p] pos) (rdE X.K W (eInK true kvs m)) := by
  obtain ⟨d, es, n, hm, hk, hp⟩ := M
  refine PE.imp (pe_cmpR (op_notIn_kd hk) he (pe_glob (v := .ref d) hg hm rfl hd) rfl) fun σ H Q h => ?_
  exact (rd_inK h).mono fun v H1 q => inK_ok (neg := true) hk hp q
theorem kt_inK (M : KMap X.K X.w X.mg x kvs) (he : PE X e (rdE X.K W m)) (hg : Gl X x := by rfl) (hd : (x == ("__debug__" : Str)) = false := by decide) : PT X (.Compare e [.In] [.Name x p] pos) (rdT X.K W (tVal (eInK false kvs m))) := by
  obtain ⟨d, es, n, hm, hk, hp⟩ := M
  refine PT.imp (pt_cmpR (op_in_kd hk) he (pe_glob (v := .ref d) hg hm rfl hd) rfl) fun σ H Q h => ?_
  exact (rd_inK (rd_asB h)).mono fun v H1 q => inK_ok (neg := false) (Q := fun x H' => ∃ k, x = V.bl k ∧ Q k H') hk hp q
theorem kt_ninK (M : KMap X.K X.w X.mg x kvs) (he : PE X e (rdE X.K W m)) (hg : Gl X x := by rfl) (hd : (x == ("__debug__" : Str)) = false := by decide) : PT X (.Compare e [.NotIn] [.Name x p] pos) (rdT X.K W (tVal (eInK true kvs m))) := by
  obtain ⟨d, es, n, hm, hk, hp⟩ := M
  refine PT.imp (pt_cmpR (op_notIn_kd hk) he (pe_glob (v := .ref d) hg hm rfl hd) rfl) fun σ H Q h => ?_
  exact (rd_inK (rd_asB h)).mono fun v H1 q => inK_ok (neg := true) (Q := fun x H' => ∃ k, x = V.bl k ∧ Q k H') hk hp q
theorem k_getK (M : KMap X.K X.w X.mg x kvs) (he : PE X e (rdE X.K W m)) (hg : Gl X x := by rfl) (hd : (x == ("__debug__" : Str)) = false := by decide) (hs : PlainIx e := by exact fun _ _ => rfl) : PE X (.Subscript (.Name x p) e pos) (rdE X.K W (eGetK kvs m)) := by
  obtain ⟨d, es, n, hm, hk, hp⟩ := M
  refine PE.imp (pe_ix ix_kdict (pe_glob (v := .ref d) hg hm rfl hd) he hs) fun σ H Q h => ?_
  obtain ⟨io, ρ, st, s, en, h⟩ := h
  refine rdE.step (f := fun ρ d => withO (asStr d) fun z => withO (kvs.lookup z) M.pure) s en h fun io1 H1 v dd st1 x1 s1 e1 r1 h1 => ?_
  obtain ⟨z, hz, h1⟩ := wpM_withO h1
  obtain ⟨d2, hl, h1⟩ := wpM_withO h1
  rw [asStr_eq hz] at r1
  rcases nsIn_map hk hp z with ⟨h2, h3⟩ | ⟨dd', u, v', h2, h3, h4, h5⟩
  · rw [hl] at h2; cases h2
  · rw [hl] at h2; cases h2
    exact ⟨d, z, v', rfl, r1, ⟨es, n, u, hk.at_, hk.lit, h3, h4⟩, h1 io1 H1 v' x1 s1 (h5 io1 H1)⟩

/-! ### comparisons by name -/
section
variable {a b c : Expr} {ma mb mc : EM} (hu : X.A.units + 64 < cLine)
include hu in
theorem k_eq (ha : PE X a (rdE X.K W ma)) (hb : PE X b (rdE X.K W mb)) : PE X (.Compare a [.Eq] [b] pos) (rdE X.K W (eBin dEq ma mb)) := k_cmp (op_eqA hu) od_eq ha hb (nomark _)
include hu in
theorem k_ne (ha : PE X a (rdE X.K W ma)) (hb : PE X b (rdE X.K W mb)) : PE X (.Compare a [.NotEq] [b] pos) (rdE X.K W (eBin dNe ma mb)) := k_cmp (op_neA hu) od_ne ha hb (nomark _)
include hu in
theorem kt_eq (ha : PE X a (rdE X.K W ma)) (hb : PE X b (rdE X.K W mb)) : PT X (.Compare a [.Eq] [b] pos) (rdT X.K W (tVal (eBin dEq ma mb))) := kt_cmp (op_eqA hu) od_eq ha hb (nomark _)
include hu in
theorem kt_ne (ha : PE X a (rdE X.K W ma)) (hb : PE X b (rdE X.K W mb)) : PT X (.Compare a [.NotEq] [b] pos) (rdT X.K W (tVal (eBin dNe ma mb))) := kt_cmp (op_neA hu) od_ne ha hb (nomark _)
theorem k_lt (ha : PE X a (rdE X.K W ma)) (hb : PE X b (rdE X.K W mb)) : PE X (.Compare a [.Lt] [b] pos) (rdE X.K W (eBin dLt ma mb)) := k_cmp op_lt od_cmpI ha hb (nomark _)
theorem k_le (ha : PE X a (rdE X.K W ma)) (hb : PE X b (rdE X.K W mb)) : PE X (.Compare a [.LtE] [b] pos) (rdE X.K W (eBin dLe ma mb)) := k_cmp op_le od_cmpI ha hb (nomark _)
theorem k_gt (ha : PE X a (rdE X.K W ma)) (hb : PE X b (rdE X.K W mb)) : PE X (.Compare a [.Gt] [b] pos) (rdE X.K W (eBin dGt ma mb)) := k_cmp op_gt od_cmpI ha hb (nomark _)
theorem k_ge (ha : PE X a (rdE X.K W ma)) (hb : PE X b (rdE X.K W mb)) : PE X (.Compare a [.GtE] [b] pos) (rdE X.K W (eBin dGe ma mb)) := k_cmp op_ge od_cmpI ha hb (nomark _)
theorem kt_lt (ha : PE X a (rdE X.K W ma)) (hb : PE X b (rdE X.K W mb)) : PT X (.Compare a [.Lt] [b] pos) (rdT X.K W (tVal (eBin dLt ma mb))) := kt_cmp op_lt od_cmpI ha hb (nomark _)
theorem kt_le (ha : PE X a (rdE X.K W ma)) (hb : PE X b (rdE X.K W mb)) : PT X (.Compare a [.LtE] [b] pos) (rdT X.K W (tVal (eBin dLe ma mb))) := kt_cmp op_le od_cmpI ha hb (nomark _)
theorem kt_gt (ha : PE X a (rdE X.K W ma)) (hb : PE X b (rdE X.K W mb)) : PT X (.Compare a [.Gt] [b] pos) (rdT X.K W (tVal (eBin dGt ma mb))) := kt_cmp op_gt od_cmpI ha hb (nomark _)
theorem kt_ge (ha : PE X a (rdE X.K W ma)) (hb : PE X b (rdE X.K W mb)) : PT X (.Compare a [.GtE] [b] pos) (rdT X.K W (tVal (eBin dGe ma mb))) := kt_cmp op_ge od_cmpI ha hb (nomark _)
theorem k_is (ha : PE X a (rdE X.K W ma)) (hb : PE X b (rdE X.K W mb)) : PE X (.Compare a [.Is] [b] pos) (rdE X.K W (eBin dIsN ma mb)) := k_cmp op_isN od_isN ha hb (nomark _)
theorem k_isnot (ha : PE X a (rdE X.K W ma)) (hb : PE X b (rdE X.K W mb)) : PE X (.Compare a [.IsNot] [b] pos) (rdE X.K W (eBin dNotN ma mb)) := k_cmp op_notN od_notN ha hb (nomark _)
theorem kt_is (ha : PE X a (rdE X.K W ma)) (hb : PE X b (rdE X.K W mb)) : PT X (.Compare a [.Is] [b] pos) (rdT X.K W (tVal (eBin dIsN ma mb))) := kt_cmp op_isN od_isN ha hb (nomark _)
theorem kt_isnot (ha : PE X a (rdE X.K W ma)) (hb : PE X b (rdE X.K W mb)) : PT X (.Compare a [.IsNot] [b] pos) (rdT X.K W (tVal (eBin dNotN ma mb))) := kt_cmp op_notN od_notN ha hb (nomark _)
/-- a op b op' c -/
def eChain (f f' : D → D → M D) (a b c : EM) : EM := fun ρ => M.bind (a ρ) fun x => M.bind (b ρ) fun y => M.bind (f x y) fun z => M.bind (asB z) fun k => if k = true then M.bind (c ρ) fun w => f' y w else M.pure (.bl false)
theorem rd_chain {f f' : D → D → M D} {r r' : R2} {σ : St} {H : Hp} {Q : VK} (o : OpD X.K W f r) (o' : OpD X.K W f' r') (h : rdE X.K W (eChain f f' ma mb mc) σ H Q) : tChain r r' (rdE X.K W ma) (rdE X.K W mb) (rdE X.K W mc) σ H Q := by
  obtain ⟨io, ρ, st, s, en, h⟩ := h
  refine rdE.step (f := fun ρ x => M.bind (mb ρ) fun y => M.bind (f x y) fun z => M.bind (asB z) fun k => if k = true then M.bind (mc ρ) fun w => f' y w else M.pure (D.bl false)) s en h fun io1 H1 v x st1 x1 s1 e1 r1 h1 => ?_
  refine rdE.step (f := fun ρ y => M.bind (f x y) fun z => M.bind (asB z) fun k => if k = true then M.bind (mc ρ) fun w => f' y w else M.pure (D.bl false)) s1 e1 h1 fun io2 H2 u y st2 x2 s2 e2 r2 h2 => ?_
  refine o io2 H2 st2 x y v u _ s2 (r1.mono x2.mon) r2 (wpM_mono (wpM_bind h2) (fun z st3 q => ?_) fun _ _ q => q)
  obtain ⟨k, rfl, q⟩ := wpM_asB q
  intro io3 H3 zv x3 s3 rz
  refine ⟨k, rz, ?_⟩
  cases k with
  | false =>
    rw [if_neg Bool.false_ne_true]
    exact (show afE X.K io H Q (.bl false) st3 from q) io3 H3 _ ((x1.trans x2).trans x3) s3 rfl
  | true =>
    rw [if_pos rfl]
    have q : wpM (M.bind (mc ρ) fun w => f' y w) st3 (afE X.K io H Q) (afX X.K io2 H2 W) := q
    refine rdE.step (f := fun ρ w => f' y w) s3 (e2.mono x3.mon) (wpM_mono q (fun _ _ z => z) fun _ _ z => z.trans x3) fun io4 H4 w dw st4 x4 s4 e4 r4 h4 => ?_
    exact o' io4 H4 st4 y dw u w Q s4 ((r2.mono x3.mon).mono x4.mon) r4 (wpM_afE (((x1.trans x2).trans x3).trans x4) h4)
end
end
end KT
namespace KT
open PySem PySem.Spec L2
open PyProof.Rows hiding St
section
variable {X : Cx} {W : XW} {pos p : Pos} {a b c : Expr} {ma mb mc : EM}
theorem k_chain {op op' : CmpOp} {f f' : D → D → M D} {r r' : R2} (ho : OpR X (compareOp op) r) (o : OpD X.K W f r) (ho' : OpR X (compareOp op') r') (o' : OpD X.K W f' r') (ha : PE X a (rdE X.K W ma)) (hb : PE X b (rdE X.K W mb)) (hc : PE X c (rdE X.K W mc))
    (hm : lastMarks [op, op'] [b, c] = false := by with_unfolding_all rfl) : PE X (.Compare a [op, op'] [b, c] pos) (rdE X.K W (eChain f f' ma mb mc)) :=
  PE.imp (pe_chain ho ho' ha hb hc hm) fun _ _ _ h => rd_chain o o' h
theorem kt_chain {op op' : CmpOp} {f f' : D → D → M D} {r r' : R2} (ho : OpR X (compareOp op) r) (o : OpD X.K W f r) (ho' : OpR X (compareOp op') r') (o' : OpD X.K W f' r') (ha : PE X a (rdE X.K W ma)) (hb : PE X b (rdE X.K W mb)) (hc : PE X c (rdE X.K W mc))
    (hm : lastMarks [op, op'] [b, c] = false := by with_unfolding_all rfl) : PT X (.Compare a [op, op'] [b, c] pos) (rdT X.K W (tVal (eChain f f' ma mb mc))) :=
  PT.imp (pt_chain ho ho' ha hb hc hm) fun _ _ _ h => rd_chain o o' (rd_asB h)
theorem k_leLe (ha : PE X a (rdE X.K W ma)) (hb : PE X b (rdE X.K W mb)) (hc : PE X c (rdE X.K W mc)) (hm : lastMarks [.LtE, .LtE] [b, c] = false := by with_unfolding_all rfl) : PE X (.Compare a [.LtE, .LtE] [b, c] pos) (rdE X.K W (eChain dLe dLe ma mb mc)) := k_chain op_le od_cmpI op_le od_cmpI ha hb hc hm
theorem kt_leLe (ha : PE X a (rdE X.K W ma)) (hb : PE X b (rdE X.K W mb)) (hc : PE X c (rdE X.K W mc)) (hm : lastMarks [.LtE, .LtE] [b, c] = false := by with_unfolding_all rfl) : PT X (.Compare a [.LtE, .LtE] [b, c] pos) (rdT X.K W (tVal (eChain dLe dLe ma mb mc))) := kt_chain op_le od_cmpI op_le od_cmpI ha hb hc hm
theorem k_leLt (ha : PE X a (rdE X.K W ma)) (hb : PE X b (rdE X.K W mb)) (hc : PE X c (rdE X.K W mc)) (hm : lastMarks [.LtE, .Lt] [b, c] = false := by with_unfolding_all rfl) : PE X (.Compare a [.LtE, .Lt] [b, c] pos) (rdE X.K W (eChain dLe dLt ma mb mc)) := k_chain op_le od_cmpI op_lt od_cmpI ha hb hc hm
theorem kt_leLt (ha : PE X a (rdE X.K W ma)) (hb : PE X b (rdE X.K W mb)) (hc : PE X c (rdE X.K W mc)) (hm : lastMarks [.LtE, .Lt] [b, c] = false := by with_unfolding_all rfl) : PT X (.Compare a [.LtE, .Lt] [b, c] pos) (rdT X.K W (tVal (eChain dLe dLt ma mb mc))) := kt_chain op_le od_cmpI op_lt od_cmpI ha hb hc hm
end
section
variable {X : Cx} {W : XW} {pos p kpos : Pos} {f : Addr} {fd : FuncData} {k : Nat} {x y : Str} {e : Expr} {m : List D → M D} {em : EM}
/-- f(y = e), y its one parameter -/
theorem k_callKw (F : FnG X.prog X.w X.K X.mg X.base k f fd [y] m) (hr : Room k X.A) (hgd : X.A.guards = some []) (hm : X.mg x = some (.ref f)) (hk : PySem.W.keepIn X.K (.ref f) = true) (hb : ∀ (s : Shared) (u : Value), BindsTo s fd ⟨[], [(y, u)]⟩ [(y, u)]) (ha : PE X e (rdE X.K W em))
    (hg : Gl X x := by rfl) (hdb : (x == ("__debug__" : Str)) = false := by decide) (hall : (backToKw pos (keywordEach [⟨some y, e, kpos⟩] X.env)).all (·.1.isSome) = true := by rfl) (hks : (backToKw pos (keywordEach [⟨some y, e, kpos⟩] X.env)).filterMap (·.1) = [y] := by rfl)
    (hpl : ((backTo pos (starEach [] X.env)).any (·.1) || (backToKw pos (keywordEach [⟨some y, e, kpos⟩] X.env)).any (·.1.isNone)) = false := by rfl) :
    PE X (.Call (.Name x p) [] [⟨some y, e, kpos⟩] pos) (rdE X.K W (eCall 1 m (aCons em aNil))) := by
  refine ⟨fun pins s σ H Q I h => wpAny_Call_Name_kw (ld_glob I hg hm ?_ hdb)⟩
  obtain ⟨io, ρ, st, sr, en, h⟩ := h
  have hA : tCons (rdE X.K W em) tNil σ H fun vs H1 => ∃ v, vs = [v] ∧ ∃ io1 st1 ds, SR X.K io1 H1 st1 ∧ RepL X.K io1 H1 ds [v] ∧ wpM (if ds.length = 1 then noX (m ds) else M.bad) st1 (afE X.K io1 H1 Q) (afX X.K io1 H1 W) := by
    have h := wpM_bind (wpM_bind h)
    refine (show rdE X.K W em σ H (fun v H1 => ∃ v', [v] = [v'] ∧ ∃ io1 st1 ds, SR X.K io1 H1 st1 ∧ RepL X.K io1 H1 ds [v'] ∧ wpM (if ds.length = 1 then noX (m ds) else M.bad) st1 (afE X.K io1 H1 Q) (afX X.K io1 H1 W)) from
      ⟨io, ρ, st, sr, en, wpM_mono h (fun d st1 z => ?_) fun _ _ z => z⟩)
    have z : wpM (if [d].length = 1 then noX (m [d]) else M.bad) st1 (afE X.K io H Q) (afX X.K io H W) := z
    exact fun io1 H1 v x1 s1 r1 => ⟨v, rfl, io1, st1, [d], s1, RepL.one r1, wpM_afE x1 (wpM_mono z (fun _ _ y => y) fun _ _ y => y.trans x1)⟩
  refine PySem.W.callWith_KW0 (h₀ := X.base) I.ok.mod.kin hk hall (thn ((pk_cons ha pk_nil).run pos pins s σ H _ I hA) fun us s1 ⟨vs, H1, I1, rv, v, ev, io1, st1, ds, s1', r1, h1⟩ => ⟨I1.kIn, ?_⟩) hpl
  rw [hks]
  subst ev
  obtain ⟨u, rfl, hru⟩ : ∃ u, us = [u] ∧ RelV v u := by
    cases rv with
    | cons r z =>
      cases z
      exact ⟨_, rfl, r⟩
  have hb1 : BindsTo s1 fd ⟨[], [(y, u)]⟩ ([y].zip [u]) := hb s1 u
  exact runG (us' := [u]) F hr hgd I1 hb1 (.cons hru .nil) s1' r1 h1
end
end KT

/-! Kt11: what the top leaves, read by a Hook: defs, constants, tables. -/
namespace KT
open PySem PySem.Spec L2
open PyProof.Rows hiding St

/-! ### constants -/
mutual
def repB (K : PySem.W.Frag) : D → Value → Bool
  | .non, u => He.relB .non u
  | .bl b, u => He.relB (.bl b) u
  | .int i, u => He.relB (.int i) u
  | .str x, u => He.relB (.str x) u
  | .tup ds, u => (match u with
    | .ref a => (match K.lookup a with
      | some ⟨.type c, _, .seq its _, _⟩ => decide (c = "tuple") && (decide (its.size ≤ sizeLine) && repBL K ds its.toList)
      | _ => false)
    | _ => false)
  | .lst ds, u => (match u with
    | .ref a => (match K.lookup a with
      | some ⟨.type c, none, .seq its _, _⟩ => decide (c = "list") && (decide (its.size ≤ sizeLine) && repBL K ds its.toList)
      | _ => false)
    | _ => false)
  | .loc _, _ => false
def repBL (K : PySem.W.Frag) : List D → List Value → Bool
  | [], us => us.isEmpty
  | d :: ds, us => (match us with
    | u :: us => repB K d u && repBL K ds us
    | [] => false)
end
mutual
theorem repB_ok {K : PySem.W.Frag} : ∀ {d : D} {u : Value}, repB K d u = true → ∃ v, RelV v u ∧ ∀ io H, Rep K io H d v
  | .non, u, h => ⟨.non, He.relB_ok h, fun _ _ => rfl⟩
  | .bl b, u, h => ⟨.bl b, He.relB_ok h, fun _ _ => rfl⟩
  | .int b, u, h => ⟨.int b, He.relB_ok h, fun _ _ => rfl⟩
  | .str b, u, h => ⟨.str b, He.relB_ok h, fun _ _ => rfl⟩
  | .tup ds, u, h => by
    unfold repB at h
    cases u with
    | ref a =>
      have h : (match K.lookup a with
        | some ⟨.type c, _, .seq its _, _⟩ => decide (c = "tuple") && (decide (its.size ≤ sizeLine) && repBL K ds its.toList)
        | _ => false) = true := h
      cases q : K.lookup a with
      | none => rw [q] at h; cases h
      | some o =>
        obtain ⟨oc, od, dt, osl⟩ := o
        rw [q] at h
        cases oc with
        | type c =>
          cases dt with
          | seq its n =>
            obtain ⟨h1, h2⟩ := He.ba (show (decide (c = "tuple") && (decide (its.size ≤ sizeLine) && repBL K ds its.toList)) = true from h)
            obtain ⟨h3, h4⟩ := He.ba h2
            obtain ⟨vs, rv, rl⟩ := repBL_ok h4
            exact ⟨.ref a, rfl, fun io H => ⟨a, vs, rfl, .inr ⟨_, its, n, q, congrArg Value.type (of_decide_eq_true h1), rfl, of_decide_eq_true h3, rv⟩, rl io H⟩⟩
          | _ => cases h
        | _ => cases dt <;> cases h
    | _ => cases h
  | .lst ds, u, h => by
    unfold repB at h
    cases u with
    | ref a =>
      have h : (match K.lookup a with
        | some ⟨.type c, none, .seq its _, _⟩ => decide (c = "list") && (decide (its.size ≤ sizeLine) && repBL K ds its.toList)
        | _ => false) = true := h
      cases q : K.lookup a with
      | none => rw [q] at h; cases h
      | some o =>
        obtain ⟨oc, od, dt, osl⟩ := o
        rw [q] at h
        cases oc with
        | type c =>
          cases od with
          | none =>
            cases dt with
            | seq its n =>
              obtain ⟨h1, h2⟩ := He.ba (show (decide (c = "list") && (decide (its.size ≤ sizeLine) && repBL K ds its.toList)) = true from h)
              obtain ⟨h3, h4⟩ := He.ba h2
              obtain ⟨vs, rv, rl⟩ := repBL_ok h4
              exact ⟨.ref a, rfl, fun io H => ⟨a, vs, rfl, .inr ⟨_, its, n, q, congrArg Value.type (of_decide_eq_true h1), rfl, rfl, of_decide_eq_true h3, rv⟩, rl io H⟩⟩
            | _ => cases h
          | some b => cases dt <;> cases h
        | _ => cases od <;> cases dt <;> cases h
    | _ => cases h
  | .loc _, _, h => by
    unfold repB at h
    cases h
theorem repBL_ok {K : PySem.W.Frag} : ∀ {ds : List D} {us : List Value}, repBL K ds us = true → ∃ vs, Vals vs us ∧ ∀ io H, RepL K io H ds vs
  | [], us, h => by
    unfold repBL at h
    cases us with
    | nil => exact ⟨[], .nil, fun _ _ => rfl⟩
    | cons _ _ => cases h
  | d :: ds, us, h => by
    unfold repBL at h
    cases us with
    | nil => cases h
    | cons u us =>
      obtain ⟨h1, h2⟩ := He.ba (show (repB K d u && repBL K ds us) = true from h)
      obtain ⟨v, r1, r2⟩ := repB_ok h1
      obtain ⟨vs, r3, r4⟩ := repBL_ok h2
      exact ⟨v :: vs, .cons r1 r3, fun io H => ⟨v, vs, rfl, r2 io H, r4 io H⟩⟩
end
/-- a name of the module that stands for d -/
def Gv (K : PySem.W.Frag) (mg : Str → Option Value) (x : Str) (d : D) : Prop := ∃ u v, mg x = some u ∧ RelV v u ∧ ∀ io H, Rep K io H d v
theorem k_gv {X : Cx} {W : XW} {x : Str} {d : D} {pos : Pos} (h : Gv X.K X.mg x d) (hg : Gl X x := by rfl) (hd : (x == ("__debug__" : Str)) = false := by decide) : PE X (.Name x pos) (rdE X.K W (eC d)) := by
  obtain ⟨u, v, h1, h2, h3⟩ := h
  exact k_glob hg h1 h2 h3 hd
def entB (K : PySem.W.Frag) : List (Str × D) → List DictEntry → Bool
  | [], es => es.isEmpty
  | p :: kvs, es => (match es with
    | e :: es => (match e.key with
      | .str x _ => decide (x = p.1)
      | _ => false) && (repB K p.2 e.val && entB K kvs es)
    | [] => false)
theorem entB_ok {K : PySem.W.Frag} : ∀ {kvs : List (Str × D)} {es : List DictEntry}, entB K kvs es = true → Paired (fun (p : Str × D) (e : DictEntry) => (∃ t, e.key = .str p.1 t) ∧ ∃ v, RelV v e.val ∧ ∀ io H, Rep K io H p.2 v) kvs es
  | [], es, h => by
    unfold entB at h
    cases es with
    | nil => exact .nil
    | cons _ _ => cases h
  | p :: kvs, es, h => by
    unfold entB at h
    cases es with
    | nil => cases h
    | cons e es =>
      obtain ⟨h1, h2⟩ := He.ba (show ((match e.key with
        | .str x _ => decide (x = p.1)
        | _ => false) && (repB K p.2 e.val && entB K kvs es)) = true from h)
      obtain ⟨h3, h4⟩ := He.ba h2
      refine .cons ⟨?_, repB_ok h3⟩ (entB_ok h4)
      cases q : e.key with
      | str x t =>
        rw [q] at h1
        have e1 : x = p.1 := of_decide_eq_true h1
        exact ⟨t, by rw [e1]⟩
      | _ => rw [q] at h1; cases h1

/-! ### facts -/
inductive Fx where
  | he (f : He.Fa)
  | gv (x : Str) (d : D)
  | map (x : Str) (kvs : List (Str × D))
def mapB (K : PySem.W.Frag) (x : Str) (kvs : List (Str × D)) : Bool := He.eqO (PySem.W.nsIn K mainGlobals x) (some (some (.ref (He.ga K x)))) && match K.lookup (He.ga K x) with
  | some ⟨_, _, .dict es _, _⟩ => entB K kvs es.toList
  | _ => false
def gvB (K : PySem.W.Frag) (x : Str) (d : D) : Bool := match PySem.W.nsIn K mainGlobals x with
  | some (some u) => repB K d u
  | _ => false
def Fx.ok (K : PySem.W.Frag) : Fx → Bool
  | .he f => f.ok K
  | .gv x d => gvB K x d
  | .map x kvs => mapB K x kvs
theorem gv_ok {K : PySem.W.Frag} {h : Heap} {mg : Str → Option Value} (X : K.In h) (G : h.Ns mainGlobals mg) {x : Str} {d : D} (c : (Fx.gv x d).ok K = true) : Gv K mg x d := by
  have c : gvB K x d = true := c
  unfold gvB at c
  cases e : PySem.W.nsIn K mainGlobals x with
  | none => rw [e] at c; cases c
  | some o =>
    rw [e] at c
    cases o with
    | none => cases c
    | some u =>
      obtain ⟨v, r1, r2⟩ := repB_ok c
      exact ⟨u, v, PySem.W.mg_of X G e, r1, r2⟩
theorem map_ok {K : PySem.W.Frag} {h : Heap} {mg : Str → Option Value} {w : World} (X : K.In h) (G : h.Ns mainGlobals mg) {x : Str} {kvs : List (Str × D)} (c : (Fx.map x kvs).ok K = true) (t : ∃ es n, KDict K w (He.ga K x) es n) : KMap K w mg x kvs := by
  obtain ⟨c1, c2⟩ := He.ba (show (He.eqO (PySem.W.nsIn K mainGlobals x) (some (some (.ref (He.ga K x)))) && match K.lookup (He.ga K x) with
    | some ⟨_, _, .dict es _, _⟩ => entB K kvs es.toList
    | _ => false) = true from c)
  obtain ⟨es, n, D⟩ := t
  rw [D.at_] at c2
  exact ⟨_, es, n, PySem.W.mg_of X G (He.eqO_ok c1), D, entB_ok c2⟩
abbrev AlX : Type := Bool × He.AlT
def tabOf (t : Str × List Str) : He.Tab := (fun K => He.ga K t.1, t.2)
def obsX (fx : List Fx) (fn : List He.DefD) (ts : List (Str × List Str)) (K : PySem.W.Frag) : AlX := (fx.all fun f => f.ok K, He.obsT [] fn (ts.map tabOf) K)
def valX (fn : List He.DefD) (ts : List (Str × List Str)) (w : World) : AlX := (true, He.valT fn (ts.map tabOf) w)
def SaysX (fx : List Fx) (fn : List He.DefD) (ts : List (Str × List Str)) (w : World) (K : PySem.W.Frag) : Prop := obsX fx fn ts K = valX fn ts w
def obsXG (n : Nat) (fx : List Fx) (fn : List He.DefD) (ts : List (Str × List Str)) (g : Addr → Option Obj) : AlX := obsX fx fn ts (He.frG g (He.asD g n))
def hookX (n : Nat) (fx : List Fx) (fn : List He.DefD) (ts : List (Str × List Str)) : PySem.W.Hook where
  α := AlX
  obs := fun s => obsXG n fx fn ts s.heap.get?
  val := fun w => valX fn ts w
  says := fun w h => ∃ K : PySem.W.Frag, K.In h ∧ SaysX fx fn ts w K
  of := fun _ _ e => ⟨_, He.frG_in, e⟩
  keeps := fun _ _ _ ⟨K, hK, c⟩ k => ⟨K, PySem.W.Frag.In.keeps hK k, c⟩
theorem obsXG_eq {n : Nat} {fx : List Fx} {fn : List He.DefD} {ts : List (Str × List Str)} {g : Addr → Option Obj} {s : Shared} (h : ∀ a, g a = s.heap.get? a) : obsXG n fx fn ts g = (hookX n fx fn ts).obs s := by
  have e : g = s.heap.get? := funext h
  rw [e] <;> rfl
section
variable {fx : List Fx} {fn : List He.DefD} {ts : List (Str × List Str)} {w : World} {K : PySem.W.Frag}
theorem SaysX.t (c : SaysX fx fn ts w K) : He.SaysT [] fn (ts.map tabOf) w K := congrArg (fun z : AlX => z.2) c
theorem SaysX.fact (c : SaysX fx fn ts w K) {f : Fx} (h : f ∈ fx) : f.ok K = true := List.all_eq_true.mp (congrArg (fun z : AlX => z.1) c) f h
theorem SaysX.def_ (c : SaysX fx fn ts w K) {d : He.DefD} (h : d ∈ fn) : ∃ fd, FunD K d.name d.qual d.params d.body d.scope (d.dvs K) (d.kws K) (He.fAd K d.at_) fd := by
  obtain ⟨i, hi, e⟩ := List.mem_iff_getElem.mp h
  exact c.t.d.def_ i (by rw [← e]; exact List.getElem?_eq_getElem hi)
theorem SaysX.tab (c : SaysX fx fn ts w K) {t : Str × List Str} (h : t ∈ ts) : ∃ es n, KDict K w (He.ga K t.1) es n := by
  obtain ⟨i, hi, e⟩ := List.mem_iff_getElem.mp h
  exact c.t.tab i (t := tabOf t) (by rw [List.getElem?_map, List.getElem?_eq_getElem hi, e]; rfl)
end
/-! ### a def that may be called -/
structure Cl (K : PySem.W.Frag) (mg : Str → Option Value) (x : Str) (st : Stmt) (ps : List Str) (f : Addr) (fd : FuncData) : Prop where
  fn : Fun K x x st f fd
  mgf : mg x = some (.ref f)
  bd : Binds K fd ps []
theorem Cl.kp {K : PySem.W.Frag} {mg : Str → Option Value} {x : Str} {st : Stmt} {ps : List Str} {f : Addr} {fd : FuncData} (c : Cl K mg x st ps f fd) : PySem.W.keepIn K (.ref f) = true := c.fn.kp
theorem cl_of {K : PySem.W.Frag} {mg : Str → Option Value} {x : Str} {st : Stmt} {ps : List Str} {f : Addr} {fd : FuncData} {h : Heap} (X : K.In h) (G : h.Ns mainGlobals mg)
    (F : FunD K x x (defArgs st) (defBody st) (defScope st) [] [] f fd) (ef : f = He.ga K x) (c : (He.Fa.glo x).ok K = true)
    (b : ∀ (kV doc pm : Value) (an : Option Addr) (cdv ct : Value) (us : List Value), us.length = ps.length → bindArgs (PySem.W.fnOf x x (defArgs st) (defBody st) (defScope st) .none kV doc pm an cdv ct) ⟨us, []⟩ = Pure.pure (ps.zip us)) : Cl K mg x st ps f fd := by
  have m : mg x = some (.ref f) := by rw [ef]; exact He.glo_ok X G c
  obtain ⟨⟨oc, od, dV, kV, doc, pm, an, cdv, ct, osl, rfl, l, hc, dv, _⟩, kp⟩ := F
  obtain rfl : dV = .none := by
    rcases dv with ⟨_, e⟩ | ⟨n, _⟩
    · exact e
    · exact absurd rfl n
  have F' := fun_mk (st := st) l hc kp
  exact ⟨F', m, F'.binds b⟩
/-- the goal that a head by a Hook leaves -/
theorem law_ofE {l : PySem.W.OpenLaw} {n k : Nat} {q : Program} {loose : List Str} {XP : (Str → Option Value) → Heap → Prop} {YP : World → Heap → Prop} {d : DefRec} {x : Str} (m : World → List D → M D)
    (hn : l.most = some n) (hn2 : n ≤ sizeLine) (hdf : d.params.defaults = []) (hr : Room k callerA)
    (F : ∀ (w : World) (mg : Str → Option Value) (fa : Addr) (h : Heap), YP w h → h.Ns mainGlobals mg → mg d.name = some (.ref fa) →
      ∃ (K : PySem.W.Frag) (fd : FuncData), K.In h ∧ (∀ (s : Shared) (u : Value), BindsTo s fd ⟨[u], []⟩ [(x, u)]) ∧ ∀ base : Heap, K.In base → base.Ns mainGlobals mg → FnG l.prog w K mg base k fa fd [x] (m w))
    (hm : ∀ (w : World) (ns : List Int), ns.length ≤ n → (∀ z ∈ ns, Builtin.Int.intBits z ≤ 1048576) → wpM (m w [.lst (ns.map D.int)]) [] (fun d _ => d = .bl true) fun _ _ => False) :
    PySem.W.WalkO q loose XP YP l.row.toRowW d [] (fun f vs => PySem.call f vs) :=
  Att.attach_callB hn hdf fun w s₀ s₁ mg mb fa o pm cd doc a vs ns G Y ho hd hcd hmg hobj hints hlen hbits hg => by
    obtain ⟨K, fd, KX, hb, hF⟩ := F w mg fa _ Y G.T.g hmg
    exact law_in KX G.T.g G.T.b G.T.builtins G.T.nolimit hg hobj hints (Nat.le_trans hlen hn2) hr hF hb (hm w ns hlen hbits)
theorem ks_bad {X : Cx} {W : XW} {st : Stmt} : PS X st (rdS X.K W fun _ => M.bad) := ⟨fun pins s σ H E I h => by
  obtain ⟨_, _, _, _, _, h⟩ := h
  exact h.elim⟩
end KT

/-! Kt12: += of integers; the top's statements. -/
namespace KT
open PySem PySem.Spec L2
open PyProof.Rows hiding St
def dIntG (g : Int → Int → Int) (x y : D) : M D := int2 x y fun i j => M.pure (.int (g i j))
theorem od_ip {K : PySem.W.Frag} {W : XW} {g : Int → Int → Int} : OpD K W (dIntG g) (ipI g) := by
  intro io H st x y v u Q s rx ry h
  obtain ⟨i, j, rfl, rfl, h⟩ := wpM_int2 h
  exact ⟨i, j, rx, ry, h io H _ (Ext.refl _ _) s rfl⟩
abbrev dInc : D → D → M D := dIntG fun i j => i + j
theorem ks_inc (i : Nat) {X : Cx} {W : XW} {pos : Pos} {x : Str} {e : Expr} {m : EM} {pos' : Pos} (hN : X.N.Nodup) (he : PE X e (rdE X.K W m)) (hi : X.N[i]? = some x := by rfl) (hx : Loc X.env.scope x := by first | exact Or.inl rfl | exact Or.inr rfl) (hf : X.fn x = true ∨ X.env.scope.names.lookup x = some .local := by first | exact .inl rfl | exact .inr rfl) :
    PS X (.AugAssign (.Name x pos') .Add e pos) (rdS X.K W (sAug i dInc m)) := ks_aug i ip_add od_ip hN he hi hx hf
section
variable {X : Cx} {W : XW} {pos p : Pos} {f : Addr} {fd : FuncData} {ps : List Str} {m : List D → M D} {k j : Nat} {x : Str} {e : Expr} {es : List Expr} {r : AM}
/-- a call, the number of arguments apart -/
theorem k_callN (F : FnG X.prog X.w X.K X.mg X.base k f fd ps m) (hr : Room k X.A) (hgd : X.A.guards = some []) (hm : X.mg x = some (.ref f)) (hk : PySem.W.keepIn X.K (.ref f) = true) (hb : Binds X.K fd ps []) (ha : PA X (e :: es) (rdA X.K W r))
    (hl : ps.length = j := by rfl) (hg : Gl X x := by rfl) (hdb : (x == ("__debug__" : Str)) = false := by decide) (he : starEach (e :: es) X.env = (false, eval e X.env) :: starEach es X.env := by rfl) (hpl : (backTo pos (starEach es X.env)).any (·.1) = false := by rfl) :
    PE X (.Call (.Name x p) (e :: es) [] pos) (rdE X.K W (eCall j m r)) := by
  subst hl
  exact k_call F hr hgd hm hk hb ha hg hdb he hpl
end
theorem hu66 {A : Around} {k : Nat} (r : Room k A) : A.units + 66 < cLine := by have := r.un; omega
section
variable {fx : List Fx} {fn : List He.DefD} {ts : List (Str × List Str)} {w : World} {K : PySem.W.Frag}
theorem SaysX.factI (c : SaysX fx fn ts w K) (i : Nat) {f : Fx} (h : fx[i]? = some f := by rfl) : f.ok K = true := c.fact (List.mem_of_getElem? h)
theorem SaysX.defI (c : SaysX fx fn ts w K) (i : Nat) {d : He.DefD} (h : fn[i]? = some d := by rfl) : ∃ fd, FunD K d.name d.qual d.params d.body d.scope (d.dvs K) (d.kws K) (He.fAd K d.at_) fd := c.def_ (List.mem_of_getElem? h)
theorem SaysX.tabI (c : SaysX fx fn ts w K) (i : Nat) {t : Str × List Str} (h : ts[i]? = some t := by rfl) : ∃ es n, KDict K w (He.ga K t.1) es n := c.tab (List.mem_of_getElem? h)
theorem bind_of {x q : Str} {params : Arguments} {body : List Stmt} {scope : Scope} {f : Addr} {fd : FuncData} {a : Value → Args} {b : Value → List (Str × Value)} (F : FunD K x q params body scope [] [] f fd)
    (h : ∀ (kV doc pm : Value) (an : Option Addr) (cdv ct : Value) (u : Value), bindArgs (PySem.W.fnOf x q params body scope .none kV doc pm an cdv ct) (a u) = Pure.pure (b u)) : ∀ (s : Shared) (u : Value), BindsTo s fd (a u) (b u) := by
  obtain ⟨⟨oc, od, dV, kV, doc, pm, an, cdv, ct, osl, rfl, l, hc, dv, _⟩, kp⟩ := F
  obtain rfl : dV = .none := by
    rcases dv with ⟨_, e⟩ | ⟨n, _⟩
    · exact e
    · exact absurd rfl n
  exact fun s u => .of_eq (h kV doc pm an cdv ct u)
end
abbrev sBad : SM := fun _ => M.bad
end KT

/-! Kp: evaluating mirrors by simp. -/
namespace KT
open PySem PySem.Spec L2
open PyProof.Rows hiding St
def Res.to {α β : Type} (r : Res α) (f : α → M β) : Res β := match r with
  | .ok a s => f a s
  | .exc x s => .exc x s
  | .bad => .bad
@[simp] theorem to_ok {α β : Type} (a : α) (s : Sto) (f : α → M β) : (Res.ok a s).to f = f a s := rfl
@[simp] theorem bind_at {α β : Type} (m : M α) (f : α → M β) (st : Sto) : M.bind m f st = (m st).to f := by
  unfold M.bind Res.to
  rfl
@[simp] theorem pure_at {α : Type} (a : α) (st : Sto) : M.pure a st = .ok a st := rfl
@[simp] theorem bad_at {α : Type} (st : Sto) : (M.bad : M α) st = .bad := rfl
@[simp] theorem ofO_some {α : Type} (a : α) : M.ofO (some a) = M.pure a := rfl
@[simp] theorem withO_some {α β : Type} (a : α) (f : α → M β) : withO (some a) f = f a := rfl
@[simp] theorem noX_at {α : Type} (m : M α) (st : Sto) : noX m st = match m st with
  | .ok a s => .ok a s
  | _ => .bad := rfl
theorem ite_at {α : Type} {c : Prop} [Decidable c] (a b : M α) (st : Sto) : (if c then a else b) st = if c then a st else b st := by split <;> rfl
section
variable {ρ : En} {st : Sto}
@[simp] theorem v_var (i : Nat) : eVar i ρ = M.ofO (ρ[i]?.getD none) := rfl
@[simp] theorem v_c (d : D) : eC d ρ = M.pure d := rfl
@[simp] theorem v_bin (f : D → D → M D) (a b : EM) : eBin f a b ρ = M.bind (a ρ) fun x => M.bind (b ρ) fun y => f x y := rfl
@[simp] theorem v_un (f : D → M D) (a : EM) : eUn f a ρ = M.bind (a ρ) f := rfl
@[simp] theorem v_val (a : EM) : tVal a ρ = M.bind (a ρ) asB := rfl
@[simp] theorem asB_bl (b : Bool) : asB (.bl b) = M.pure b := rfl
@[simp] theorem v_tand (a b : TM) : tAndM a b ρ = M.bind (a ρ) fun x => if x = true then b ρ else M.pure false := rfl
@[simp] theorem v_tor (a b : TM) : tOrM a b ρ = M.bind (a ρ) fun x => if x = true then M.pure true else b ρ := rfl
@[simp] theorem v_tnot (a : TM) : tNotM a ρ = M.bind (a ρ) fun x => M.pure (!x) := rfl
@[simp] theorem v_and (a b : EM) : eAnd a b ρ = M.bind (a ρ) fun x => M.bind (asB x) fun c => if c = true then b ρ else M.pure (.bl false) := rfl
@[simp] theorem v_or (a b : EM) : eOr a b ρ = M.bind (a ρ) fun x => M.bind (asB x) fun c => if c = true then M.pure (.bl true) else b ρ := rfl
@[simp] theorem v_not (a : EM) : eNot a ρ = M.bind (a ρ) fun x => M.bind (asB x) fun c => M.pure (.bl (!c)) := rfl
@[simp] theorem v_if (t : TM) (a b : EM) : eIf t a b ρ = M.bind (t ρ) fun c => if c = true then a ρ else b ρ := rfl
@[simp] theorem v_anil : aNil ρ = M.pure [] := rfl
@[simp] theorem v_acons (a : EM) (r : AM) : aCons a r ρ = M.bind (a ρ) fun x => M.bind (r ρ) fun xs => M.pure (x :: xs) := rfl
@[simp] theorem v_tup (r : AM) : eTup r ρ = M.bind (r ρ) fun xs => if xs.length ≤ sizeLine then M.pure (.tup xs) else M.bad := rfl
@[simp] theorem v_lst (r : AM) : eLst r ρ = M.bind (r ρ) fun xs => if xs.length ≤ sizeLine then M.pure (.lst xs) else M.bad := rfl
@[simp] theorem v_new (r : AM) : eNew r ρ = M.bind (r ρ) fun xs => if xs.length ≤ sizeLine then mNew xs else M.bad := rfl
@[simp] theorem new_at (xs : List D) : mNew xs st = .ok (.loc st.length) (st ++ [.lst xs]) := rfl
@[simp] theorem v_fn (f : List D → M D) (r : AM) : eFn f r ρ = M.bind (r ρ) f := rfl
@[simp] theorem v_call (n : Nat) (m : List D → M D) (r : AM) : eCall n m r ρ = M.bind (r ρ) fun ds => if ds.length = n then noX (m ds) else M.bad := rfl
@[simp] theorem v_seq (a b : SM) : sSeq a b ρ = M.bind (a ρ) (thenS b) := rfl
@[simp] theorem then_nx (b : SM) (ρ' : En) : thenS b (.nx ρ') = b ρ' := rfl
@[simp] theorem then_rt (b : SM) (d : D) : thenS b (.rt d) = M.pure (.rt d) := rfl
@[simp] theorem v_snil : sNil ρ = M.pure (.nx ρ) := rfl
@[simp] theorem v_expr (e : EM) : sExpr e ρ = M.bind (e ρ) fun _ => M.pure (.nx ρ) := rfl
@[simp] theorem v_ret (e : EM) : sRet e ρ = M.bind (e ρ) fun d => M.pure (.rt d) := rfl
@[simp] theorem v_retN : sRetN ρ = M.pure (.rt .non) := rfl
@[simp] theorem v_sif (t : TM) (a b : SM) : sIf t a b ρ = M.bind (t ρ) fun c => if c = true then a ρ else b ρ := rfl
@[simp] theorem v_slot (i : Nat) (d : D) : gSlot i d ρ = M.pure (ρ.set i (some d)) := rfl
@[simp] theorem v_gsnil : gsNil [] ρ = M.pure ρ := rfl
@[simp] theorem v_gscons (g : GM) (r : GMs) (d : D) (ds : List D) : gsCons g r (d :: ds) ρ = M.bind (g d ρ) fun ρ1 => r ds ρ1 := rfl
@[simp] theorem v_gtup (n : Nat) (g : GMs) (ds : List D) : gTupD n g (.tup ds) ρ = if ds.length = n then g ds ρ else M.bad := rfl
@[simp] theorem v_gunl (n : Nat) (g : GMs) (k : Nat) : gUnlD n g (.loc k) ρ = M.bind (mGet k) fun ds => if ds.length = n then g ds ρ else M.bad := rfl
theorem get_at {k : Nat} {ds : List D} (h : st[k]? = some (.lst ds)) : mGet k st = .ok ds st := by
  unfold mGet
  rw [h]
@[simp] theorem v_asg (e : EM) (g : GM) : sAsg e g ρ = M.bind (e ρ) fun d => M.bind (g d ρ) fun ρ1 => M.pure (.nx ρ1) := rfl
@[simp] theorem v_set (i : Nat) (e : EM) : sSet i e ρ = M.bind (e ρ) fun d => M.pure (.nx (ρ.set i (some d))) := rfl
@[simp] theorem v_par2 (i j : Nat) (r : AM) : sPar2 i j r ρ = M.bind (r ρ) fun ds => match ds with
  | [a, b] => M.pure (.nx ((ρ.set i (some a)).set j (some b)))
  | _ => M.bad := rfl
@[simp] theorem v_par3 (i j l : Nat) (r : AM) : sPar3 i j l r ρ = M.bind (r ρ) fun ds => match ds with
  | [a, b, c] => M.pure (.nx (((ρ.set i (some a)).set j (some b)).set l (some c)))
  | _ => M.bad := rfl
@[simp] theorem v_aug (i : Nat) (f : D → D → M D) (e : EM) : sAug i f e ρ = M.bind (eVar i ρ) fun x => M.bind (e ρ) fun y => M.bind (f x y) fun z => M.pure (.nx (ρ.set i (some z))) := rfl
@[simp] theorem v_gsub (o i : EM) (f : D → D → D → M Unit) (d : D) : gSubD o i f d ρ = M.bind (o ρ) fun x => M.bind (i ρ) fun y => M.bind (f x y d) fun _ => M.pure ρ := rfl
@[simp] theorem v_for (m : IM) (g : GM) (b : SM) : sFor m g b ρ = M.bind (m ρ) fun ds => forL g b ds ρ := rfl
@[simp] theorem v_while (fu : Nat) (t : TM) (b : SM) : sWhile fu t b ρ = whL t b fu ρ := rfl
@[simp] theorem v_ilst (e : EM) : iLst e ρ = M.bind (e ρ) fun x => withO (asLst x) fun ds => M.pure ds := rfl
@[simp] theorem v_itup (e : EM) : iTupM e ρ = M.bind (e ρ) fun x => withO (asTup x) fun ds => M.pure ds := rfl
@[simp] theorem v_istr (e : EM) : iStrM e ρ = M.bind (e ρ) fun x => withO (asStr x) fun z => M.pure (signsD z) := rfl
@[simp] theorem v_comp (vs : List Nat) (m : IM) (g : GM) (t : TM) (e : EM) : eComp vs m g t e ρ = M.bind (m ρ) fun ds => if ds.length ≤ sizeLine then M.bind (noX (compL g t e (wipeD ρ vs) ds)) fun ys => M.pure (.lst ys) else M.bad := rfl
@[simp] theorem v_yes : tYesM ρ = M.pure true := rfl
@[simp] theorem v_isi (T : String) (e : EM) : eIsi T e ρ = M.bind (e ρ) (dIsi T) := rfl
@[simp] theorem v_m1 (f : Str → D → M D) (o e : EM) : eM1 f o e ρ = M.bind (o ρ) fun x => withO (asStr x) fun a => M.bind (e ρ) fun y => f a y := rfl
@[simp] theorem v_sl (e : EM) (lo hi : OM) (f : D → Option Int → Option Int → M D) : eSl e lo hi f ρ = M.bind (e ρ) fun d => M.bind (lo ρ) fun l => M.bind (hi ρ) fun u => f d l u := rfl
@[simp] theorem v_onone : oNone ρ = M.pure none := rfl
@[simp] theorem v_osome (e : EM) : oSome e ρ = M.bind (e ρ) fun d => withO (asInt d) fun i => M.pure (some i) := rfl
@[simp] theorem v_append (o e : EM) : eAppend o e ρ = M.bind (o ρ) fun x => withO (locOf x) fun n => M.bind (e ρ) fun d => appM n d := rfl
@[simp] theorem v_pop (o : EM) : ePop o ρ = M.bind (o ρ) fun x => withO (locOf x) popM := rfl
@[simp] theorem v_inK (neg : Bool) (kvs : List (Str × D)) (m : EM) : eInK neg kvs m ρ = M.bind (m ρ) fun d => withO (asStr d) fun z => M.pure (.bl (if neg then !(kvs.lookup z).isSome else (kvs.lookup z).isSome)) := rfl
@[simp] theorem v_getK (kvs : List (Str × D)) (m : EM) : eGetK kvs m ρ = M.bind (m ρ) fun d => withO (asStr d) fun z => withO (kvs.lookup z) M.pure := rfl
@[simp] theorem v_chain (f f' : D → D → M D) (a b c : EM) : eChain f f' a b c ρ = M.bind (a ρ) fun x => M.bind (b ρ) fun y => M.bind (f x y) fun z => M.bind (asB z) fun k => if k = true then M.bind (c ρ) fun w => f' y w else M.pure (.bl false) := rfl
@[simp] theorem v_range (r : AM) : iRange1 r ρ = M.bind (r ρ) fun ds => match ds with
  | [x] => withO (asInt x) fun n => if -(2 ^ 62) ≤ n ∧ n < 2 ^ 62 then M.pure ((List.range n.toNat).map fun i => D.int (i : Nat)) else M.bad
  | _ => M.bad := rfl
@[simp] theorem v_zip (r : AM) : iZipTSM r ρ = M.bind (r ρ) fun ds => match ds with
  | [x, y] => withO (asTup x) fun xs => withO (asStr y) fun z => M.pure (xs.zipWith (fun x y => D.tup [x, y]) (signsD z))
  | _ => M.bad := rfl
theorem cut_1 (x : D) (xs : List D) : cutD (x :: xs) (some 1) none = xs := by
  unfold cutD HT.sIx
  simp
theorem cut_1t (x : D) (xs : List D) : dSlT (.tup (x :: xs)) (some 1) none = M.pure (.tup xs) := by
  show (M.pure (D.tup (cutD (x :: xs) (some 1) none)) : M D) = _
  rw [cut_1]
theorem cut_1l (x : D) (xs : List D) : dSlL (.lst (x :: xs)) (some 1) none = M.pure (.lst xs) := by
  show (M.bind (M.pure (x :: xs)) (fun ds => M.pure (D.lst (cutD ds (some 1) none))) : M D) = _
  funext st
  rw [bind_at, pure_at, to_ok, cut_1]
theorem set_at {n j : Nat} {k : Int} {ds : List D} {d : D} (h : mGet n st = .ok ds st) (e : ixN ds.length k = some j) : dSetIx (.loc n) (.int k) d st = .ok () (st.set n (.lst (ds.set j d))) := by
  show (M.bind (mGet n) fun ds => withO (ixN ds.length k) fun j => fun st => .ok () (st.set n (.lst (ds.set j d)))) st = _
  rw [bind_at, h, to_ok, e]
  rfl
@[simp] theorem v_f1 (f : D → M D) (x : D) : f1 f [x] = f x := rfl
@[simp] theorem v_f2 (f : D → D → M D) (x y : D) : f2 f [x, y] = f x y := rfl
@[simp] theorem v_fun (n : Nat) (b : SM) (ds : List D) : mFun n b ds st = (b (ds.map some ++ List.replicate (n - ds.length) none) st).to fun o => match o with
  | .rt d => M.pure d
  | .nx _ => M.pure .non
  | _ => M.bad := by
  unfold mFun
  first
    | (rw [bind_at]; done)
    | (rw [bind_at]; rfl)
@[simp] theorem asInt_i (i : Int) : asInt (.int i) = some i := rfl
@[simp] theorem asStr_s (x : Str) : asStr (.str x) = some x := rfl
@[simp] theorem asTup_t (x : List D) : asTup (.tup x) = some x := rfl
@[simp] theorem asLst_l (x : List D) : asLst (.lst x) = some x := rfl
@[simp] theorem locOf_l (n : Nat) : locOf (.loc n) = some n := rfl
@[simp] theorem d_add_i (i j : Int) : dAdd (.int i) (.int j) = M.pure (.int (i + j)) := rfl
theorem d_add_s {a b : Str} (h : a.length + b.length ≤ sizeLine) : dAdd (.str a) (.str b) = M.pure (.str (a ++ b)) := if_pos h
theorem d_add_t {a b : List D} (h : a.length + b.length ≤ sizeLine) : dAdd (.tup a) (.tup b) = M.pure (.tup (a ++ b)) := if_pos h
@[simp] theorem d_sub_i (i j : Int) : dSub (.int i) (.int j) = M.pure (.int (i - j)) := rfl
@[simp] theorem d_neg_i (i : Int) : dNeg (.int i) = M.pure (.int (-i)) := rfl
@[simp] theorem d_inc_i (i j : Int) : dIntG (fun i j => i + j) (.int i) (.int j) = M.pure (.int (i + j)) := rfl
@[simp] theorem d_lt_i (g : Int → Int → Bool) (i j : Int) : dCmpI g (.int i) (.int j) = M.pure (.bl (g i j)) := rfl
@[simp] theorem d_max_i (i j : Int) : dMax (.int i) (.int j) = M.pure (.int (if j > i then j else i)) := rfl
@[simp] theorem d_min_i (i j : Int) : dMin (.int i) (.int j) = M.pure (.int (if j < i then j else i)) := rfl
@[simp] theorem d_abs_i (i : Int) : dAbs (.int i) = M.pure (.int (if i < 0 then -i else i)) := rfl
@[simp] theorem d_int_i (i : Int) : dIntOf (.int i) = M.pure (.int i) := rfl
@[simp] theorem d_eq_s (a b : Str) : dEq (.str a) (.str b) = M.pure (.bl (decide (a = b))) := by
  show M.bind (M.ofO (some (decide (V.str a = V.str b)))) _ = _
  have e : decide (V.str a = V.str b) = decide (a = b) := by simp
  rw [e]; rfl
@[simp] theorem d_ne_s (a b : Str) : dNe (.str a) (.str b) = M.pure (.bl (!decide (a = b))) := by
  show M.bind (M.ofO (some (decide (V.str a = V.str b)))) _ = _
  have e : decide (V.str a = V.str b) = decide (a = b) := by simp
  rw [e]; rfl
@[simp] theorem d_eq_i (a b : Int) : dEq (.int a) (.int b) = M.pure (.bl (decide (a = b))) := by
  show M.bind (M.ofO (some (decide (V.int a = V.int b)))) _ = _
  have e : decide (V.int a = V.int b) = decide (a = b) := by simp
  rw [e]; rfl
@[simp] theorem d_ne_i (a b : Int) : dNe (.int a) (.int b) = M.pure (.bl (!decide (a = b))) := by
  show M.bind (M.ofO (some (decide (V.int a = V.int b)))) _ = _
  have e : decide (V.int a = V.int b) = decide (a = b) := by simp
  rw [e]; rfl
@[simp] theorem d_isN (x : D) : dIsN x .non = M.pure (.bl (isNon x)) := rfl
@[simp] theorem d_notN (x : D) : dNotN x .non = M.pure (.bl (!isNon x)) := rfl
@[simp] theorem items_t (x : List D) : itemsM (.tup x) = M.pure x := rfl
@[simp] theorem items_l (x : List D) : itemsM (.lst x) = M.pure x := rfl
@[simp] theorem items_o (n : Nat) : itemsM (.loc n) = mGet n := rfl
@[simp] theorem list_l (x : List D) : listM (.lst x) = M.pure x := rfl
@[simp] theorem list_o (n : Nat) : listM (.loc n) = mGet n := rfl
@[simp] theorem d_ix_t (x : List D) (i : Int) : dIx (.tup x) (.int i) = M.ofO (atI x i) := rfl
@[simp] theorem d_ix_l (x : List D) (i : Int) : dIx (.lst x) (.int i) = M.ofO (atI x i) := rfl
@[simp] theorem d_ix_o (n : Nat) (i : Int) : dIx (.loc n) (.int i) = M.bind (mGet n) fun ds => M.ofO (atI ds i) := rfl
@[simp] theorem d_len_t (x : List D) : dLen (.tup x) = M.pure (.int x.length) := rfl
@[simp] theorem d_len_l (x : List D) : dLen (.lst x) = M.pure (.int x.length) := rfl
@[simp] theorem d_len_o (n : Nat) : dLen (.loc n) = M.bind (mGet n) fun ds => M.pure (.int ds.length) := rfl
@[simp] theorem d_tup_l (x : List D) : dTupOf (.lst x) = M.pure (.tup x) := rfl
@[simp] theorem d_tup_o (n : Nat) : dTupOf (.loc n) = M.bind (mGet n) fun ds => M.pure (.tup ds) := rfl
@[simp] theorem d_str_s (x : Str) : dStrOf (.str x) = M.pure (.str x) := rfl
theorem d_str_i {i : Int} (h : i.natAbs.log2 < 1920) : dStrOf (.int i) = M.pure (.str (toString i)) := if_pos h
theorem atI_nat {α : Type} {xs : List α} {j : Nat} : atI xs (j : Int) = xs[j]? := by
  unfold atI ixN
  rw [if_pos (Int.natCast_nonneg j)]
  by_cases h : j < xs.length
  · rw [if_pos (Int.ofNat_lt.mpr h)]; rfl
  · rw [if_neg (by omega), List.getElem?_eq_none (by omega)]; rfl
@[simp] theorem atI_0 {α : Type} (x : α) (xs : List α) : atI (x :: xs) 0 = some x := atI_nat (j := 0)
@[simp] theorem atI_1 {α : Type} (x y : α) (xs : List α) : atI (x :: y :: xs) 1 = some y := atI_nat (j := 1)
@[simp] theorem atI_2 {α : Type} (x y z : α) (xs : List α) : atI (x :: y :: z :: xs) 2 = some z := atI_nat (j := 2)
@[simp] theorem atI_3 {α : Type} (x y z u : α) (xs : List α) : atI (x :: y :: z :: u :: xs) 3 = some u := atI_nat (j := 3)
end
/-- a comprehension with one name and no test, nothing of the store touched -/
theorem comp_map {i : Nat} {e : EM} {ρ : En} {st : Sto} {F : D → D} : ∀ {ds : List D}, (∀ d ∈ ds, e (ρ.set i (some d)) st = .ok (F d) st) → compL (gSlot i) tYesM e ρ ds st = .ok (ds.map F) st
  | [], _ => rfl
  | d :: ds, h => by
    have h2 := comp_map (ds := ds) fun x hx => h x (List.mem_cons_of_mem _ hx)
    unfold compL
    simp [h d (List.mem_cons_self ..), h2]
theorem comp_of {α : Type} {i : Nat} {e : EM} {ρ : En} {st : Sto} {f g : α → D} : ∀ {l : List α}, (∀ a ∈ l, e (ρ.set i (some (f a))) st = .ok (g a) st) → compL (gSlot i) tYesM e ρ (l.map f) st = .ok (l.map g) st
  | [], _ => rfl
  | a :: l, h => by
    have h2 := comp_of (l := l) fun x hx => h x (List.mem_cons_of_mem _ hx)
    rw [List.map_cons, List.map_cons]
    unfold compL
    simp [h a (List.mem_cons_self ..), h2]
theorem comp_pair {α : Type} {i j : Nat} {e : EM} {ρ : En} {st : Sto} {f g h : α → D} : ∀ {l : List α}, (∀ a ∈ l, e ((ρ.set i (some (f a))).set j (some (g a))) st = .ok (h a) st) →
    compL (gTupD 2 (gsCons (gSlot i) (gsCons (gSlot j) gsNil))) tYesM e ρ (l.map fun a => .tup [f a, g a]) st = .ok (l.map h) st
  | [], _ => rfl
  | a :: l, q => by
    have h2 := comp_pair (l := l) (e := e) (ρ := ρ) (st := st) (f := f) (g := g) (h := h) fun x hx => q x (List.mem_cons_of_mem _ hx)
    rw [List.map_cons, List.map_cons]
    unfold compL
    simp [ite_at, q a (List.mem_cons_self ..), h2]
theorem all_true {α : Type} (l : List α) : dAll (.lst (l.map fun _ => .bl true)) = M.pure (.bl true) := by
  have e : (l.map fun _ => D.bl true).mapM asBl = some (l.map fun _ => true) := by
    induction l with
    | nil => rfl
    | cons a l ih => rw [List.map_cons, List.mapM_cons, ih]; rfl
  funext st
  unfold dAll
  simp [e]
theorem comp_mapL {i : Nat} {e : EM} {ρ : En} {st : Sto} : ∀ {ds ys : List D}, Paired (fun d y => e (ρ.set i (some d)) st = .ok y st) ds ys → compL (gSlot i) tYesM e ρ ds st = .ok ys st
  | _, _, .nil => rfl
  | d :: ds, _, .cons h r => by
    have h2 := comp_mapL r
    unfold compL
    simp [h, h2]
end KT

/-! k71: the mirrors. Printed by gen.py. -/
namespace KT.k71
open PySem PySem.Spec L2 KT
open PyProof.Rows hiding St
inductive Fn where
  | block_text | statement_text | hand_text | show_program | is_integer | is_within | is_word | item_in | plain_statement | opened | closed | behind_statement | hand_in | program_in | is_variable | is_part_of | is_plain_statement | bodies_of | count_of | count_in | is_a_hand | is_a_program | read_program | _law_well | _law_dip | _law_of | _law_word | _law_plain | _law_any | _law_some | _law_deep | _law_hand | _law_program | _law_inside | _law_line | _law_text | _law_measure | _law_may_pass | _law_right | law
abbrev c_MOST_HANDS : D := .int 4
abbrev c_MOST_STATEMENTS : D := .int 24
abbrev c_MOST_BRACES : D := .int 4
abbrev c_MOST_FIGURES : D := .int 31
abbrev c_FIGURES : D := .str ("0123456789" : Str)
abbrev c_MOST_LEVELS : D := .int 4
def c_PARTS : List (Str × D) := [(("set" : Str), .str ("vw" : Str)), (("add" : Str), .str ("vvv" : Str)), (("sub" : Str), .str ("vvv" : Str)), (("and" : Str), .str ("vvv" : Str)), (("xor" : Str), .str ("vvv" : Str)), (("below" : Str), .str ("vvv" : Str)), (("get" : Str), .str ("vvwm" : Str)), (("put" : Str), .str ("vvwm" : Str)), (("swap" : Str), .str ("vvvwm" : Str)), (("addto" : Str), .str ("vvvwm" : Str)), (("await" : Str), .str ("vvwm" : Str)), (("whole" : Str), .str ("" : Str))]
abbrev c_MOST_TIMES : D := .int 8
def c_MODES : List (Str × D) := [(("get" : Str), .tup [.str ("loose" : Str), .str ("take" : Str)]), (("put" : Str), .tup [.str ("loose" : Str), .str ("give" : Str)]), (("swap" : Str), .tup [.str ("loose" : Str), .str ("take" : Str), .str ("give" : Str), .str ("both" : Str)]), (("addto" : Str), .tup [.str ("loose" : Str), .str ("take" : Str), .str ("give" : Str), .str ("both" : Str)]), (("await" : Str), .tup [.str ("loose" : Str), .str ("take" : Str)])]
abbrev c_VARIABLES : D := .int 6
abbrev c_WORDS : D := .int 65536
def B_block_text (c : Fn → List D → M D) : SM :=
  (sSeq (sIf (tVal (eBin dEq (eVar 0) (eTup aNil))) (sRet (eC (.str ("{ }" : Str)))) sNil)
  (sRet (eBin dAdd (eBin dAdd (eC (.str ("{ " : Str))) (eM1 dJoin (eC (.str (" ; " : Str))) (eComp [1] (iTupM (eVar 0)) (gSlot 1) tYesM (eCall 1 (c .statement_text) (aCons (eVar 1) aNil))))) (eC (.str (" }" : Str))))))
def B_statement_text (c : Fn → List D → M D) : SM :=
  (sSeq (sIf (tVal (eBin dEq (eBin dIx (eVar 0) (eC (.int 0))) (eC (.str ("if" : Str))))) (sRet (eBin dAdd (eBin dAdd (eBin dAdd (eBin dAdd (eBin dAdd (eC (.str ("if " : Str))) (eFn (f1 dStrOf) (aCons (eBin dIx (eVar 0) (eC (.int 1))) aNil))) (eC (.str (" " : Str)))) (eCall 1 (c .block_text) (aCons (eBin dIx (eVar 0) (eC (.int 2))) aNil))) (eC (.str (" " : Str)))) (eCall 1 (c .block_text) (aCons (eBin dIx (eVar 0) (eC (.int 3))) aNil)))) sNil)
  (sSeq (sIf (tVal (eBin dEq (eBin dIx (eVar 0) (eC (.int 0))) (eC (.str ("again" : Str))))) (sRet (eBin dAdd (eBin dAdd (eBin dAdd (eC (.str ("again " : Str))) (eFn (f1 dStrOf) (aCons (eBin dIx (eVar 0) (eC (.int 1))) aNil))) (eC (.str (" " : Str)))) (eCall 1 (c .block_text) (aCons (eBin dIx (eVar 0) (eC (.int 2))) aNil)))) sNil)
  (sRet (eM1 dJoin (eC (.str (" " : Str))) (eComp [1] (iTupM (eVar 0)) (gSlot 1) tYesM (eFn (f1 dStrOf) (aCons (eVar 1) aNil)))))))
def B_hand_text (c : Fn → List D → M D) : SM :=
  (sRet (eIf (tVal (eBin dNe (eVar 0) (eTup aNil))) (eM1 dJoin (eC (.str (" ; " : Str))) (eComp [1] (iTupM (eVar 0)) (gSlot 1) tYesM (eCall 1 (c .statement_text) (aCons (eVar 1) aNil)))) (eC (.str ("-" : Str)))))
def B_show_program (c : Fn → List D → M D) : SM :=
  (sRet (eM1 dJoin (eC (.str (" || " : Str))) (eComp [1] (iTupM (eVar 0)) (gSlot 1) tYesM (eCall 1 (c .hand_text) (aCons (eVar 1) aNil)))))
def B_is_integer (c : Fn → List D → M D) : SM :=
  (sRet (eAnd (eIsi "int" (eVar 0)) (eNot (eIsi "bool" (eVar 0)))))
def B_is_within (c : Fn → List D → M D) : SM :=
  (sRet (eAnd (eCall 1 (c .is_integer) (aCons (eVar 0) aNil)) (eChain dLe dLe (eVar 1) (eVar 0) (eVar 2))))
def B_is_word (c : Fn → List D → M D) : SM :=
  (sRet (eCall 3 (c .is_within) (aCons (eVar 0) (aCons (eC (.int 0)) (aCons (eBin dSub (eC c_WORDS) (eC (.int 1))) aNil)))))
def B_item_in (c : Fn → List D → M D) : SM :=
  (sSeq (sIf (tOrM (tNotM (tVal (eChain dLe dLe (eC (.int 1)) (eFn (f1 dLen) (aCons (eVar 0) aNil)) (eC c_MOST_FIGURES)))) (tVal (eFn (f1 dAny) (aCons (eComp [1] (iStrM (eVar 0)) (gSlot 1) tYesM (eBin (signD true) (eVar 1) (eC c_FIGURES))) aNil)))) (sRet (eVar 0)) sNil)
  (sSeq (sIf (tAndM (tVal (eBin dEq (eBin dIx (eVar 0) (eC (.int 0))) (eC (.str ("0" : Str))))) (tVal (eBin dNe (eVar 0) (eC (.str ("0" : Str)))))) (sRet (eVar 0)) sNil)
  (sRet (eFn (f1 dIntOf) (aCons (eVar 0) aNil)))))
def B_plain_statement (c : Fn → List D → M D) : SM :=
  (sRet (eBin dAdd (eTup (aCons (eBin dIx (eVar 0) (eC (.int 0))) aNil)) (eFn (f1 dTupOf) (aCons (eComp [1] (iLst (eSl (eVar 0) (oSome (eC (.int 1))) oNone dSlL)) (gSlot 1) tYesM (eCall 1 (c .item_in) (aCons (eVar 1) aNil))) aNil))))
def B_opened (c : Fn → List D → M D) : SM :=
  (sSeq (sIf (tOrM (tVal (eBin dNe (eFn (f1 dLen) (aCons (eVar 1) aNil)) (eC (.int 3)))) (tOrM (tVal (eBin dNe (eBin dIx (eVar 1) (eC (.int 2))) (eC (.str ("{" : Str))))) (tVal (eBin dGt (eFn (f1 dLen) (aCons (eVar 0) aNil)) (eC c_MOST_BRACES))))) (sRet (eC (.bl false))) sNil)
  (sSeq (sExpr (eAppend (eVar 0) (eNew (aCons (eBin dIx (eVar 1) (eC (.int 0))) (aCons (eCall 1 (c .item_in) (aCons (eBin dIx (eVar 1) (eC (.int 1))) aNil)) (aCons (eNew aNil) (aCons (eNew aNil) aNil)))))))
  (sRet (eC (.bl true)))))
def B_closed (c : Fn → List D → M D) : SM :=
  (sSeq (sIf (tVal (eBin dEq (eFn (f1 dLen) (aCons (eVar 0) aNil)) (eC (.int 1)))) (sRet (eC .non)) sNil)
  (sSeq (sAsg (eBin dIx (eVar 0) (eUn dNeg (eC (.int 1)))) (gUnlD 4 (gsCons (gSlot 2) (gsCons (gSlot 3) (gsCons (gSlot 4) (gsCons (gSlot 5) gsNil))))))
  (sSeq (sExpr (eAppend (eVar 4) (eFn (f1 dTupOf) (aCons (eVar 5) aNil))))
  (sSeq (sIf (tAndM (tVal (eBin dEq (eVar 2) (eC (.str ("if" : Str))))) (tVal (eBin dEq (eFn (f1 dLen) (aCons (eVar 4) aNil)) (eC (.int 1))))) (sSeq (sAsg (eNew (aCons (eVar 2) (aCons (eVar 3) (aCons (eVar 4) (aCons (eNew aNil) aNil))))) (gSubD (eVar 0) (eUn dNeg (eC (.int 1))) dSetIx))
  (sRet (eIf (tVal (eBin dEq (eVar 1) (eC (.str ("{" : Str))))) (eC (.int 2)) (eC .non)))) sNil)
  (sSeq (sExpr (ePop (eVar 0)))
  (sSeq (sExpr (eAppend (eBin dIx (eBin dIx (eVar 0) (eUn dNeg (eC (.int 1)))) (eC (.int 3))) (eBin dAdd (eTup (aCons (eVar 2) (aCons (eVar 3) aNil))) (eFn (f1 dTupOf) (aCons (eVar 4) aNil)))))
  (sRet (eC (.int 1)))))))))
def B_behind_statement (c : Fn → List D → M D) : SM :=
  (sSeq (sWhile 100000 (tAndM (tVal (eBin dLt (eVar 1) (eFn (f1 dLen) (aCons (eVar 0) aNil)))) (tVal (eBin (memD true) (eBin dIx (eVar 0) (eVar 1)) (eTup (aCons (eC (.str (";" : Str))) (aCons (eC (.str ("{" : Str))) (aCons (eC (.str ("}" : Str))) aNil))))))) (sAug 1 dInc (eC (.int 1))))
  (sRet (eVar 1)))
def B_hand_in (c : Fn → List D → M D) : SM :=
  (sSeq (sIf (tVal (eBin dEq (eVar 0) (eC (.str ("-" : Str))))) (sRet (eTup aNil)) sNil)
  (sSeq (sSet 1 (eM1 dSplit (eVar 0) (eC (.str (" " : Str)))))
  (sSeq (sSet 2 (eNew (aCons (eNew (aCons (eC (.str ("" : Str))) (aCons (eC (.int 0)) (aCons (eNew aNil) (aCons (eNew aNil) aNil))))) aNil)))
  (sSeq (sSet 3 (eC (.int 0)))
  (sSeq (sWhile 100000 (tVal (eBin dLt (eVar 3) (eFn (f1 dLen) (aCons (eVar 1) aNil)))) (sSeq (sSet 4 (eBin dIx (eVar 1) (eVar 3)))
  (sSeq (sSet 5 (eC (.int 1)))
  (sSeq (sIf (tVal (eBin dEq (eVar 4) (eC (.str ("}" : Str))))) (sSet 5 (eCall 2 (c .closed) (aCons (eVar 2) (aCons (eIf (tVal (eBin dLt (eBin dAdd (eVar 3) (eC (.int 1))) (eFn (f1 dLen) (aCons (eVar 1) aNil)))) (eBin dIx (eVar 1) (eBin dAdd (eVar 3) (eC (.int 1)))) (eC (.str ("" : Str)))) aNil)))) (sIf (tVal (eBin (memD false) (eVar 4) (eTup (aCons (eC (.str ("if" : Str))) (aCons (eC (.str ("again" : Str))) aNil))))) (sSet 5 (eIf (tVal (eCall 2 (c .opened) (aCons (eVar 2) (aCons (eSl (eVar 1) (oSome (eVar 3)) (oSome (eBin dAdd (eVar 3) (eC (.int 3)))) dSlL) aNil)))) (eC (.int 3)) (eC .non))) (sIf (tVal (eBin dNe (eVar 4) (eC (.str (";" : Str))))) (sSeq (sSet 6 (eCall 2 (c .behind_statement) (aCons (eVar 1) (aCons (eBin dAdd (eVar 3) (eC (.int 1))) aNil))))
  (sSeq (sSet 5 (eBin dSub (eVar 6) (eVar 3)))
  (sExpr (eAppend (eBin dIx (eBin dIx (eVar 2) (eUn dNeg (eC (.int 1)))) (eC (.int 3))) (eCall 1 (c .plain_statement) (aCons (eSl (eVar 1) (oSome (eVar 3)) (oSome (eVar 6)) dSlL) aNil)))))) sNil)))
  (sSeq (sIf (tVal (eBin dIsN (eVar 5) (eC .non))) (sRet (eC .non)) sNil)
  (sAug 3 dInc (eVar 5)))))))
  (sRet (eIf (tVal (eBin dEq (eFn (f1 dLen) (aCons (eVar 2) aNil)) (eC (.int 1)))) (eFn (f1 dTupOf) (aCons (eBin dIx (eBin dIx (eVar 2) (eC (.int 0))) (eC (.int 3))) aNil)) (eC .non))))))))
def B_program_in (c : Fn → List D → M D) : SM :=
  (sRet (eFn (f1 dTupOf) (aCons (eComp [1] (iLst (eM1 dSplit (eVar 0) (eC (.str (" || " : Str))))) (gSlot 1) tYesM (eCall 1 (c .hand_in) (aCons (eVar 1) aNil))) aNil)))
def B_is_variable (c : Fn → List D → M D) : SM :=
  (sRet (eCall 3 (c .is_within) (aCons (eVar 0) (aCons (eC (.int 0)) (aCons (eBin dSub (eC c_VARIABLES) (eC (.int 1))) aNil)))))
def B_is_part_of (c : Fn → List D → M D) : SM :=
  (sSeq (sIf (tVal (eBin dEq (eVar 1) (eC (.str ("v" : Str))))) (sRet (eCall 1 (c .is_variable) (aCons (eVar 0) aNil))) sNil)
  (sSeq (sIf (tVal (eBin dEq (eVar 1) (eC (.str ("w" : Str))))) (sRet (eCall 1 (c .is_word) (aCons (eVar 0) aNil))) sNil)
  (sRet (eAnd (eIsi "str" (eVar 0)) (eBin (memD false) (eVar 0) (eGetK c_MODES (eVar 2)))))))
def B_is_plain_statement (c : Fn → List D → M D) : SM :=
  (sSeq (sIf (tVal (eInK true c_PARTS (eBin dIx (eVar 0) (eC (.int 0))))) (sRet (eC (.bl false))) sNil)
  (sSeq (sSet 1 (eGetK c_PARTS (eBin dIx (eVar 0) (eC (.int 0)))))
  (sSeq (sIf (tVal (eBin dNe (eFn (f1 dLen) (aCons (eVar 0) aNil)) (eBin dAdd (eFn (f1 dLen) (aCons (eVar 1) aNil)) (eC (.int 1))))) (sRet (eC (.bl false))) sNil)
  (sRet (eFn (f1 dAll) (aCons (eComp [2, 3] (iZipTSM (aCons (eSl (eVar 0) (oSome (eC (.int 1))) oNone dSlT) (aCons (eVar 1) aNil))) (gTupD 2 (gsCons (gSlot 2) (gsCons (gSlot 3) gsNil))) tYesM (eCall 3 (c .is_part_of) (aCons (eVar 2) (aCons (eVar 3) (aCons (eBin dIx (eVar 0) (eC (.int 0))) aNil))))) aNil))))))
def B_bodies_of (c : Fn → List D → M D) : SM :=
  (sSeq (sSet 1 (eLst aNil))
  (sSeq (sIf (tAndM (tVal (eBin dEq (eBin dIx (eVar 0) (eC (.int 0))) (eC (.str ("if" : Str))))) (tAndM (tVal (eBin dEq (eFn (f1 dLen) (aCons (eVar 0) aNil)) (eC (.int 4)))) (tVal (eCall 1 (c .is_variable) (aCons (eBin dIx (eVar 0) (eC (.int 1))) aNil))))) (sSet 1 (eLst (aCons (eBin dIx (eVar 0) (eC (.int 2))) (aCons (eBin dIx (eVar 0) (eC (.int 3))) aNil)))) sNil)
  (sSeq (sIf (tAndM (tVal (eBin dEq (eBin dIx (eVar 0) (eC (.int 0))) (eC (.str ("again" : Str))))) (tAndM (tVal (eBin dEq (eFn (f1 dLen) (aCons (eVar 0) aNil)) (eC (.int 3)))) (tVal (eCall 3 (c .is_within) (aCons (eBin dIx (eVar 0) (eC (.int 1))) (aCons (eC (.int 0)) (aCons (eC c_MOST_TIMES) aNil))))))) (sSet 1 (eLst (aCons (eBin dIx (eVar 0) (eC (.int 2))) aNil))) sNil)
  (sSeq (sIf (tOrM (tVal (eBin dEq (eVar 1) (eLst aNil))) (tNotM (tVal (eFn (f1 dAll) (aCons (eComp [2] (iLst (eVar 1)) (gSlot 2) tYesM (eIsi "tuple" (eVar 2))) aNil))))) (sRet (eC .non)) sNil)
  (sRet (eVar 1))))))
def B_count_of (c : Fn → List D → M D) : SM :=
  (sSeq (sIf (tOrM (tVal (eBin dGt (eVar 1) (eC c_MOST_LEVELS))) (tOrM (tNotM (tVal (eIsi "tuple" (eVar 0)))) (tOrM (tVal (eBin dEq (eFn (f1 dLen) (aCons (eVar 0) aNil)) (eC (.int 0)))) (tNotM (tVal (eIsi "str" (eBin dIx (eVar 0) (eC (.int 0))))))))) (sRet (eC .non)) sNil)
  (sSeq (sIf (tVal (eCall 1 (c .is_plain_statement) (aCons (eVar 0) aNil))) (sRet (eC (.int 1))) sNil)
  (sSeq (sSet 2 (eCall 1 (c .bodies_of) (aCons (eVar 0) aNil)))
  (sSeq (sIf (tVal (eBin dIsN (eVar 2) (eC .non))) (sRet (eC .non)) sNil)
  (sSeq (sSet 3 (eC (.int 1)))
  (sSeq (sFor (iLst (eVar 2)) (gSlot 4) (sSeq (sSet 5 (eCall 2 (c .count_in) (aCons (eVar 4) (aCons (eBin dAdd (eVar 1) (eC (.int 1))) aNil))))
  (sSeq (sIf (tVal (eBin dIsN (eVar 5) (eC .non))) (sRet (eC .non)) sNil)
  (sAug 3 dInc (eVar 5)))))
  (sRet (eVar 3))))))))
def B_count_in (c : Fn → List D → M D) : SM :=
  (sSeq (sSet 2 (eC (.int 0)))
  (sSeq (sFor (iTupM (eVar 0)) (gSlot 3) (sSeq (sSet 4 (eCall 2 (c .count_of) (aCons (eVar 3) (aCons (eVar 1) aNil))))
  (sSeq (sIf (tVal (eBin dIsN (eVar 4) (eC .non))) (sRet (eC .non)) sNil)
  (sAug 2 dInc (eVar 4)))))
  (sRet (eVar 2))))
def B_is_a_hand (c : Fn → List D → M D) : SM :=
  (sSeq (sIf (tNotM (tVal (eIsi "tuple" (eVar 0)))) (sRet (eC (.bl false))) sNil)
  (sSeq (sSet 1 (eCall 2 (c .count_in) (aCons (eVar 0) (aCons (eC (.int 1)) aNil))))
  (sRet (eAnd (eBin dNotN (eVar 1) (eC .non)) (eBin dLe (eVar 1) (eC c_MOST_STATEMENTS))))))
def B_is_a_program (c : Fn → List D → M D) : SM :=
  (sSeq (sIf (tOrM (tNotM (tVal (eIsi "tuple" (eVar 0)))) (tNotM (tVal (eChain dLe dLe (eC (.int 1)) (eFn (f1 dLen) (aCons (eVar 0) aNil)) (eC c_MOST_HANDS))))) (sRet (eC (.bl false))) sNil)
  (sRet (eFn (f1 dAll) (aCons (eComp [1] (iTupM (eVar 0)) (gSlot 1) tYesM (eCall 1 (c .is_a_hand) (aCons (eVar 1) aNil))) aNil))))
def B_read_program (c : Fn → List D → M D) : SM :=
  (sSeq (sSet 1 (eIf (tVal (eIsi "str" (eVar 0))) (eCall 1 (c .program_in) (aCons (eVar 0) aNil)) (eC .non)))
  (sSeq (sIf (tOrM (tNotM (tVal (eCall 1 (c .is_a_program) (aCons (eVar 1) aNil)))) (tVal (eBin dNe (eCall 1 (c .show_program) (aCons (eVar 1) aNil)) (eVar 0)))) sBad sNil)
  (sRet (eVar 1))))
def B__law_well (c : Fn → List D → M D) : SM :=
  (sSeq (sPar2 2 3 (aCons (eBin dAdd (eBin dMul (eC (.int 29)) (eVar 1)) (eC (.int 11))) (aCons (eBin dAdd (eBin dMul (eC (.int 7)) (eVar 1)) (eC (.int 3))) aNil)))
  (sSeq (sIf (tVal (eBin dLt (eVar 1) (eFn (f1 dLen) (aCons (eVar 0) aNil)))) (sSet 2 (eFn (f1 dIntOf) (aCons (eBin dIx (eVar 0) (eVar 1)) aNil))) sNil)
  (sSeq (sFor (iEnumM (aCons (eVar 0) aNil)) (gTupD 2 (gsCons (gSlot 4) (gsCons (gSlot 5) gsNil))) (sSet 3 (eBin dMod (eFn (f1 dIntOf) (aCons (eBin dAdd (eBin dMul (eVar 3) (eC (.int 69621))) (eBin dMul (eBin dAdd (eVar 4) (eC (.int 2))) (eBin dMod (eFn (f1 dIntOf) (aCons (eVar 5) aNil)) (eBin dAdd (eBin dPow (eC (.int 10)) (eC (.int 24))) (eC (.int 7)))))) aNil)) (eBin dAdd (eBin dPow (eC (.int 10)) (eC (.int 30))) (eC (.int 57))))))
  (sRet (eNew (aCons (eFn (f2 dMax) (aCons (eC (.int 0)) (aCons (eBin dSub (eVar 2) (eBin dPow (eC (.int 10)) (eC (.int 18)))) aNil))) (aCons (eBin dMod (eFn (f1 dIntOf) (aCons (eBin dAdd (eBin dMul (eFn (f1 dAbs) (aCons (eVar 2) aNil)) (eC (.int 40503))) (eVar 3)) aNil)) (eBin dAdd (eBin dPow (eC (.int 10)) (eC (.int 29))) (eC (.int 319)))) (aCons (eC (.int 0)) aNil))))))))
def B__law_dip (c : Fn → List D → M D) : SM :=
  (sSeq (sIf (tVal (eBin dGt (eBin dIx (eVar 0) (eC (.int 0))) (eC (.int 0)))) (sSeq (sSet 2 (eBin dMod (eFn (f1 dIntOf) (aCons (eBin dIx (eVar 0) (eC (.int 0))) aNil)) (eVar 1)))
  (sSeq (sAsg (eBin dDiv (eBin dIx (eVar 0) (eC (.int 0))) (eVar 1)) (gSubD (eVar 0) (eC (.int 0)) dSetIx))
  (sRet (eVar 2)))) sNil)
  (sSeq (sAsg (eBin dAdd (eBin dIx (eVar 0) (eC (.int 2))) (eC (.int 1))) (gSubD (eVar 0) (eC (.int 2)) dSetIx))
  (sSeq (sSet 3 (eBin dMod (eFn (f1 dIntOf) (aCons (eBin dAdd (eBin dPow (eBin dAdd (eBin dIx (eVar 0) (eC (.int 1))) (eBin dMul (eC (.int 104729)) (eBin dIx (eVar 0) (eC (.int 2))))) (eC (.int 3))) (eBin dMul (eC (.int 611953)) (eBin dIx (eVar 0) (eC (.int 2))))) aNil)) (eBin dAdd (eBin dPow (eC (.int 10)) (eC (.int 31))) (eC (.int 33)))))
  (sRet (eBin dMod (eBin dDiv (eBin dMod (eFn (f1 dIntOf) (aCons (eBin dMul (eVar 3) (eBin dAdd (eVar 3) (eC (.int 5381)))) aNil)) (eBin dAdd (eBin dPow (eC (.int 10)) (eC (.int 30))) (eC (.int 57)))) (eC (.int 9973))) (eVar 1))))))
def B__law_of (c : Fn → List D → M D) : SM :=
  (sRet (eBin dIx (eVar 1) (eCall 2 (c ._law_dip) (aCons (eVar 0) (aCons (eFn (f1 dLen) (aCons (eVar 1) aNil)) aNil)))))
def B__law_word (c : Fn → List D → M D) : SM :=
  (sRet (eCall 2 (c ._law_of) (aCons (eVar 0) (aCons (eLst (aCons (eCall 2 (c ._law_dip) (aCons (eVar 0) (aCons (eC (.int 4)) aNil))) (aCons (eCall 2 (c ._law_dip) (aCons (eVar 0) (aCons (eC (.int 12)) aNil))) (aCons (eBin dSub (eC (.int 65535)) (eCall 2 (c ._law_dip) (aCons (eVar 0) (aCons (eC (.int 3)) aNil)))) (aCons (eCall 2 (c ._law_dip) (aCons (eVar 0) (aCons (eC (.int 65536)) aNil))) aNil))))) aNil))))
def B__law_plain (c : Fn → List D → M D) : SM :=
  (sSeq (sSet 1 (eLst (aCons (eC (.str ("set" : Str))) (aCons (eC (.str ("add" : Str))) (aCons (eC (.str ("sub" : Str))) (aCons (eC (.str ("and" : Str))) (aCons (eC (.str ("xor" : Str))) (aCons (eC (.str ("below" : Str))) (aCons (eC (.str ("get" : Str))) (aCons (eC (.str ("put" : Str))) (aCons (eC (.str ("swap" : Str))) (aCons (eC (.str ("addto" : Str))) (aCons (eC (.str ("await" : Str))) (aCons (eC (.str ("whole" : Str))) (aCons (eC (.str ("get" : Str))) (aCons (eC (.str ("put" : Str))) aNil))))))))))))))))
  (sSeq (sAsg (eTup (aCons (eCall 2 (c ._law_of) (aCons (eVar 0) (aCons (eVar 1) aNil))) (aCons (eCall 2 (c ._law_dip) (aCons (eVar 0) (aCons (eC (.int 6)) aNil))) (aCons (eCall 2 (c ._law_dip) (aCons (eVar 0) (aCons (eC (.int 6)) aNil))) (aCons (eCall 2 (c ._law_dip) (aCons (eVar 0) (aCons (eC (.int 6)) aNil))) aNil))))) (gTupD 4 (gsCons (gSlot 2) (gsCons (gSlot 3) (gsCons (gSlot 4) (gsCons (gSlot 5) gsNil))))))
  (sSeq (sPar2 6 7 (aCons (eCall 1 (c ._law_word) (aCons (eVar 0) aNil)) (aCons (eCall 2 (c ._law_dip) (aCons (eVar 0) (aCons (eC (.int 4)) aNil))) aNil)))
  (sSeq (sIf (tVal (eBin dEq (eVar 2) (eC (.str ("set" : Str))))) (sRet (eTup (aCons (eVar 2) (aCons (eVar 3) (aCons (eVar 6) aNil))))) sNil)
  (sSeq (sIf (tVal (eBin (memD false) (eVar 2) (eLst (aCons (eC (.str ("get" : Str))) (aCons (eC (.str ("await" : Str))) aNil))))) (sRet (eTup (aCons (eVar 2) (aCons (eVar 3) (aCons (eVar 4) (aCons (eVar 6) (aCons (eBin dIx (eLst (aCons (eC (.str ("loose" : Str))) (aCons (eC (.str ("take" : Str))) aNil))) (eBin dMod (eFn (f1 dIntOf) (aCons (eVar 7) aNil)) (eC (.int 2)))) aNil))))))) sNil)
  (sSeq (sIf (tVal (eBin dEq (eVar 2) (eC (.str ("put" : Str))))) (sRet (eTup (aCons (eVar 2) (aCons (eVar 3) (aCons (eVar 4) (aCons (eVar 6) (aCons (eBin dIx (eLst (aCons (eC (.str ("loose" : Str))) (aCons (eC (.str ("give" : Str))) aNil))) (eBin dMod (eFn (f1 dIntOf) (aCons (eVar 7) aNil)) (eC (.int 2)))) aNil))))))) sNil)
  (sSeq (sIf (tVal (eBin (memD false) (eVar 2) (eLst (aCons (eC (.str ("swap" : Str))) (aCons (eC (.str ("addto" : Str))) aNil))))) (sRet (eTup (aCons (eVar 2) (aCons (eVar 3) (aCons (eVar 5) (aCons (eVar 4) (aCons (eVar 6) (aCons (eBin dIx (eLst (aCons (eC (.str ("loose" : Str))) (aCons (eC (.str ("take" : Str))) (aCons (eC (.str ("give" : Str))) (aCons (eC (.str ("both" : Str))) aNil))))) (eVar 7)) aNil)))))))) sNil)
  (sRet (eIf (tVal (eBin dEq (eVar 2) (eC (.str ("whole" : Str))))) (eTup (aCons (eVar 2) aNil)) (eTup (aCons (eVar 2) (aCons (eVar 3) (aCons (eVar 4) (aCons (eVar 5) aNil))))))))))))))
def B__law_any (c : Fn → List D → M D) : SM :=
  (sSeq (sPar3 3 4 5 (aCons (eCall 2 (c ._law_dip) (aCons (eVar 0) (aCons (eC (.int 6)) aNil))) (aCons (eTup (aCons (eTup aNil) (aCons (eC (.int 0)) aNil))) (aCons (eTup (aCons (eTup aNil) (aCons (eC (.int 0)) aNil))) aNil))))
  (sSeq (sIf (tVal (eBin dEq (eVar 3) (eC (.int 0)))) (sSeq (sIf (tVal (eBin dLt (eVar 1) (eC (.int 4)))) (sSeq (sSet 4 (eCall 3 (c ._law_some) (aCons (eVar 0) (aCons (eBin dAdd (eVar 1) (eC (.int 1))) (aCons (eBin dSub (eVar 2) (eC (.int 1))) aNil)))))
  (sSet 5 (eCall 3 (c ._law_some) (aCons (eVar 0) (aCons (eBin dAdd (eVar 1) (eC (.int 1))) (aCons (eBin dSub (eBin dSub (eVar 2) (eC (.int 1))) (eBin dIx (eVar 4) (eC (.int 1)))) aNil)))))) sNil)
  (sRet (eTup (aCons (eTup (aCons (eC (.str ("if" : Str))) (aCons (eCall 2 (c ._law_dip) (aCons (eVar 0) (aCons (eC (.int 6)) aNil))) (aCons (eBin dIx (eVar 4) (eC (.int 0))) (aCons (eBin dIx (eVar 5) (eC (.int 0))) aNil))))) (aCons (eBin dAdd (eBin dAdd (eC (.int 1)) (eBin dIx (eVar 4) (eC (.int 1)))) (eBin dIx (eVar 5) (eC (.int 1)))) aNil))))) sNil)
  (sSeq (sIf (tVal (eBin dEq (eVar 3) (eC (.int 1)))) (sSeq (sIf (tVal (eBin dLt (eVar 1) (eC (.int 4)))) (sSet 4 (eCall 3 (c ._law_some) (aCons (eVar 0) (aCons (eBin dAdd (eVar 1) (eC (.int 1))) (aCons (eBin dSub (eVar 2) (eC (.int 1))) aNil))))) sNil)
  (sRet (eTup (aCons (eTup (aCons (eC (.str ("again" : Str))) (aCons (eCall 2 (c ._law_of) (aCons (eVar 0) (aCons (eLst (aCons (eC (.int 0)) (aCons (eC (.int 1)) (aCons (eC (.int 2)) (aCons (eC (.int 3)) (aCons (eCall 2 (c ._law_dip) (aCons (eVar 0) (aCons (eC (.int 9)) aNil))) aNil)))))) aNil))) (aCons (eBin dIx (eVar 4) (eC (.int 0))) aNil)))) (aCons (eBin dAdd (eC (.int 1)) (eBin dIx (eVar 4) (eC (.int 1)))) aNil))))) sNil)
  (sRet (eTup (aCons (eCall 1 (c ._law_plain) (aCons (eVar 0) aNil)) (aCons (eC (.int 1)) aNil)))))))
def B__law_some (c : Fn → List D → M D) : SM :=
  (sSeq (sPar2 3 4 (aCons (eNew aNil) (aCons (eC (.int 0)) aNil)))
  (sSeq (sFor (iRange1 (aCons (eCall 2 (c ._law_dip) (aCons (eVar 0) (aCons (eCall 2 (c ._law_of) (aCons (eVar 0) (aCons (eLst (aCons (eC (.int 2)) (aCons (eC (.int 4)) (aCons (eC (.int 7)) (aCons (eC (.int 25)) aNil))))) aNil))) aNil))) aNil)) (gSlot 5) (sIf (tVal (eBin dLt (eVar 4) (eVar 2))) (sSeq (sAsg (eCall 3 (c ._law_any) (aCons (eVar 0) (aCons (eVar 1) (aCons (eBin dSub (eVar 2) (eVar 4)) aNil)))) (gTupD 2 (gsCons (gSlot 6) (gsCons (gSlot 7) gsNil))))
  (sSeq (sExpr (eAppend (eVar 3) (eVar 6)))
  (sSet 4 (eBin dAdd (eVar 4) (eVar 7))))) sNil))
  (sRet (eTup (aCons (eFn (f1 dTupOf) (aCons (eVar 3) aNil)) (aCons (eVar 4) aNil))))))
def B__law_deep (c : Fn → List D → M D) : SM :=
  (sSeq (sSet 1 (eTup (aCons (eCall 1 (c ._law_plain) (aCons (eVar 0) aNil)) aNil)))
  (sSeq (sFor (iRange1 (aCons (eC (.int 3)) aNil)) (gSlot 2) (sIf (tVal (eBin dEq (eCall 2 (c ._law_dip) (aCons (eVar 0) (aCons (eC (.int 2)) aNil))) (eC (.int 0)))) (sSet 1 (eTup (aCons (eTup (aCons (eC (.str ("again" : Str))) (aCons (eCall 2 (c ._law_of) (aCons (eVar 0) (aCons (eLst (aCons (eC (.int 1)) (aCons (eC (.int 2)) (aCons (eCall 2 (c ._law_dip) (aCons (eVar 0) (aCons (eC (.int 9)) aNil))) aNil)))) aNil))) (aCons (eVar 1) aNil)))) aNil))) (sSet 1 (eIf (tVal (eBin dEq (eCall 2 (c ._law_dip) (aCons (eVar 0) (aCons (eC (.int 2)) aNil))) (eC (.int 0)))) (eTup (aCons (eTup (aCons (eC (.str ("if" : Str))) (aCons (eCall 2 (c ._law_dip) (aCons (eVar 0) (aCons (eC (.int 6)) aNil))) (aCons (eVar 1) (aCons (eTup aNil) aNil))))) aNil)) (eTup (aCons (eTup (aCons (eC (.str ("if" : Str))) (aCons (eC (.int 0)) (aCons (eTup aNil) (aCons (eVar 1) aNil))))) aNil))))))
  (sRet (eVar 1))))
def B__law_hand (c : Fn → List D → M D) : SM :=
  (sSeq (sSet 1 (eCall 2 (c ._law_dip) (aCons (eVar 0) (aCons (eC (.int 8)) aNil))))
  (sSeq (sIf (tVal (eBin dEq (eVar 1) (eC (.int 0)))) (sRet (eTup aNil)) sNil)
  (sSeq (sIf (tVal (eBin dEq (eVar 1) (eC (.int 1)))) (sRet (eFn (f1 dTupOf) (aCons (eComp [2] (iRange1 (aCons (eC (.int 24)) aNil)) (gSlot 2) tYesM (eCall 1 (c ._law_plain) (aCons (eVar 0) aNil))) aNil))) sNil)
  (sRet (eIf (tVal (eBin dEq (eVar 1) (eC (.int 2)))) (eCall 1 (c ._law_deep) (aCons (eVar 0) aNil)) (eBin dIx (eCall 3 (c ._law_some) (aCons (eVar 0) (aCons (eC (.int 1)) (aCons (eC (.int 24)) aNil)))) (eC (.int 0))))))))
def B__law_program (c : Fn → List D → M D) : SM :=
  (sRet (eFn (f1 dTupOf) (aCons (eComp [1] (iRange1 (aCons (eBin dAdd (eC (.int 1)) (eCall 2 (c ._law_dip) (aCons (eVar 0) (aCons (eC (.int 4)) aNil)))) aNil)) (gSlot 1) tYesM (eCall 1 (c ._law_hand) (aCons (eVar 0) aNil))) aNil)))
def B__law_inside (c : Fn → List D → M D) : SM :=
  (sSeq (sIf (tVal (eBin dEq (eVar 0) (eTup aNil))) (sRet (eC (.str ("{ }" : Str)))) sNil)
  (sRet (eBin dAdd (eBin dAdd (eC (.str ("{ " : Str))) (eM1 dJoin (eC (.str (" ; " : Str))) (eComp [1] (iTupM (eVar 0)) (gSlot 1) tYesM (eCall 1 (c ._law_line) (aCons (eVar 1) aNil))))) (eC (.str (" }" : Str))))))
def B__law_line (c : Fn → List D → M D) : SM :=
  (sSeq (sIf (tVal (eBin dEq (eBin dIx (eVar 0) (eC (.int 0))) (eC (.str ("if" : Str))))) (sRet (eBin dAdd (eBin dAdd (eBin dAdd (eBin dAdd (eBin dAdd (eC (.str ("if " : Str))) (eFn (f1 dStrOf) (aCons (eBin dIx (eVar 0) (eC (.int 1))) aNil))) (eC (.str (" " : Str)))) (eCall 1 (c ._law_inside) (aCons (eBin dIx (eVar 0) (eC (.int 2))) aNil))) (eC (.str (" " : Str)))) (eCall 1 (c ._law_inside) (aCons (eBin dIx (eVar 0) (eC (.int 3))) aNil)))) sNil)
  (sSeq (sIf (tVal (eBin dEq (eBin dIx (eVar 0) (eC (.int 0))) (eC (.str ("again" : Str))))) (sRet (eBin dAdd (eBin dAdd (eBin dAdd (eC (.str ("again " : Str))) (eFn (f1 dStrOf) (aCons (eBin dIx (eVar 0) (eC (.int 1))) aNil))) (eC (.str (" " : Str)))) (eCall 1 (c ._law_inside) (aCons (eBin dIx (eVar 0) (eC (.int 2))) aNil)))) sNil)
  (sRet (eM1 dJoin (eC (.str (" " : Str))) (eComp [1] (iTupM (eVar 0)) (gSlot 1) tYesM (eFn (f1 dStrOf) (aCons (eVar 1) aNil)))))))
def B__law_text (c : Fn → List D → M D) : SM :=
  (sRet (eM1 dJoin (eC (.str (" || " : Str))) (eComp [1] (iTupM (eVar 0)) (gSlot 1) tYesM (eIf (tVal (eBin dNe (eVar 1) (eTup aNil))) (eM1 dJoin (eC (.str (" ; " : Str))) (eComp [2] (iTupM (eVar 1)) (gSlot 2) tYesM (eCall 1 (c ._law_line) (aCons (eVar 2) aNil)))) (eC (.str ("-" : Str)))))))
def B__law_measure (c : Fn → List D → M D) : SM :=
  (sSeq (sAsg (eTup (aCons (eC (.int 0)) (aCons (eC (.int 1)) aNil))) (gTupD 2 (gsCons (gSlot 1) (gsCons (gSlot 2) gsNil))))
  (sSeq (sFor (iTupM (eVar 0)) (gSlot 3) (sSeq (sAsg (eTup (aCons (eC (.int 1)) (aCons (eC (.int 1)) aNil))) (gTupD 2 (gsCons (gSlot 4) (gsCons (gSlot 5) gsNil))))
  (sSeq (sIf (tVal (eBin dEq (eBin dIx (eVar 3) (eC (.int 0))) (eC (.str ("if" : Str))))) (sSeq (sPar2 6 7 (aCons (eCall 1 (c ._law_measure) (aCons (eBin dIx (eVar 3) (eC (.int 2))) aNil)) (aCons (eCall 1 (c ._law_measure) (aCons (eBin dIx (eVar 3) (eC (.int 3))) aNil)) aNil)))
  (sPar2 4 5 (aCons (eBin dAdd (eC (.int 1)) (eFn (f2 dMax) (aCons (eBin dIx (eVar 6) (eC (.int 0))) (aCons (eBin dIx (eVar 7) (eC (.int 0))) aNil)))) (aCons (eBin dAdd (eBin dIx (eVar 6) (eC (.int 1))) (eBin dIx (eVar 7) (eC (.int 1)))) aNil)))) sNil)
  (sSeq (sIf (tVal (eBin dEq (eBin dIx (eVar 3) (eC (.int 0))) (eC (.str ("again" : Str))))) (sSeq (sSet 8 (eCall 1 (c ._law_measure) (aCons (eBin dIx (eVar 3) (eC (.int 2))) aNil)))
  (sSeq (sPar2 4 5 (aCons (eBin dMul (eBin dIx (eVar 3) (eC (.int 1))) (eBin dIx (eVar 8) (eC (.int 0)))) (aCons (eC (.int 1)) aNil)))
  (sFor (iRange1 (aCons (eBin dIx (eVar 3) (eC (.int 1))) aNil)) (gSlot 9) (sSet 5 (eFn (f2 dMin) (aCons (eC (.int 100000)) (aCons (eBin dMul (eVar 5) (eBin dIx (eVar 8) (eC (.int 1)))) aNil))))))) sNil)
  (sPar2 1 2 (aCons (eFn (f2 dMin) (aCons (eC (.int 100000)) (aCons (eBin dAdd (eVar 1) (eVar 4)) aNil))) (aCons (eFn (f2 dMin) (aCons (eC (.int 100000)) (aCons (eBin dMul (eVar 2) (eVar 5)) aNil))) aNil)))))))
  (sRet (eTup (aCons (eVar 1) (aCons (eVar 2) aNil))))))
def B__law_may_pass (c : Fn → List D → M D) : SM :=
  (sSeq (sSet 1 (eC (.int 1)))
  (sSeq (sFor (iTupM (eVar 0)) (gSlot 2) (sSeq (sAsg (eCall 1 (c ._law_measure) (aCons (eVar 2) aNil)) (gTupD 2 (gsCons (gSlot 3) (gsCons (gSlot 4) gsNil))))
  (sSeq (sSet 1 (eFn (f2 dMin) (aCons (eC (.int 100000)) (aCons (eBin dMul (eVar 1) (eVar 4)) aNil))))
  (sIf (tVal (eBin dGt (eVar 3) (eC (.int 40)))) (sRet (eC (.bl false))) sNil))))
  (sRet (eBin dLe (eVar 1) (eC (.int 64))))))
def B__law_right (c : Fn → List D → M D) : SM :=
  (sSeq (sSet 3 (eFn (f1 dRepr) (aCons (eVar 0) aNil)))
  (sSeq (sSet 4 (eIf (tVal (eVar 2)) (eCall 1 (c .read_program) (aCons (eVar 1) aNil)) (eCall 1 (c .read_program) (aCons (eVar 1) aNil))))
  (sSeq (sIf (tVal (eBin dNe (eFn (f1 dRepr) (aCons (eVar 4) aNil)) (eVar 3))) (sRet (eC (.bl false))) sNil)
  (sSeq (sIf (tNotM (tVal (eCall 1 (c ._law_may_pass) (aCons (eVar 0) aNil)))) (sRet (eC (.bl true))) sNil)
  (sSeq (sSet 5 (eIf (tVal (eVar 2)) (eCall 1 (c .show_program) (aCons (eVar 0) aNil)) (eCall 1 (c .show_program) (aCons (eVar 0) aNil))))
  (sSeq (sIf (tOrM (tNotM (tVal (eIsi "str" (eVar 5)))) (tOrM (tVal (eBin dNe (eVar 5) (eVar 1))) (tVal (eBin dNe (eFn (f1 dRepr) (aCons (eVar 0) aNil)) (eVar 3))))) (sRet (eC (.bl false))) sNil)
  (sRet (eAnd (eBin dEq (eFn (f1 dRepr) (aCons (eCall 1 (c .read_program) (aCons (eVar 5) aNil)) aNil)) (eVar 3)) (eBin dEq (eCall 1 (c .show_program) (aCons (eVar 4) aNil)) (eVar 1))))))))))
def B_law (c : Fn → List D → M D) : SM :=
  (sSeq (sSet 1 (eNew (aCons (eTup (aCons (eTup (aCons (eTup aNil) aNil)) (aCons (eC (.str ("-" : Str))) (aCons (eC (.bl false)) aNil)))) (aCons (eTup (aCons (eTup (aCons (eTup aNil) (aCons (eTup aNil) (aCons (eTup (aCons (eTup (aCons (eC (.str ("whole" : Str))) aNil)) aNil)) (aCons (eTup aNil) aNil))))) (aCons (eC (.str ("- || - || whole || -" : Str))) (aCons (eC (.bl true)) aNil)))) aNil))))
  (sSeq (sFor (iRange1 (aCons (eFn (f2 dMax) (aCons (eC (.int 1)) (aCons (eFn (f2 dMin) (aCons (eC (.int 4)) (aCons (eFn (f1 dLen) (aCons (eVar 0) aNil)) aNil))) aNil))) aNil)) (gSlot 2) (sSeq (sSet 3 (eCall 2 (c ._law_well) (aCons (eVar 0) (aCons (eVar 2) aNil))))
  (sSeq (sSet 4 (eCall 1 (c ._law_program) (aCons (eVar 3) aNil)))
  (sExpr (eAppend (eVar 1) (eTup (aCons (eVar 4) (aCons (eCall 1 (c ._law_text) (aCons (eVar 4) aNil)) (aCons (eBin dEq (eCall 2 (c ._law_dip) (aCons (eVar 3) (aCons (eC (.int 2)) aNil))) (eC (.int 0))) aNil)))))))))
  (sSeq (sFor (iLst (eBin dAdd (eVar 1) (eUn dRev (eVar 1)))) (gTupD 3 (gsCons (gSlot 4) (gsCons (gSlot 5) (gsCons (gSlot 6) gsNil)))) (sIf (tNotM (tVal (eCall 3 (c ._law_right) (aCons (eVar 4) (aCons (eVar 5) (aCons (eVar 6) aNil)))))) (sRet (eC (.bl false))) sNil))
  (sRet (eC (.bl true))))))
def body (c : Fn → List D → M D) : Fn → List D → M D
  | .block_text => mFun 2 (B_block_text c)
  | .statement_text => mFun 2 (B_statement_text c)
  | .hand_text => mFun 2 (B_hand_text c)
  | .show_program => mFun 2 (B_show_program c)
  | .is_integer => mFun 1 (B_is_integer c)
  | .is_within => mFun 3 (B_is_within c)
  | .is_word => mFun 1 (B_is_word c)
  | .item_in => mFun 2 (B_item_in c)
  | .plain_statement => mFun 2 (B_plain_statement c)
  | .opened => mFun 2 (B_opened c)
  | .closed => mFun 6 (B_closed c)
  | .behind_statement => mFun 2 (B_behind_statement c)
  | .hand_in => mFun 7 (B_hand_in c)
  | .program_in => mFun 2 (B_program_in c)
  | .is_variable => mFun 1 (B_is_variable c)
  | .is_part_of => mFun 3 (B_is_part_of c)
  | .is_plain_statement => mFun 4 (B_is_plain_statement c)
  | .bodies_of => mFun 3 (B_bodies_of c)
  | .count_of => mFun 6 (B_count_of c)
  | .count_in => mFun 5 (B_count_in c)
  | .is_a_hand => mFun 2 (B_is_a_hand c)
  | .is_a_program => mFun 2 (B_is_a_program c)
  | .read_program => mFun 2 (B_read_program c)
  | ._law_well => mFun 6 (B__law_well c)
  | ._law_dip => mFun 4 (B__law_dip c)
  | ._law_of => mFun 2 (B__law_of c)
  | ._law_word => mFun 1 (B__law_word c)
  | ._law_plain => mFun 8 (B__law_plain c)
  | ._law_any => mFun 6 (B__law_any c)
  | ._law_some => mFun 8 (B__law_some c)
  | ._law_deep => mFun 3 (B__law_deep c)
  | ._law_hand => mFun 3 (B__law_hand c)
  | ._law_program => mFun 2 (B__law_program c)
  | ._law_inside => mFun 2 (B__law_inside c)
  | ._law_line => mFun 2 (B__law_line c)
  | ._law_text => mFun 3 (B__law_text c)
  | ._law_measure => mFun 10 (B__law_measure c)
  | ._law_may_pass => mFun 5 (B__law_may_pass c)
  | ._law_right => mFun 6 (B__law_right c)
  | .law => mFun 7 (B_law c)
def run : Nat → Fn → List D → M D
  | 0 => fun _ _ => M.bad
  | n + 1 => body (run n)
end KT.k71

/-! k71: the derivations. Printed by gen.py. -/
namespace KT.k71
open PySem PySem.Spec L2 KT
open PyProof.Rows hiding St
def topS (i : Nat) : Stmt := PySem.Challenge.pw_touchroad_k71_programs_written_and_read.main.body.getD i (.Pass ⟨0, 0, 0, 0⟩)
abbrev s_block_text : Stmt := topS 1
abbrev s_statement_text : Stmt := topS 2
abbrev s_hand_text : Stmt := topS 3
abbrev s_show_program : Stmt := topS 5
abbrev s_is_integer : Stmt := topS 11
abbrev s_is_within : Stmt := topS 13
abbrev s_is_word : Stmt := topS 14
abbrev s_item_in : Stmt := topS 19
abbrev s_plain_statement : Stmt := topS 20
abbrev s_opened : Stmt := topS 21
abbrev s_closed : Stmt := topS 22
abbrev s_behind_statement : Stmt := topS 23
abbrev s_hand_in : Stmt := topS 24
abbrev s_program_in : Stmt := topS 25
abbrev s_is_variable : Stmt := topS 34
abbrev s_is_part_of : Stmt := topS 35
abbrev s_is_plain_statement : Stmt := topS 36
abbrev s_bodies_of : Stmt := topS 37
abbrev s_count_of : Stmt := topS 38
abbrev s_count_in : Stmt := topS 39
abbrev s_is_a_hand : Stmt := topS 40
abbrev s_is_a_program : Stmt := topS 41
abbrev s_read_program : Stmt := topS 43
abbrev s__law_well : Stmt := topS 45
abbrev s__law_dip : Stmt := topS 46
abbrev s__law_of : Stmt := topS 47
abbrev s__law_word : Stmt := topS 48
abbrev s__law_plain : Stmt := topS 49
abbrev s__law_any : Stmt := topS 50
abbrev s__law_some : Stmt := topS 51
abbrev s__law_deep : Stmt := topS 52
abbrev s__law_hand : Stmt := topS 53
abbrev s__law_program : Stmt := topS 54
abbrev s__law_inside : Stmt := topS 55
abbrev s__law_line : Stmt := topS 56
abbrev s__law_text : Stmt := topS 57
abbrev s__law_measure : Stmt := topS 58
abbrev s__law_may_pass : Stmt := topS 59
abbrev s__law_right : Stmt := topS 60
abbrev s_law : Stmt := topS 61
def ps : Fn → List Str
  | .block_text => [("statements" : Str)]
  | .statement_text => [("statement" : Str)]
  | .hand_text => [("hand" : Str)]
  | .show_program => [("program" : Str)]
  | .is_integer => [("value" : Str)]
  | .is_within => [("value" : Str), ("least" : Str), ("most" : Str)]
  | .is_word => [("value" : Str)]
  | .item_in => [("word" : Str)]
  | .plain_statement => [("words" : Str)]
  | .opened => [("blocks" : Str), ("words" : Str)]
  | .closed => [("blocks" : Str), ("word" : Str)]
  | .behind_statement => [("words" : Str), ("at" : Str)]
  | .hand_in => [("text" : Str)]
  | .program_in => [("text" : Str)]
  | .is_variable => [("value" : Str)]
  | .is_part_of => [("value" : Str), ("kind" : Str), ("name" : Str)]
  | .is_plain_statement => [("value" : Str)]
  | .bodies_of => [("value" : Str)]
  | .count_of => [("value" : Str), ("level" : Str)]
  | .count_in => [("values" : Str), ("level" : Str)]
  | .is_a_hand => [("value" : Str)]
  | .is_a_program => [("value" : Str)]
  | .read_program => [("text" : Str)]
  | ._law_well => [("script" : Str), ("k" : Str)]
  | ._law_dip => [("well" : Str), ("many" : Str)]
  | ._law_of => [("well" : Str), ("things" : Str)]
  | ._law_word => [("well" : Str)]
  | ._law_plain => [("well" : Str)]
  | ._law_any => [("well" : Str), ("level" : Str), ("left" : Str)]
  | ._law_some => [("well" : Str), ("level" : Str), ("left" : Str)]
  | ._law_deep => [("well" : Str)]
  | ._law_hand => [("well" : Str)]
  | ._law_program => [("well" : Str)]
  | ._law_inside => [("statements" : Str)]
  | ._law_line => [("one" : Str)]
  | ._law_text => [("program" : Str)]
  | ._law_measure => [("statements" : Str)]
  | ._law_may_pass => [("program" : Str)]
  | ._law_right => [("program" : Str), ("text" : Str), ("named" : Str)]
  | .law => [("script" : Str)]
theorem sc_block_text : FnScope [("statements" : Str), ("part" : Str)] [("statements" : Str)] (defScope s_block_text) := ⟨rfl, rfl, rfl, by decide +kernel, rfl, by decide +kernel, by decide +kernel⟩
theorem sc_statement_text : FnScope [("statement" : Str), ("part" : Str)] [("statement" : Str)] (defScope s_statement_text) := ⟨rfl, rfl, rfl, by decide +kernel, rfl, by decide +kernel, by decide +kernel⟩
theorem sc_hand_text : FnScope [("hand" : Str), ("part" : Str)] [("hand" : Str)] (defScope s_hand_text) := ⟨rfl, rfl, rfl, by decide +kernel, rfl, by decide +kernel, by decide +kernel⟩
theorem sc_show_program : FnScope [("program" : Str), ("hand" : Str)] [("program" : Str)] (defScope s_show_program) := ⟨rfl, rfl, rfl, by decide +kernel, rfl, by decide +kernel, by decide +kernel⟩
theorem sc_is_integer : FnScope [("value" : Str)] [("value" : Str)] (defScope s_is_integer) := ⟨rfl, rfl, rfl, by decide +kernel, rfl, by decide +kernel, by decide +kernel⟩
theorem sc_is_within : FnScope [("value" : Str), ("least" : Str), ("most" : Str)] [("value" : Str), ("least" : Str), ("most" : Str)] (defScope s_is_within) := ⟨rfl, rfl, rfl, by decide +kernel, rfl, by decide +kernel, by decide +kernel⟩
theorem sc_is_word : FnScope [("value" : Str)] [("value" : Str)] (defScope s_is_word) := ⟨rfl, rfl, rfl, by decide +kernel, rfl, by decide +kernel, by decide +kernel⟩
theorem sc_item_in : FnScope [("word" : Str), ("sign" : Str)] [("word" : Str)] (defScope s_item_in) := ⟨rfl, rfl, rfl, by decide +kernel, rfl, by decide +kernel, by decide +kernel⟩
theorem sc_plain_statement : FnScope [("words" : Str), ("word" : Str)] [("words" : Str)] (defScope s_plain_statement) := ⟨rfl, rfl, rfl, by decide +kernel, rfl, by decide +kernel, by decide +kernel⟩
theorem sc_opened : FnScope [("blocks" : Str), ("words" : Str)] [("blocks" : Str), ("words" : Str)] (defScope s_opened) := ⟨rfl, rfl, rfl, by decide +kernel, rfl, by decide +kernel, by decide +kernel⟩
theorem sc_closed : FnScope [("blocks" : Str), ("word" : Str), ("name" : Str), ("number" : Str), ("done" : Str), ("statements" : Str)] [("blocks" : Str), ("word" : Str)] (defScope s_closed) := ⟨rfl, rfl, rfl, by decide +kernel, rfl, by decide +kernel, by decide +kernel⟩
theorem sc_behind_statement : FnScope [("words" : Str), ("at" : Str)] [("words" : Str), ("at" : Str)] (defScope s_behind_statement) := ⟨rfl, rfl, rfl, by decide +kernel, rfl, by decide +kernel, by decide +kernel⟩
theorem sc_hand_in : FnScope [("text" : Str), ("words" : Str), ("blocks" : Str), ("at" : Str), ("word" : Str), ("taken" : Str), ("end" : Str)] [("text" : Str)] (defScope s_hand_in) := ⟨rfl, rfl, rfl, by decide +kernel, rfl, by decide +kernel, by decide +kernel⟩
theorem sc_program_in : FnScope [("text" : Str), ("part" : Str)] [("text" : Str)] (defScope s_program_in) := ⟨rfl, rfl, rfl, by decide +kernel, rfl, by decide +kernel, by decide +kernel⟩
theorem sc_is_variable : FnScope [("value" : Str)] [("value" : Str)] (defScope s_is_variable) := ⟨rfl, rfl, rfl, by decide +kernel, rfl, by decide +kernel, by decide +kernel⟩
theorem sc_is_part_of : FnScope [("value" : Str), ("kind" : Str), ("name" : Str)] [("value" : Str), ("kind" : Str), ("name" : Str)] (defScope s_is_part_of) := ⟨rfl, rfl, rfl, by decide +kernel, rfl, by decide +kernel, by decide +kernel⟩
theorem sc_is_plain_statement : FnScope [("value" : Str), ("parts" : Str), ("part" : Str), ("kind" : Str)] [("value" : Str)] (defScope s_is_plain_statement) := ⟨rfl, rfl, rfl, by decide +kernel, rfl, by decide +kernel, by decide +kernel⟩
theorem sc_bodies_of : FnScope [("value" : Str), ("bodies" : Str), ("body" : Str)] [("value" : Str)] (defScope s_bodies_of) := ⟨rfl, rfl, rfl, by decide +kernel, rfl, by decide +kernel, by decide +kernel⟩
theorem sc_count_of : FnScope [("value" : Str), ("level" : Str), ("bodies" : Str), ("total" : Str), ("body" : Str), ("count" : Str)] [("value" : Str), ("level" : Str)] (defScope s_count_of) := ⟨rfl, rfl, rfl, by decide +kernel, rfl, by decide +kernel, by decide +kernel⟩
theorem sc_count_in : FnScope [("values" : Str), ("level" : Str), ("total" : Str), ("value" : Str), ("count" : Str)] [("values" : Str), ("level" : Str)] (defScope s_count_in) := ⟨rfl, rfl, rfl, by decide +kernel, rfl, by decide +kernel, by decide +kernel⟩
theorem sc_is_a_hand : FnScope [("value" : Str), ("count" : Str)] [("value" : Str)] (defScope s_is_a_hand) := ⟨rfl, rfl, rfl, by decide +kernel, rfl, by decide +kernel, by decide +kernel⟩
theorem sc_is_a_program : FnScope [("value" : Str), ("hand" : Str)] [("value" : Str)] (defScope s_is_a_program) := ⟨rfl, rfl, rfl, by decide +kernel, rfl, by decide +kernel, by decide +kernel⟩
theorem sc_read_program : FnScope [("text" : Str), ("program" : Str)] [("text" : Str)] (defScope s_read_program) := ⟨rfl, rfl, rfl, by decide +kernel, rfl, by decide +kernel, by decide +kernel⟩
theorem sc__law_well : FnScope [("script" : Str), ("k" : Str), ("cell" : Str), ("total" : Str), ("at" : Str), ("other" : Str)] [("script" : Str), ("k" : Str)] (defScope s__law_well) := ⟨rfl, rfl, rfl, by decide +kernel, rfl, by decide +kernel, by decide +kernel⟩
theorem sc__law_dip : FnScope [("well" : Str), ("many" : Str), ("found" : Str), ("mixed" : Str)] [("well" : Str), ("many" : Str)] (defScope s__law_dip) := ⟨rfl, rfl, rfl, by decide +kernel, rfl, by decide +kernel, by decide +kernel⟩
theorem sc__law_of : FnScope [("well" : Str), ("things" : Str)] [("well" : Str), ("things" : Str)] (defScope s__law_of) := ⟨rfl, rfl, rfl, by decide +kernel, rfl, by decide +kernel, by decide +kernel⟩
theorem sc__law_word : FnScope [("well" : Str)] [("well" : Str)] (defScope s__law_word) := ⟨rfl, rfl, rfl, by decide +kernel, rfl, by decide +kernel, by decide +kernel⟩
theorem sc__law_plain : FnScope [("well" : Str), ("names" : Str), ("name" : Str), ("v" : Str), ("a" : Str), ("b" : Str), ("k" : Str), ("way" : Str)] [("well" : Str)] (defScope s__law_plain) := ⟨rfl, rfl, rfl, by decide +kernel, rfl, by decide +kernel, by decide +kernel⟩
theorem sc__law_any : FnScope [("well" : Str), ("level" : Str), ("left" : Str), ("way" : Str), ("one" : Str), ("other" : Str)] [("well" : Str), ("level" : Str), ("left" : Str)] (defScope s__law_any) := ⟨rfl, rfl, rfl, by decide +kernel, rfl, by decide +kernel, by decide +kernel⟩
theorem sc__law_some : FnScope [("well" : Str), ("level" : Str), ("left" : Str), ("found" : Str), ("used" : Str), ("turn" : Str), ("more" : Str), ("many" : Str)] [("well" : Str), ("level" : Str), ("left" : Str)] (defScope s__law_some) := ⟨rfl, rfl, rfl, by decide +kernel, rfl, by decide +kernel, by decide +kernel⟩
theorem sc__law_deep : FnScope [("well" : Str), ("found" : Str), ("turn" : Str)] [("well" : Str)] (defScope s__law_deep) := ⟨rfl, rfl, rfl, by decide +kernel, rfl, by decide +kernel, by decide +kernel⟩
theorem sc__law_hand : FnScope [("well" : Str), ("way" : Str), ("turn" : Str)] [("well" : Str)] (defScope s__law_hand) := ⟨rfl, rfl, rfl, by decide +kernel, rfl, by decide +kernel, by decide +kernel⟩
theorem sc__law_program : FnScope [("well" : Str), ("turn" : Str)] [("well" : Str)] (defScope s__law_program) := ⟨rfl, rfl, rfl, by decide +kernel, rfl, by decide +kernel, by decide +kernel⟩
theorem sc__law_inside : FnScope [("statements" : Str), ("one" : Str)] [("statements" : Str)] (defScope s__law_inside) := ⟨rfl, rfl, rfl, by decide +kernel, rfl, by decide +kernel, by decide +kernel⟩
theorem sc__law_line : FnScope [("one" : Str), ("part" : Str)] [("one" : Str)] (defScope s__law_line) := ⟨rfl, rfl, rfl, by decide +kernel, rfl, by decide +kernel, by decide +kernel⟩
theorem sc__law_text : FnScope [("program" : Str), ("hand" : Str), ("one" : Str)] [("program" : Str)] (defScope s__law_text) := ⟨rfl, rfl, rfl, by decide +kernel, rfl, by decide +kernel, by decide +kernel⟩
theorem sc__law_measure : FnScope [("statements" : Str), ("long" : Str), ("many" : Str), ("one" : Str), ("more" : Str), ("ways" : Str), ("yes" : Str), ("no" : Str), ("body" : Str), ("turn" : Str)] [("statements" : Str)] (defScope s__law_measure) := ⟨rfl, rfl, rfl, by decide +kernel, rfl, by decide +kernel, by decide +kernel⟩
theorem sc__law_may_pass : FnScope [("program" : Str), ("many" : Str), ("hand" : Str), ("long" : Str), ("ways" : Str)] [("program" : Str)] (defScope s__law_may_pass) := ⟨rfl, rfl, rfl, by decide +kernel, rfl, by decide +kernel, by decide +kernel⟩
theorem sc__law_right : FnScope [("program" : Str), ("text" : Str), ("named" : Str), ("kept" : Str), ("read" : Str), ("shown" : Str)] [("program" : Str), ("text" : Str), ("named" : Str)] (defScope s__law_right) := ⟨rfl, rfl, rfl, by decide +kernel, rfl, by decide +kernel, by decide +kernel⟩
theorem sc_law : FnScope [("script" : Str), ("kept" : Str), ("k" : Str), ("well" : Str), ("program" : Str), ("text" : Str), ("named" : Str)] [("script" : Str)] (defScope s_law) := ⟨rfl, rfl, rfl, by decide +kernel, rfl, by decide +kernel, by decide +kernel⟩
structure Hy (K : PySem.W.Frag) (w : World) (mg : Str → Option Value) (ad : Fn → Addr) (fv : Fn → FuncData) : Prop where
  cl_block_text : Cl K mg ("block_text" : Str) s_block_text [("statements" : Str)] (ad .block_text) (fv .block_text)
  cl_statement_text : Cl K mg ("statement_text" : Str) s_statement_text [("statement" : Str)] (ad .statement_text) (fv .statement_text)
  cl_hand_text : Cl K mg ("hand_text" : Str) s_hand_text [("hand" : Str)] (ad .hand_text) (fv .hand_text)
  cl_show_program : Cl K mg ("show_program" : Str) s_show_program [("program" : Str)] (ad .show_program) (fv .show_program)
  cl_is_integer : Cl K mg ("is_integer" : Str) s_is_integer [("value" : Str)] (ad .is_integer) (fv .is_integer)
  cl_is_within : Cl K mg ("is_within" : Str) s_is_within [("value" : Str), ("least" : Str), ("most" : Str)] (ad .is_within) (fv .is_within)
  cl_is_word : Cl K mg ("is_word" : Str) s_is_word [("value" : Str)] (ad .is_word) (fv .is_word)
  cl_item_in : Cl K mg ("item_in" : Str) s_item_in [("word" : Str)] (ad .item_in) (fv .item_in)
  cl_plain_statement : Cl K mg ("plain_statement" : Str) s_plain_statement [("words" : Str)] (ad .plain_statement) (fv .plain_statement)
  cl_opened : Cl K mg ("opened" : Str) s_opened [("blocks" : Str), ("words" : Str)] (ad .opened) (fv .opened)
  cl_closed : Cl K mg ("closed" : Str) s_closed [("blocks" : Str), ("word" : Str)] (ad .closed) (fv .closed)
  cl_behind_statement : Cl K mg ("behind_statement" : Str) s_behind_statement [("words" : Str), ("at" : Str)] (ad .behind_statement) (fv .behind_statement)
  cl_hand_in : Cl K mg ("hand_in" : Str) s_hand_in [("text" : Str)] (ad .hand_in) (fv .hand_in)
  cl_program_in : Cl K mg ("program_in" : Str) s_program_in [("text" : Str)] (ad .program_in) (fv .program_in)
  cl_is_variable : Cl K mg ("is_variable" : Str) s_is_variable [("value" : Str)] (ad .is_variable) (fv .is_variable)
  cl_is_part_of : Cl K mg ("is_part_of" : Str) s_is_part_of [("value" : Str), ("kind" : Str), ("name" : Str)] (ad .is_part_of) (fv .is_part_of)
  cl_is_plain_statement : Cl K mg ("is_plain_statement" : Str) s_is_plain_statement [("value" : Str)] (ad .is_plain_statement) (fv .is_plain_statement)
  cl_bodies_of : Cl K mg ("bodies_of" : Str) s_bodies_of [("value" : Str)] (ad .bodies_of) (fv .bodies_of)
  cl_count_of : Cl K mg ("count_of" : Str) s_count_of [("value" : Str), ("level" : Str)] (ad .count_of) (fv .count_of)
  cl_count_in : Cl K mg ("count_in" : Str) s_count_in [("values" : Str), ("level" : Str)] (ad .count_in) (fv .count_in)
  cl_is_a_hand : Cl K mg ("is_a_hand" : Str) s_is_a_hand [("value" : Str)] (ad .is_a_hand) (fv .is_a_hand)
  cl_is_a_program : Cl K mg ("is_a_program" : Str) s_is_a_program [("value" : Str)] (ad .is_a_program) (fv .is_a_program)
  cl_read_program : Cl K mg ("read_program" : Str) s_read_program [("text" : Str)] (ad .read_program) (fv .read_program)
  cl__law_well : Cl K mg ("_law_well" : Str) s__law_well [("script" : Str), ("k" : Str)] (ad ._law_well) (fv ._law_well)
  cl__law_dip : Cl K mg ("_law_dip" : Str) s__law_dip [("well" : Str), ("many" : Str)] (ad ._law_dip) (fv ._law_dip)
  cl__law_of : Cl K mg ("_law_of" : Str) s__law_of [("well" : Str), ("things" : Str)] (ad ._law_of) (fv ._law_of)
  cl__law_word : Cl K mg ("_law_word" : Str) s__law_word [("well" : Str)] (ad ._law_word) (fv ._law_word)
  cl__law_plain : Cl K mg ("_law_plain" : Str) s__law_plain [("well" : Str)] (ad ._law_plain) (fv ._law_plain)
  cl__law_any : Cl K mg ("_law_any" : Str) s__law_any [("well" : Str), ("level" : Str), ("left" : Str)] (ad ._law_any) (fv ._law_any)
  cl__law_some : Cl K mg ("_law_some" : Str) s__law_some [("well" : Str), ("level" : Str), ("left" : Str)] (ad ._law_some) (fv ._law_some)
  cl__law_deep : Cl K mg ("_law_deep" : Str) s__law_deep [("well" : Str)] (ad ._law_deep) (fv ._law_deep)
  cl__law_hand : Cl K mg ("_law_hand" : Str) s__law_hand [("well" : Str)] (ad ._law_hand) (fv ._law_hand)
  cl__law_program : Cl K mg ("_law_program" : Str) s__law_program [("well" : Str)] (ad ._law_program) (fv ._law_program)
  cl__law_inside : Cl K mg ("_law_inside" : Str) s__law_inside [("statements" : Str)] (ad ._law_inside) (fv ._law_inside)
  cl__law_line : Cl K mg ("_law_line" : Str) s__law_line [("one" : Str)] (ad ._law_line) (fv ._law_line)
  cl__law_text : Cl K mg ("_law_text" : Str) s__law_text [("program" : Str)] (ad ._law_text) (fv ._law_text)
  cl__law_measure : Cl K mg ("_law_measure" : Str) s__law_measure [("statements" : Str)] (ad ._law_measure) (fv ._law_measure)
  cl__law_may_pass : Cl K mg ("_law_may_pass" : Str) s__law_may_pass [("program" : Str)] (ad ._law_may_pass) (fv ._law_may_pass)
  cl__law_right : Cl K mg ("_law_right" : Str) s__law_right [("program" : Str), ("text" : Str), ("named" : Str)] (ad ._law_right) (fv ._law_right)
  cl_law : Cl K mg ("law" : Str) s_law [("script" : Str)] (ad .law) (fv .law)
  z_range : mg ("range" : Str) = none
  z_max : mg ("max" : Str) = none
  z_min : mg ("min" : Str) = none
  z_len : mg ("len" : Str) = none
  z_int : mg ("int" : Str) = none
  z_enumerate : mg ("enumerate" : Str) = none
  z_abs : mg ("abs" : Str) = none
  z_tuple : mg ("tuple" : Str) = none
  z_repr : mg ("repr" : Str) = none
  z_isinstance : mg ("isinstance" : Str) = none
  z_str : mg ("str" : Str) = none
  z_all : mg ("all" : Str) = none
  z_any : mg ("any" : Str) = none
  z_zip : mg ("zip" : Str) = none
  z_bool : mg ("bool" : Str) = none
  g_MOST_HANDS : Gv K mg ("MOST_HANDS" : Str) c_MOST_HANDS
  g_MOST_STATEMENTS : Gv K mg ("MOST_STATEMENTS" : Str) c_MOST_STATEMENTS
  g_MOST_BRACES : Gv K mg ("MOST_BRACES" : Str) c_MOST_BRACES
  g_MOST_FIGURES : Gv K mg ("MOST_FIGURES" : Str) c_MOST_FIGURES
  g_FIGURES : Gv K mg ("FIGURES" : Str) c_FIGURES
  g_MOST_LEVELS : Gv K mg ("MOST_LEVELS" : Str) c_MOST_LEVELS
  m_PARTS : KMap K w mg ("PARTS" : Str) c_PARTS
  g_MOST_TIMES : Gv K mg ("MOST_TIMES" : Str) c_MOST_TIMES
  m_MODES : KMap K w mg ("MODES" : Str) c_MODES
  g_VARIABLES : Gv K mg ("VARIABLES" : Str) c_VARIABLES
  g_WORDS : Gv K mg ("WORDS" : Str) c_WORDS
  kw_read_program : ∀ (s : Shared) (u : Value), BindsTo s (fv .read_program) ⟨[], [(("text" : Str), u)]⟩ [(("text" : Str), u)]
  kw_show_program : ∀ (s : Shared) (u : Value), BindsTo s (fv .show_program) ⟨[], [(("program" : Str), u)]⟩ [(("program" : Str), u)]
section
variable {P : Program} {w : World} {K : PySem.W.Frag} {mg : Str → Option Value} {base : Heap} {ad : Fn → Addr} {fv : Fn → FuncData} {n : Nat}
theorem ok_block_text (h : Hy K w mg ad fv) (ih : ∀ g, FnG P w K mg base n (ad g) (fv g) (ps g) (run n g)) : FnG P w K mg base (n + 1) (ad .block_text) (fv .block_text) [("statements" : Str)] (mFun 2 (B_block_text (run n))) := by
  refine fnG_of (N := [("statements" : Str), ("part" : Str)]) (b := B_block_text (run n)) h.cl_block_text.fn sc_block_text fun cd A outer s H hr hgd => ?_
  unfold B_block_text
  exact (ks_cons (ks_if (kt_eq hr.units (k_var 0) (k_tup ka_nil)) (ks_one (ks_ret k_str)) ks_nil)
  (ks_one (ks_ret (k_add (k_add k_str (k_join k_str (k_comp (own := [(("part" : Str), 1)]) (own_ := [(("part" : Str), 1)]) rfl sc_block_text.nd (cg_name 1) (ki_tup (k_var 0)) (by rfl) (fun _ _ _ _ _ => (pg_name (i := 1) sc_block_text.nd rfl (by first | exact Or.inl rfl | exact Or.inr rfl))) (fun _ _ _ _ _ => kp_nil) (fun _ _ _ _ _ => (k_callN (ih .statement_text) hr hgd h.cl_statement_text.mgf h.cl_statement_text.kp h.cl_statement_text.bd (ka_cons (k_var 1) ka_nil)))))) k_str))))
theorem ok_statement_text (h : Hy K w mg ad fv) (ih : ∀ g, FnG P w K mg base n (ad g) (fv g) (ps g) (run n g)) : FnG P w K mg base (n + 1) (ad .statement_text) (fv .statement_text) [("statement" : Str)] (mFun 2 (B_statement_text (run n))) := by
  refine fnG_of (N := [("statement" : Str), ("part" : Str)]) (b := B_statement_text (run n)) h.cl_statement_text.fn sc_statement_text fun cd A outer s H hr hgd => ?_
  unfold B_statement_text
  exact (ks_cons (ks_if (kt_eq hr.units (k_item (k_var 0) k_int) k_str) (ks_one (ks_ret (k_add (k_add (k_add (k_add (k_add k_str (k_str1 h.z_str (ka_cons (k_item (k_var 0) k_int) ka_nil))) k_str) (k_callN (ih .block_text) hr hgd h.cl_block_text.mgf h.cl_block_text.kp h.cl_block_text.bd (ka_cons (k_item (k_var 0) k_int) ka_nil))) k_str) (k_callN (ih .block_text) hr hgd h.cl_block_text.mgf h.cl_block_text.kp h.cl_block_text.bd (ka_cons (k_item (k_var 0) k_int) ka_nil))))) ks_nil)
  (ks_cons (ks_if (kt_eq hr.units (k_item (k_var 0) k_int) k_str) (ks_one (ks_ret (k_add (k_add (k_add k_str (k_str1 h.z_str (ka_cons (k_item (k_var 0) k_int) ka_nil))) k_str) (k_callN (ih .block_text) hr hgd h.cl_block_text.mgf h.cl_block_text.kp h.cl_block_text.bd (ka_cons (k_item (k_var 0) k_int) ka_nil))))) ks_nil)
  (ks_one (ks_ret (k_join k_str (k_comp (own := [(("part" : Str), 1)]) (own_ := [(("part" : Str), 1)]) rfl sc_statement_text.nd (cg_name 1) (ki_tup (k_var 0)) (by rfl) (fun _ _ _ _ _ => (pg_name (i := 1) sc_statement_text.nd rfl (by first | exact Or.inl rfl | exact Or.inr rfl))) (fun _ _ _ _ _ => kp_nil) (fun _ _ _ _ _ => (k_str1 h.z_str (ka_cons (k_var 1) ka_nil)))))))))
theorem ok_hand_text (h : Hy K w mg ad fv) (ih : ∀ g, FnG P w K mg base n (ad g) (fv g) (ps g) (run n g)) : FnG P w K mg base (n + 1) (ad .hand_text) (fv .hand_text) [("hand" : Str)] (mFun 2 (B_hand_text (run n))) := by
  refine fnG_of (N := [("hand" : Str), ("part" : Str)]) (b := B_hand_text (run n)) h.cl_hand_text.fn sc_hand_text fun cd A outer s H hr hgd => ?_
  unfold B_hand_text
  exact (ks_one (ks_ret (k_ifE (kt_ne hr.units (k_var 0) (k_tup ka_nil)) (k_join k_str (k_comp (own := [(("part" : Str), 1)]) (own_ := [(("part" : Str), 1)]) rfl sc_hand_text.nd (cg_name 1) (ki_tup (k_var 0)) (by rfl) (fun _ _ _ _ _ => (pg_name (i := 1) sc_hand_text.nd rfl (by first | exact Or.inl rfl | exact Or.inr rfl))) (fun _ _ _ _ _ => kp_nil) (fun _ _ _ _ _ => (k_callN (ih .statement_text) hr hgd h.cl_statement_text.mgf h.cl_statement_text.kp h.cl_statement_text.bd (ka_cons (k_var 1) ka_nil))))) k_str)))
theorem ok_show_program (h : Hy K w mg ad fv) (ih : ∀ g, FnG P w K mg base n (ad g) (fv g) (ps g) (run n g)) : FnG P w K mg base (n + 1) (ad .show_program) (fv .show_program) [("program" : Str)] (mFun 2 (B_show_program (run n))) := by
  refine fnG_of (N := [("program" : Str), ("hand" : Str)]) (b := B_show_program (run n)) h.cl_show_program.fn sc_show_program fun cd A outer s H hr hgd => ?_
  unfold B_show_program
  exact (ks_one (ks_ret (k_join k_str (k_comp (own := [(("hand" : Str), 1)]) (own_ := [(("hand" : Str), 1)]) rfl sc_show_program.nd (cg_name 1) (ki_tup (k_var 0)) (by rfl) (fun _ _ _ _ _ => (pg_name (i := 1) sc_show_program.nd rfl (by first | exact Or.inl rfl | exact Or.inr rfl))) (fun _ _ _ _ _ => kp_nil) (fun _ _ _ _ _ => (k_callN (ih .hand_text) hr hgd h.cl_hand_text.mgf h.cl_hand_text.kp h.cl_hand_text.bd (ka_cons (k_var 1) ka_nil)))))))
theorem ok_is_integer (h : Hy K w mg ad fv) (ih : ∀ g, FnG P w K mg base n (ad g) (fv g) (ps g) (run n g)) : FnG P w K mg base (n + 1) (ad .is_integer) (fv .is_integer) [("value" : Str)] (mFun 1 (B_is_integer (run n))) := by
  refine fnG_of (N := [("value" : Str)]) (b := B_is_integer (run n)) h.cl_is_integer.fn sc_is_integer fun cd A outer s H hr hgd => ?_
  unfold B_is_integer
  exact (ks_one (ks_ret (k_and (k_isi "int" h.z_isinstance h.z_int rfl (k_var 0)) (k_and1 (k_not (k_isi "bool" h.z_isinstance h.z_bool rfl (k_var 0)))))))
theorem ok_is_within (h : Hy K w mg ad fv) (ih : ∀ g, FnG P w K mg base n (ad g) (fv g) (ps g) (run n g)) : FnG P w K mg base (n + 1) (ad .is_within) (fv .is_within) [("value" : Str), ("least" : Str), ("most" : Str)] (mFun 3 (B_is_within (run n))) := by
  refine fnG_of (N := [("value" : Str), ("least" : Str), ("most" : Str)]) (b := B_is_within (run n)) h.cl_is_within.fn sc_is_within fun cd A outer s H hr hgd => ?_
  unfold B_is_within
  exact (ks_one (ks_ret (k_and (k_callN (ih .is_integer) hr hgd h.cl_is_integer.mgf h.cl_is_integer.kp h.cl_is_integer.bd (ka_cons (k_var 0) ka_nil)) (k_and1 (k_leLe (k_var 1) (k_var 0) (k_var 2))))))
theorem ok_is_word (h : Hy K w mg ad fv) (ih : ∀ g, FnG P w K mg base n (ad g) (fv g) (ps g) (run n g)) : FnG P w K mg base (n + 1) (ad .is_word) (fv .is_word) [("value" : Str)] (mFun 1 (B_is_word (run n))) := by
  refine fnG_of (N := [("value" : Str)]) (b := B_is_word (run n)) h.cl_is_word.fn sc_is_word fun cd A outer s H hr hgd => ?_
  unfold B_is_word
  exact (ks_one (ks_ret (k_callN (ih .is_within) hr hgd h.cl_is_within.mgf h.cl_is_within.kp h.cl_is_within.bd (ka_cons (k_var 0) (ka_cons k_int (ka_cons (k_sub (k_gv h.g_WORDS) k_int) ka_nil))))))
theorem ok_item_in (h : Hy K w mg ad fv) (ih : ∀ g, FnG P w K mg base n (ad g) (fv g) (ps g) (run n g)) : FnG P w K mg base (n + 1) (ad .item_in) (fv .item_in) [("word" : Str)] (mFun 2 (B_item_in (run n))) := by
  refine fnG_of (N := [("word" : Str), ("sign" : Str)]) (b := B_item_in (run n)) h.cl_item_in.fn sc_item_in fun cd A outer s H hr hgd => ?_
  unfold B_item_in
  exact (ks_cons (ks_if ((kw_or (kt_not (kt_leLe k_int (k_len h.z_len (ka_cons (k_var 0) ka_nil)) (k_gv h.g_MOST_FIGURES))) (kw_or1 (kt_val (k_any rfl h.z_any (ka_cons (k_comp (own := [(("sign" : Str), 1)]) (own_ := [(("sign" : Str), 1)]) rfl sc_item_in.nd (cg_name 1) (ki_str (k_var 0)) (by rfl) (fun _ _ _ _ _ => (pg_name (i := 1) sc_item_in.nd rfl (by first | exact Or.inl rfl | exact Or.inr rfl))) (fun _ _ _ _ _ => kp_nil) (fun _ _ _ _ _ => (k_ninsign (k_var 1) (k_gv h.g_FIGURES)))) ka_nil))))).pt) (ks_one (ks_ret (k_var 0))) ks_nil)
  (ks_cons (ks_if ((kw_and (kt_eq hr.units (k_item (k_var 0) k_int) k_str) (kw_and1 (kt_ne hr.units (k_var 0) k_str))).pt) (ks_one (ks_ret (k_var 0))) ks_nil)
  (ks_one (ks_ret (k_intof h.z_int (ka_cons (k_var 0) ka_nil))))))
theorem ok_plain_statement (h : Hy K w mg ad fv) (ih : ∀ g, FnG P w K mg base n (ad g) (fv g) (ps g) (run n g)) : FnG P w K mg base (n + 1) (ad .plain_statement) (fv .plain_statement) [("words" : Str)] (mFun 2 (B_plain_statement (run n))) := by
  refine fnG_of (N := [("words" : Str), ("word" : Str)]) (b := B_plain_statement (run n)) h.cl_plain_statement.fn sc_plain_statement fun cd A outer s H hr hgd => ?_
  unfold B_plain_statement
  exact (ks_one (ks_ret (k_add (k_tup (ka_cons (k_item (k_var 0) k_int) ka_nil)) (k_tupof h.z_tuple (ka_cons (k_comp (own := [(("word" : Str), 1)]) (own_ := [(("word" : Str), 1)]) rfl sc_plain_statement.nd (cg_name 1) (ki_lst (k_slL (k_var 0) (ko_some k_int) ko_none)) (by rfl) (fun _ _ _ _ _ => (pg_name (i := 1) sc_plain_statement.nd rfl (by first | exact Or.inl rfl | exact Or.inr rfl))) (fun _ _ _ _ _ => kp_nil) (fun _ _ _ _ _ => (k_callN (ih .item_in) hr hgd h.cl_item_in.mgf h.cl_item_in.kp h.cl_item_in.bd (ka_cons (k_var 1) ka_nil)))) ka_nil)))))
theorem ok_opened (h : Hy K w mg ad fv) (ih : ∀ g, FnG P w K mg base n (ad g) (fv g) (ps g) (run n g)) : FnG P w K mg base (n + 1) (ad .opened) (fv .opened) [("blocks" : Str), ("words" : Str)] (mFun 2 (B_opened (run n))) := by
  refine fnG_of (N := [("blocks" : Str), ("words" : Str)]) (b := B_opened (run n)) h.cl_opened.fn sc_opened fun cd A outer s H hr hgd => ?_
  unfold B_opened
  exact (ks_cons (ks_if ((kw_or (kt_ne hr.units (k_len h.z_len (ka_cons (k_var 1) ka_nil)) k_int) (kw_or (kt_ne hr.units (k_item (k_var 1) k_int) k_str) (kw_or1 (kt_gt (k_len h.z_len (ka_cons (k_var 0) ka_nil)) (k_gv h.g_MOST_BRACES))))).pt) (ks_one (ks_ret k_bl)) ks_nil)
  (ks_cons (ks_expr (k_append (k_var 0) (k_new (ka_cons (k_item (k_var 1) k_int) (ka_cons (k_callN (ih .item_in) hr hgd h.cl_item_in.mgf h.cl_item_in.kp h.cl_item_in.bd (ka_cons (k_item (k_var 1) k_int) ka_nil)) (ka_cons (k_new ka_nil) (ka_cons (k_new ka_nil) ka_nil)))))))
  (ks_one (ks_ret k_bl))))
theorem ok_closed (h : Hy K w mg ad fv) (ih : ∀ g, FnG P w K mg base n (ad g) (fv g) (ps g) (run n g)) : FnG P w K mg base (n + 1) (ad .closed) (fv .closed) [("blocks" : Str), ("word" : Str)] (mFun 6 (B_closed (run n))) := by
  refine fnG_of (N := [("blocks" : Str), ("word" : Str), ("name" : Str), ("number" : Str), ("done" : Str), ("statements" : Str)]) (b := B_closed (run n)) h.cl_closed.fn sc_closed fun cd A outer s H hr hgd => ?_
  unfold B_closed
  exact (ks_cons (ks_if (kt_eq hr.units (k_len h.z_len (ka_cons (k_var 0) ka_nil)) k_int) (ks_one (ks_ret k_non)) ks_nil)
  (ks_cons (ks_asg (k_item (k_var 0) (k_neg k_int)) (kg_unl rfl (kgs_cons (kg_name 2 sc_closed.nd) (kgs_cons (kg_name 3 sc_closed.nd) (kgs_cons (kg_name 4 sc_closed.nd) (kgs_cons (kg_name 5 sc_closed.nd) kgs_nil))))))
  (ks_cons (ks_expr (k_append (k_var 4) (k_tupof h.z_tuple (ka_cons (k_var 5) ka_nil))))
  (ks_cons (ks_if ((kw_and (kt_eq hr.units (k_var 2) k_str) (kw_and1 (kt_eq hr.units (k_len h.z_len (ka_cons (k_var 4) ka_nil)) k_int))).pt) (ks_cons (ks_asg (k_new (ka_cons (k_var 2) (ka_cons (k_var 3) (ka_cons (k_var 4) (ka_cons (k_new ka_nil) ka_nil))))) (kg_set (k_var 0) (k_neg k_int)))
  (ks_one (ks_ret (k_ifE (kt_eq hr.units (k_var 1) k_str) k_int k_non)))) ks_nil)
  (ks_cons (ks_expr (k_pop (k_var 0)))
  (ks_cons (ks_expr (k_append (k_item (k_item (k_var 0) (k_neg k_int)) k_int) (k_add (k_tup (ka_cons (k_var 2) (ka_cons (k_var 3) ka_nil))) (k_tupof h.z_tuple (ka_cons (k_var 4) ka_nil)))))
  (ks_one (ks_ret k_int))))))))
theorem ok_behind_statement (h : Hy K w mg ad fv) (ih : ∀ g, FnG P w K mg base n (ad g) (fv g) (ps g) (run n g)) : FnG P w K mg base (n + 1) (ad .behind_statement) (fv .behind_statement) [("words" : Str), ("at" : Str)] (mFun 2 (B_behind_statement (run n))) := by
  refine fnG_of (N := [("words" : Str), ("at" : Str)]) (b := B_behind_statement (run n)) h.cl_behind_statement.fn sc_behind_statement fun cd A outer s H hr hgd => ?_
  unfold B_behind_statement
  exact (ks_cons (ks_while 100000 PassesOwn.never ((kw_and (kt_lt (k_var 1) (k_len h.z_len (ka_cons (k_var 0) ka_nil))) (kw_and1 (kt_nin (k_item (k_var 0) (k_var 1)) (k_tup (ka_cons k_str (ka_cons k_str (ka_cons k_str ka_nil))))))).pt) (ks_one (ks_inc 1 sc_behind_statement.nd k_int)))
  (ks_one (ks_ret (k_var 1))))
theorem ok_hand_in (h : Hy K w mg ad fv) (ih : ∀ g, FnG P w K mg base n (ad g) (fv g) (ps g) (run n g)) : FnG P w K mg base (n + 1) (ad .hand_in) (fv .hand_in) [("text" : Str)] (mFun 7 (B_hand_in (run n))) := by
  refine fnG_of (N := [("text" : Str), ("words" : Str), ("blocks" : Str), ("at" : Str), ("word" : Str), ("taken" : Str), ("end" : Str)]) (b := B_hand_in (run n)) h.cl_hand_in.fn sc_hand_in fun cd A outer s H hr hgd => ?_
  unfold B_hand_in
  exact (ks_cons (ks_if (kt_eq hr.units (k_var 0) k_str) (ks_one (ks_ret (k_tup ka_nil))) ks_nil)
  (ks_cons (ks_set 1 sc_hand_in.nd (k_split (k_var 0) k_str))
  (ks_cons (ks_set 2 sc_hand_in.nd (k_new (ka_cons (k_new (ka_cons k_str (ka_cons k_int (ka_cons (k_new ka_nil) (ka_cons (k_new ka_nil) ka_nil))))) ka_nil)))
  (ks_cons (ks_set 3 sc_hand_in.nd k_int)
  (ks_cons (ks_while 100000 PassesOwn.never (kt_lt (k_var 3) (k_len h.z_len (ka_cons (k_var 1) ka_nil))) (ks_cons (ks_set 4 sc_hand_in.nd (k_item (k_var 1) (k_var 3)))
  (ks_cons (ks_set 5 sc_hand_in.nd k_int)
  (ks_cons (ks_if (kt_eq hr.units (k_var 4) k_str) (ks_one (ks_set 5 sc_hand_in.nd (k_callN (ih .closed) hr hgd h.cl_closed.mgf h.cl_closed.kp h.cl_closed.bd (ka_cons (k_var 2) (ka_cons (k_ifE (kt_lt (k_add (k_var 3) k_int) (k_len h.z_len (ka_cons (k_var 1) ka_nil))) (k_item (k_var 1) (k_add (k_var 3) k_int)) k_str) ka_nil))))) (ks_one (ks_if (kt_in (k_var 4) (k_tup (ka_cons k_str (ka_cons k_str ka_nil)))) (ks_one (ks_set 5 sc_hand_in.nd (k_ifE (kt_val (k_callN (ih .opened) hr hgd h.cl_opened.mgf h.cl_opened.kp h.cl_opened.bd (ka_cons (k_var 2) (ka_cons (k_slL (k_var 1) (ko_some (k_var 3)) (ko_some (k_add (k_var 3) k_int))) ka_nil)))) k_int k_non))) (ks_one (ks_if (kt_ne hr.units (k_var 4) k_str) (ks_cons (ks_set 6 sc_hand_in.nd (k_callN (ih .behind_statement) hr hgd h.cl_behind_statement.mgf h.cl_behind_statement.kp h.cl_behind_statement.bd (ka_cons (k_var 1) (ka_cons (k_add (k_var 3) k_int) ka_nil))))
  (ks_cons (ks_set 5 sc_hand_in.nd (k_sub (k_var 6) (k_var 3)))
  (ks_one (ks_expr (k_append (k_item (k_item (k_var 2) (k_neg k_int)) k_int) (k_callN (ih .plain_statement) hr hgd h.cl_plain_statement.mgf h.cl_plain_statement.kp h.cl_plain_statement.bd (ka_cons (k_slL (k_var 1) (ko_some (k_var 3)) (ko_some (k_var 6))) ka_nil))))))) ks_nil)))))
  (ks_cons (ks_if (kt_is (k_var 5) k_non) (ks_one (ks_ret k_non)) ks_nil)
  (ks_one (ks_inc 3 sc_hand_in.nd (k_var 5))))))))
  (ks_one (ks_ret (k_ifE (kt_eq hr.units (k_len h.z_len (ka_cons (k_var 2) ka_nil)) k_int) (k_tupof h.z_tuple (ka_cons (k_item (k_item (k_var 2) k_int) k_int) ka_nil)) k_non))))))))
theorem ok_program_in (h : Hy K w mg ad fv) (ih : ∀ g, FnG P w K mg base n (ad g) (fv g) (ps g) (run n g)) : FnG P w K mg base (n + 1) (ad .program_in) (fv .program_in) [("text" : Str)] (mFun 2 (B_program_in (run n))) := by
  refine fnG_of (N := [("text" : Str), ("part" : Str)]) (b := B_program_in (run n)) h.cl_program_in.fn sc_program_in fun cd A outer s H hr hgd => ?_
  unfold B_program_in
  exact (ks_one (ks_ret (k_tupof h.z_tuple (ka_cons (k_comp (own := [(("part" : Str), 1)]) (own_ := [(("part" : Str), 1)]) rfl sc_program_in.nd (cg_name 1) (ki_lst (k_split (k_var 0) k_str)) (by rfl) (fun _ _ _ _ _ => (pg_name (i := 1) sc_program_in.nd rfl (by first | exact Or.inl rfl | exact Or.inr rfl))) (fun _ _ _ _ _ => kp_nil) (fun _ _ _ _ _ => (k_callN (ih .hand_in) hr hgd h.cl_hand_in.mgf h.cl_hand_in.kp h.cl_hand_in.bd (ka_cons (k_var 1) ka_nil)))) ka_nil))))
theorem ok_is_variable (h : Hy K w mg ad fv) (ih : ∀ g, FnG P w K mg base n (ad g) (fv g) (ps g) (run n g)) : FnG P w K mg base (n + 1) (ad .is_variable) (fv .is_variable) [("value" : Str)] (mFun 1 (B_is_variable (run n))) := by
  refine fnG_of (N := [("value" : Str)]) (b := B_is_variable (run n)) h.cl_is_variable.fn sc_is_variable fun cd A outer s H hr hgd => ?_
  unfold B_is_variable
  exact (ks_one (ks_ret (k_callN (ih .is_within) hr hgd h.cl_is_within.mgf h.cl_is_within.kp h.cl_is_within.bd (ka_cons (k_var 0) (ka_cons k_int (ka_cons (k_sub (k_gv h.g_VARIABLES) k_int) ka_nil))))))
theorem ok_is_part_of (h : Hy K w mg ad fv) (ih : ∀ g, FnG P w K mg base n (ad g) (fv g) (ps g) (run n g)) : FnG P w K mg base (n + 1) (ad .is_part_of) (fv .is_part_of) [("value" : Str), ("kind" : Str), ("name" : Str)] (mFun 3 (B_is_part_of (run n))) := by
  refine fnG_of (N := [("value" : Str), ("kind" : Str), ("name" : Str)]) (b := B_is_part_of (run n)) h.cl_is_part_of.fn sc_is_part_of fun cd A outer s H hr hgd => ?_
  unfold B_is_part_of
  exact (ks_cons (ks_if (kt_eq hr.units (k_var 1) k_str) (ks_one (ks_ret (k_callN (ih .is_variable) hr hgd h.cl_is_variable.mgf h.cl_is_variable.kp h.cl_is_variable.bd (ka_cons (k_var 0) ka_nil)))) ks_nil)
  (ks_cons (ks_if (kt_eq hr.units (k_var 1) k_str) (ks_one (ks_ret (k_callN (ih .is_word) hr hgd h.cl_is_word.mgf h.cl_is_word.kp h.cl_is_word.bd (ka_cons (k_var 0) ka_nil)))) ks_nil)
  (ks_one (ks_ret (k_and (k_isi "str" h.z_isinstance h.z_str rfl (k_var 0)) (k_and1 (k_in (k_var 0) (k_getK h.m_MODES (k_var 2)))))))))
theorem ok_is_plain_statement (h : Hy K w mg ad fv) (ih : ∀ g, FnG P w K mg base n (ad g) (fv g) (ps g) (run n g)) : FnG P w K mg base (n + 1) (ad .is_plain_statement) (fv .is_plain_statement) [("value" : Str)] (mFun 4 (B_is_plain_statement (run n))) := by
  refine fnG_of (N := [("value" : Str), ("parts" : Str), ("part" : Str), ("kind" : Str)]) (b := B_is_plain_statement (run n)) h.cl_is_plain_statement.fn sc_is_plain_statement fun cd A outer s H hr hgd => ?_
  unfold B_is_plain_statement
  exact (ks_cons (ks_if (kt_ninK h.m_PARTS (k_item (k_var 0) k_int)) (ks_one (ks_ret k_bl)) ks_nil)
  (ks_cons (ks_set 1 sc_is_plain_statement.nd (k_getK h.m_PARTS (k_item (k_var 0) k_int)))
  (ks_cons (ks_if (kt_ne hr.units (k_len h.z_len (ka_cons (k_var 0) ka_nil)) (k_add (k_len h.z_len (ka_cons (k_var 1) ka_nil)) k_int)) (ks_one (ks_ret k_bl)) ks_nil)
  (ks_one (ks_ret (k_all rfl h.z_all (ka_cons (k_comp (own := [(("part" : Str), 2), (("kind" : Str), 3)]) (own_ := [(("part" : Str), 2), (("kind" : Str), 3)]) rfl sc_is_plain_statement.nd (cg_pair 2 3 (by decide)) (ki_zipTS h.z_zip (ka_cons (k_slT (k_var 0) (ko_some k_int) ko_none) (ka_cons (k_var 1) ka_nil))) (by rfl) (fun _ _ _ _ _ => (pg_tup rfl (pgs_cons (pg_name (i := 2) sc_is_plain_statement.nd rfl (by first | exact Or.inl rfl | exact Or.inr rfl)) (pgs_cons (pg_name (i := 3) sc_is_plain_statement.nd rfl (by first | exact Or.inl rfl | exact Or.inr rfl)) pgs_nil)))) (fun _ _ _ _ _ => kp_nil) (fun _ _ _ _ _ => (k_callN (ih .is_part_of) hr hgd h.cl_is_part_of.mgf h.cl_is_part_of.kp h.cl_is_part_of.bd (ka_cons (k_var 2) (ka_cons (k_var 3) (ka_cons (k_item (k_var 0) k_int) ka_nil)))))) ka_nil)))))))
theorem ok_bodies_of (h : Hy K w mg ad fv) (ih : ∀ g, FnG P w K mg base n (ad g) (fv g) (ps g) (run n g)) : FnG P w K mg base (n + 1) (ad .bodies_of) (fv .bodies_of) [("value" : Str)] (mFun 3 (B_bodies_of (run n))) := by
  refine fnG_of (N := [("value" : Str), ("bodies" : Str), ("body" : Str)]) (b := B_bodies_of (run n)) h.cl_bodies_of.fn sc_bodies_of fun cd A outer s H hr hgd => ?_
  unfold B_bodies_of
  exact (ks_cons (ks_set 1 sc_bodies_of.nd (k_lst ka_nil))
  (ks_cons (ks_if ((kw_and (kt_eq hr.units (k_item (k_var 0) k_int) k_str) (kw_and (kt_eq hr.units (k_len h.z_len (ka_cons (k_var 0) ka_nil)) k_int) (kw_and1 (kt_val (k_callN (ih .is_variable) hr hgd h.cl_is_variable.mgf h.cl_is_variable.kp h.cl_is_variable.bd (ka_cons (k_item (k_var 0) k_int) ka_nil)))))).pt) (ks_one (ks_set 1 sc_bodies_of.nd (k_lst (ka_cons (k_item (k_var 0) k_int) (ka_cons (k_item (k_var 0) k_int) ka_nil))))) ks_nil)
  (ks_cons (ks_if ((kw_and (kt_eq hr.units (k_item (k_var 0) k_int) k_str) (kw_and (kt_eq hr.units (k_len h.z_len (ka_cons (k_var 0) ka_nil)) k_int) (kw_and1 (kt_val (k_callN (ih .is_within) hr hgd h.cl_is_within.mgf h.cl_is_within.kp h.cl_is_within.bd (ka_cons (k_item (k_var 0) k_int) (ka_cons k_int (ka_cons (k_gv h.g_MOST_TIMES) ka_nil)))))))).pt) (ks_one (ks_set 1 sc_bodies_of.nd (k_lst (ka_cons (k_item (k_var 0) k_int) ka_nil)))) ks_nil)
  (ks_cons (ks_if ((kw_or (kt_eq hr.units (k_var 1) (k_lst ka_nil)) (kw_or1 (kt_not (kt_val (k_all rfl h.z_all (ka_cons (k_comp (own := [(("body" : Str), 2)]) (own_ := [(("body" : Str), 2)]) rfl sc_bodies_of.nd (cg_name 2) (ki_lst (k_var 1)) (by rfl) (fun _ _ _ _ _ => (pg_name (i := 2) sc_bodies_of.nd rfl (by first | exact Or.inl rfl | exact Or.inr rfl))) (fun _ _ _ _ _ => kp_nil) (fun _ _ _ _ _ => (k_isi "tuple" h.z_isinstance h.z_tuple rfl (k_var 2)))) ka_nil)))))).pt) (ks_one (ks_ret k_non)) ks_nil)
  (ks_one (ks_ret (k_var 1)))))))
theorem ok_count_of (h : Hy K w mg ad fv) (ih : ∀ g, FnG P w K mg base n (ad g) (fv g) (ps g) (run n g)) : FnG P w K mg base (n + 1) (ad .count_of) (fv .count_of) [("value" : Str), ("level" : Str)] (mFun 6 (B_count_of (run n))) := by
  refine fnG_of (N := [("value" : Str), ("level" : Str), ("bodies" : Str), ("total" : Str), ("body" : Str), ("count" : Str)]) (b := B_count_of (run n)) h.cl_count_of.fn sc_count_of fun cd A outer s H hr hgd => ?_
  unfold B_count_of
  exact (ks_cons (ks_if ((kw_or (kt_gt (k_var 1) (k_gv h.g_MOST_LEVELS)) (kw_or (kt_not (kt_val (k_isi "tuple" h.z_isinstance h.z_tuple rfl (k_var 0)))) (kw_or (kt_eq hr.units (k_len h.z_len (ka_cons (k_var 0) ka_nil)) k_int) (kw_or1 (kt_not (kt_val (k_isi "str" h.z_isinstance h.z_str rfl (k_item (k_var 0) k_int)))))))).pt) (ks_one (ks_ret k_non)) ks_nil)
  (ks_cons (ks_if (kt_val (k_callN (ih .is_plain_statement) hr hgd h.cl_is_plain_statement.mgf h.cl_is_plain_statement.kp h.cl_is_plain_statement.bd (ka_cons (k_var 0) ka_nil))) (ks_one (ks_ret k_int)) ks_nil)
  (ks_cons (ks_set 2 sc_count_of.nd (k_callN (ih .bodies_of) hr hgd h.cl_bodies_of.mgf h.cl_bodies_of.kp h.cl_bodies_of.bd (ka_cons (k_var 0) ka_nil)))
  (ks_cons (ks_if (kt_is (k_var 2) k_non) (ks_one (ks_ret k_non)) ks_nil)
  (ks_cons (ks_set 3 sc_count_of.nd k_int)
  (ks_cons (ks_for PassesOwn.never rfl (ki_lst (k_var 2)) (kg_name 4 sc_count_of.nd) (ks_cons (ks_set 5 sc_count_of.nd (k_callN (ih .count_in) hr hgd h.cl_count_in.mgf h.cl_count_in.kp h.cl_count_in.bd (ka_cons (k_var 4) (ka_cons (k_add (k_var 1) k_int) ka_nil))))
  (ks_cons (ks_if (kt_is (k_var 5) k_non) (ks_one (ks_ret k_non)) ks_nil)
  (ks_one (ks_inc 3 sc_count_of.nd (k_var 5))))))
  (ks_one (ks_ret (k_var 3)))))))))
theorem ok_count_in (h : Hy K w mg ad fv) (ih : ∀ g, FnG P w K mg base n (ad g) (fv g) (ps g) (run n g)) : FnG P w K mg base (n + 1) (ad .count_in) (fv .count_in) [("values" : Str), ("level" : Str)] (mFun 5 (B_count_in (run n))) := by
  refine fnG_of (N := [("values" : Str), ("level" : Str), ("total" : Str), ("value" : Str), ("count" : Str)]) (b := B_count_in (run n)) h.cl_count_in.fn sc_count_in fun cd A outer s H hr hgd => ?_
  unfold B_count_in
  exact (ks_cons (ks_set 2 sc_count_in.nd k_int)
  (ks_cons (ks_for PassesOwn.never rfl (ki_tup (k_var 0)) (kg_name 3 sc_count_in.nd) (ks_cons (ks_set 4 sc_count_in.nd (k_callN (ih .count_of) hr hgd h.cl_count_of.mgf h.cl_count_of.kp h.cl_count_of.bd (ka_cons (k_var 3) (ka_cons (k_var 1) ka_nil))))
  (ks_cons (ks_if (kt_is (k_var 4) k_non) (ks_one (ks_ret k_non)) ks_nil)
  (ks_one (ks_inc 2 sc_count_in.nd (k_var 4))))))
  (ks_one (ks_ret (k_var 2)))))
theorem ok_is_a_hand (h : Hy K w mg ad fv) (ih : ∀ g, FnG P w K mg base n (ad g) (fv g) (ps g) (run n g)) : FnG P w K mg base (n + 1) (ad .is_a_hand) (fv .is_a_hand) [("value" : Str)] (mFun 2 (B_is_a_hand (run n))) := by
  refine fnG_of (N := [("value" : Str), ("count" : Str)]) (b := B_is_a_hand (run n)) h.cl_is_a_hand.fn sc_is_a_hand fun cd A outer s H hr hgd => ?_
  unfold B_is_a_hand
  exact (ks_cons (ks_if (kt_not (kt_val (k_isi "tuple" h.z_isinstance h.z_tuple rfl (k_var 0)))) (ks_one (ks_ret k_bl)) ks_nil)
  (ks_cons (ks_set 1 sc_is_a_hand.nd (k_callN (ih .count_in) hr hgd h.cl_count_in.mgf h.cl_count_in.kp h.cl_count_in.bd (ka_cons (k_var 0) (ka_cons k_int ka_nil))))
  (ks_one (ks_ret (k_and (k_isnot (k_var 1) k_non) (k_and1 (k_le (k_var 1) (k_gv h.g_MOST_STATEMENTS))))))))
theorem ok_is_a_program (h : Hy K w mg ad fv) (ih : ∀ g, FnG P w K mg base n (ad g) (fv g) (ps g) (run n g)) : FnG P w K mg base (n + 1) (ad .is_a_program) (fv .is_a_program) [("value" : Str)] (mFun 2 (B_is_a_program (run n))) := by
  refine fnG_of (N := [("value" : Str), ("hand" : Str)]) (b := B_is_a_program (run n)) h.cl_is_a_program.fn sc_is_a_program fun cd A outer s H hr hgd => ?_
  unfold B_is_a_program
  exact (ks_cons (ks_if ((kw_or (kt_not (kt_val (k_isi "tuple" h.z_isinstance h.z_tuple rfl (k_var 0)))) (kw_or1 (kt_not (kt_leLe k_int (k_len h.z_len (ka_cons (k_var 0) ka_nil)) (k_gv h.g_MOST_HANDS))))).pt) (ks_one (ks_ret k_bl)) ks_nil)
  (ks_one (ks_ret (k_all rfl h.z_all (ka_cons (k_comp (own := [(("hand" : Str), 1)]) (own_ := [(("hand" : Str), 1)]) rfl sc_is_a_program.nd (cg_name 1) (ki_tup (k_var 0)) (by rfl) (fun _ _ _ _ _ => (pg_name (i := 1) sc_is_a_program.nd rfl (by first | exact Or.inl rfl | exact Or.inr rfl))) (fun _ _ _ _ _ => kp_nil) (fun _ _ _ _ _ => (k_callN (ih .is_a_hand) hr hgd h.cl_is_a_hand.mgf h.cl_is_a_hand.kp h.cl_is_a_hand.bd (ka_cons (k_var 1) ka_nil)))) ka_nil)))))
theorem ok_read_program (h : Hy K w mg ad fv) (ih : ∀ g, FnG P w K mg base n (ad g) (fv g) (ps g) (run n g)) : FnG P w K mg base (n + 1) (ad .read_program) (fv .read_program) [("text" : Str)] (mFun 2 (B_read_program (run n))) := by
  refine fnG_of (N := [("text" : Str), ("program" : Str)]) (b := B_read_program (run n)) h.cl_read_program.fn sc_read_program fun cd A outer s H hr hgd => ?_
  unfold B_read_program
  exact (ks_cons (ks_set 1 sc_read_program.nd (k_ifE (kt_val (k_isi "str" h.z_isinstance h.z_str rfl (k_var 0))) (k_callN (ih .program_in) hr hgd h.cl_program_in.mgf h.cl_program_in.kp h.cl_program_in.bd (ka_cons (k_var 0) ka_nil)) k_non))
  (ks_cons (ks_if ((kw_or (kt_not (kt_val (k_callN (ih .is_a_program) hr hgd h.cl_is_a_program.mgf h.cl_is_a_program.kp h.cl_is_a_program.bd (ka_cons (k_var 1) ka_nil)))) (kw_or1 (kt_ne hr.units (k_callN (ih .show_program) hr hgd h.cl_show_program.mgf h.cl_show_program.kp h.cl_show_program.bd (ka_cons (k_var 1) ka_nil)) (k_var 0)))).pt) (ks_one ks_bad) ks_nil)
  (ks_one (ks_ret (k_var 1)))))
theorem ok__law_well (h : Hy K w mg ad fv) (ih : ∀ g, FnG P w K mg base n (ad g) (fv g) (ps g) (run n g)) : FnG P w K mg base (n + 1) (ad ._law_well) (fv ._law_well) [("script" : Str), ("k" : Str)] (mFun 6 (B__law_well (run n))) := by
  refine fnG_of (N := [("script" : Str), ("k" : Str), ("cell" : Str), ("total" : Str), ("at" : Str), ("other" : Str)]) (b := B__law_well (run n)) h.cl__law_well.fn sc__law_well fun cd A outer s H hr hgd => ?_
  unfold B__law_well
  exact (ks_cons (ks_par2 2 3 rfl sc__law_well.nd (ka_cons (k_add (k_mul k_int (k_var 1)) k_int) (ka_cons (k_add (k_mul k_int (k_var 1)) k_int) ka_nil)))
  (ks_cons (ks_if (kt_lt (k_var 1) (k_len h.z_len (ka_cons (k_var 0) ka_nil))) (ks_one (ks_set 2 sc__law_well.nd (k_intof h.z_int (ka_cons (k_item (k_var 0) (k_var 1)) ka_nil)))) ks_nil)
  (ks_cons (ks_for PassesOwn.never rfl (ki_enum h.z_enumerate (ka_cons (k_var 0) ka_nil)) (kg_tup rfl (kgs_cons (kg_name 4 sc__law_well.nd) (kgs_cons (kg_name 5 sc__law_well.nd) kgs_nil))) (ks_one (ks_set 3 sc__law_well.nd (k_mod (k_intof h.z_int (ka_cons (k_add (k_mul (k_var 3) k_int) (k_mul (k_add (k_var 4) k_int) (k_mod (k_intof h.z_int (ka_cons (k_var 5) ka_nil)) (k_add (k_pow k_int k_int) k_int)))) ka_nil)) (k_add (k_pow k_int k_int) k_int)))))
  (ks_one (ks_ret (k_new (ka_cons (k_max rfl h.z_max (ka_cons k_int (ka_cons (k_sub (k_var 2) (k_pow k_int k_int)) ka_nil))) (ka_cons (k_mod (k_intof h.z_int (ka_cons (k_add (k_mul (k_abs h.z_abs (ka_cons (k_var 2) ka_nil)) k_int) (k_var 3)) ka_nil)) (k_add (k_pow k_int k_int) k_int)) (ka_cons k_int ka_nil)))))))))
theorem ok__law_dip (h : Hy K w mg ad fv) (ih : ∀ g, FnG P w K mg base n (ad g) (fv g) (ps g) (run n g)) : FnG P w K mg base (n + 1) (ad ._law_dip) (fv ._law_dip) [("well" : Str), ("many" : Str)] (mFun 4 (B__law_dip (run n))) := by
  refine fnG_of (N := [("well" : Str), ("many" : Str), ("found" : Str), ("mixed" : Str)]) (b := B__law_dip (run n)) h.cl__law_dip.fn sc__law_dip fun cd A outer s H hr hgd => ?_
  unfold B__law_dip
  exact (ks_cons (ks_if (kt_gt (k_item (k_var 0) k_int) k_int) (ks_cons (ks_set 2 sc__law_dip.nd (k_mod (k_intof h.z_int (ka_cons (k_item (k_var 0) k_int) ka_nil)) (k_var 1)))
  (ks_cons (ks_asg (k_div (k_item (k_var 0) k_int) (k_var 1)) (kg_set (k_var 0) k_int))
  (ks_one (ks_ret (k_var 2))))) ks_nil)
  (ks_cons (ks_asg (k_add (k_item (k_var 0) k_int) k_int) (kg_set (k_var 0) k_int))
  (ks_cons (ks_set 3 sc__law_dip.nd (k_mod (k_intof h.z_int (ka_cons (k_add (k_pow (k_add (k_item (k_var 0) k_int) (k_mul k_int (k_item (k_var 0) k_int))) k_int) (k_mul k_int (k_item (k_var 0) k_int))) ka_nil)) (k_add (k_pow k_int k_int) k_int)))
  (ks_one (ks_ret (k_mod (k_div (k_mod (k_intof h.z_int (ka_cons (k_mul (k_var 3) (k_add (k_var 3) k_int)) ka_nil)) (k_add (k_pow k_int k_int) k_int)) k_int) (k_var 1)))))))
theorem ok__law_of (h : Hy K w mg ad fv) (ih : ∀ g, FnG P w K mg base n (ad g) (fv g) (ps g) (run n g)) : FnG P w K mg base (n + 1) (ad ._law_of) (fv ._law_of) [("well" : Str), ("things" : Str)] (mFun 2 (B__law_of (run n))) := by
  refine fnG_of (N := [("well" : Str), ("things" : Str)]) (b := B__law_of (run n)) h.cl__law_of.fn sc__law_of fun cd A outer s H hr hgd => ?_
  unfold B__law_of
  exact (ks_one (ks_ret (k_item (k_var 1) (k_callN (ih ._law_dip) hr hgd h.cl__law_dip.mgf h.cl__law_dip.kp h.cl__law_dip.bd (ka_cons (k_var 0) (ka_cons (k_len h.z_len (ka_cons (k_var 1) ka_nil)) ka_nil))))))
theorem ok__law_word (h : Hy K w mg ad fv) (ih : ∀ g, FnG P w K mg base n (ad g) (fv g) (ps g) (run n g)) : FnG P w K mg base (n + 1) (ad ._law_word) (fv ._law_word) [("well" : Str)] (mFun 1 (B__law_word (run n))) := by
  refine fnG_of (N := [("well" : Str)]) (b := B__law_word (run n)) h.cl__law_word.fn sc__law_word fun cd A outer s H hr hgd => ?_
  unfold B__law_word
  exact (ks_one (ks_ret (k_callN (ih ._law_of) hr hgd h.cl__law_of.mgf h.cl__law_of.kp h.cl__law_of.bd (ka_cons (k_var 0) (ka_cons (k_lst (ka_cons (k_callN (ih ._law_dip) hr hgd h.cl__law_dip.mgf h.cl__law_dip.kp h.cl__law_dip.bd (ka_cons (k_var 0) (ka_cons k_int ka_nil))) (ka_cons (k_callN (ih ._law_dip) hr hgd h.cl__law_dip.mgf h.cl__law_dip.kp h.cl__law_dip.bd (ka_cons (k_var 0) (ka_cons k_int ka_nil))) (ka_cons (k_sub k_int (k_callN (ih ._law_dip) hr hgd h.cl__law_dip.mgf h.cl__law_dip.kp h.cl__law_dip.bd (ka_cons (k_var 0) (ka_cons k_int ka_nil)))) (ka_cons (k_callN (ih ._law_dip) hr hgd h.cl__law_dip.mgf h.cl__law_dip.kp h.cl__law_dip.bd (ka_cons (k_var 0) (ka_cons k_int ka_nil))) ka_nil))))) ka_nil)))))
theorem ok__law_plain (h : Hy K w mg ad fv) (ih : ∀ g, FnG P w K mg base n (ad g) (fv g) (ps g) (run n g)) : FnG P w K mg base (n + 1) (ad ._law_plain) (fv ._law_plain) [("well" : Str)] (mFun 8 (B__law_plain (run n))) := by
  refine fnG_of (N := [("well" : Str), ("names" : Str), ("name" : Str), ("v" : Str), ("a" : Str), ("b" : Str), ("k" : Str), ("way" : Str)]) (b := B__law_plain (run n)) h.cl__law_plain.fn sc__law_plain fun cd A outer s H hr hgd => ?_
  unfold B__law_plain
  exact (ks_cons (ks_set 1 sc__law_plain.nd (k_lst (ka_cons k_str (ka_cons k_str (ka_cons k_str (ka_cons k_str (ka_cons k_str (ka_cons k_str (ka_cons k_str (ka_cons k_str (ka_cons k_str (ka_cons k_str (ka_cons k_str (ka_cons k_str (ka_cons k_str (ka_cons k_str ka_nil))))))))))))))))
  (ks_cons (ks_asg (k_tup (ka_cons (k_callN (ih ._law_of) hr hgd h.cl__law_of.mgf h.cl__law_of.kp h.cl__law_of.bd (ka_cons (k_var 0) (ka_cons (k_var 1) ka_nil))) (ka_cons (k_callN (ih ._law_dip) hr hgd h.cl__law_dip.mgf h.cl__law_dip.kp h.cl__law_dip.bd (ka_cons (k_var 0) (ka_cons k_int ka_nil))) (ka_cons (k_callN (ih ._law_dip) hr hgd h.cl__law_dip.mgf h.cl__law_dip.kp h.cl__law_dip.bd (ka_cons (k_var 0) (ka_cons k_int ka_nil))) (ka_cons (k_callN (ih ._law_dip) hr hgd h.cl__law_dip.mgf h.cl__law_dip.kp h.cl__law_dip.bd (ka_cons (k_var 0) (ka_cons k_int ka_nil))) ka_nil))))) (kg_tup rfl (kgs_cons (kg_name 2 sc__law_plain.nd) (kgs_cons (kg_name 3 sc__law_plain.nd) (kgs_cons (kg_name 4 sc__law_plain.nd) (kgs_cons (kg_name 5 sc__law_plain.nd) kgs_nil))))))
  (ks_cons (ks_par2 6 7 rfl sc__law_plain.nd (ka_cons (k_callN (ih ._law_word) hr hgd h.cl__law_word.mgf h.cl__law_word.kp h.cl__law_word.bd (ka_cons (k_var 0) ka_nil)) (ka_cons (k_callN (ih ._law_dip) hr hgd h.cl__law_dip.mgf h.cl__law_dip.kp h.cl__law_dip.bd (ka_cons (k_var 0) (ka_cons k_int ka_nil))) ka_nil)))
  (ks_cons (ks_if (kt_eq hr.units (k_var 2) k_str) (ks_one (ks_ret (k_tup (ka_cons (k_var 2) (ka_cons (k_var 3) (ka_cons (k_var 6) ka_nil)))))) ks_nil)
  (ks_cons (ks_if (kt_in (k_var 2) (k_lst (ka_cons k_str (ka_cons k_str ka_nil)))) (ks_one (ks_ret (k_tup (ka_cons (k_var 2) (ka_cons (k_var 3) (ka_cons (k_var 4) (ka_cons (k_var 6) (ka_cons (k_item (k_lst (ka_cons k_str (ka_cons k_str ka_nil))) (k_mod (k_intof h.z_int (ka_cons (k_var 7) ka_nil)) k_int)) ka_nil)))))))) ks_nil)
  (ks_cons (ks_if (kt_eq hr.units (k_var 2) k_str) (ks_one (ks_ret (k_tup (ka_cons (k_var 2) (ka_cons (k_var 3) (ka_cons (k_var 4) (ka_cons (k_var 6) (ka_cons (k_item (k_lst (ka_cons k_str (ka_cons k_str ka_nil))) (k_mod (k_intof h.z_int (ka_cons (k_var 7) ka_nil)) k_int)) ka_nil)))))))) ks_nil)
  (ks_cons (ks_if (kt_in (k_var 2) (k_lst (ka_cons k_str (ka_cons k_str ka_nil)))) (ks_one (ks_ret (k_tup (ka_cons (k_var 2) (ka_cons (k_var 3) (ka_cons (k_var 5) (ka_cons (k_var 4) (ka_cons (k_var 6) (ka_cons (k_item (k_lst (ka_cons k_str (ka_cons k_str (ka_cons k_str (ka_cons k_str ka_nil))))) (k_var 7)) ka_nil))))))))) ks_nil)
  (ks_one (ks_ret (k_ifE (kt_eq hr.units (k_var 2) k_str) (k_tup (ka_cons (k_var 2) ka_nil)) (k_tup (ka_cons (k_var 2) (ka_cons (k_var 3) (ka_cons (k_var 4) (ka_cons (k_var 5) ka_nil)))))))))))))))
theorem ok__law_any (h : Hy K w mg ad fv) (ih : ∀ g, FnG P w K mg base n (ad g) (fv g) (ps g) (run n g)) : FnG P w K mg base (n + 1) (ad ._law_any) (fv ._law_any) [("well" : Str), ("level" : Str), ("left" : Str)] (mFun 6 (B__law_any (run n))) := by
  refine fnG_of (N := [("well" : Str), ("level" : Str), ("left" : Str), ("way" : Str), ("one" : Str), ("other" : Str)]) (b := B__law_any (run n)) h.cl__law_any.fn sc__law_any fun cd A outer s H hr hgd => ?_
  unfold B__law_any
  exact (ks_cons (ks_par3 3 4 5 rfl sc__law_any.nd (ka_cons (k_callN (ih ._law_dip) hr hgd h.cl__law_dip.mgf h.cl__law_dip.kp h.cl__law_dip.bd (ka_cons (k_var 0) (ka_cons k_int ka_nil))) (ka_cons (k_tup (ka_cons (k_tup ka_nil) (ka_cons k_int ka_nil))) (ka_cons (k_tup (ka_cons (k_tup ka_nil) (ka_cons k_int ka_nil))) ka_nil))))
  (ks_cons (ks_if (kt_eq hr.units (k_var 3) k_int) (ks_cons (ks_if (kt_lt (k_var 1) k_int) (ks_cons (ks_set 4 sc__law_any.nd (k_callN (ih ._law_some) hr hgd h.cl__law_some.mgf h.cl__law_some.kp h.cl__law_some.bd (ka_cons (k_var 0) (ka_cons (k_add (k_var 1) k_int) (ka_cons (k_sub (k_var 2) k_int) ka_nil)))))
  (ks_one (ks_set 5 sc__law_any.nd (k_callN (ih ._law_some) hr hgd h.cl__law_some.mgf h.cl__law_some.kp h.cl__law_some.bd (ka_cons (k_var 0) (ka_cons (k_add (k_var 1) k_int) (ka_cons (k_sub (k_sub (k_var 2) k_int) (k_item (k_var 4) k_int)) ka_nil))))))) ks_nil)
  (ks_one (ks_ret (k_tup (ka_cons (k_tup (ka_cons k_str (ka_cons (k_callN (ih ._law_dip) hr hgd h.cl__law_dip.mgf h.cl__law_dip.kp h.cl__law_dip.bd (ka_cons (k_var 0) (ka_cons k_int ka_nil))) (ka_cons (k_item (k_var 4) k_int) (ka_cons (k_item (k_var 5) k_int) ka_nil))))) (ka_cons (k_add (k_add k_int (k_item (k_var 4) k_int)) (k_item (k_var 5) k_int)) ka_nil)))))) ks_nil)
  (ks_cons (ks_if (kt_eq hr.units (k_var 3) k_int) (ks_cons (ks_if (kt_lt (k_var 1) k_int) (ks_one (ks_set 4 sc__law_any.nd (k_callN (ih ._law_some) hr hgd h.cl__law_some.mgf h.cl__law_some.kp h.cl__law_some.bd (ka_cons (k_var 0) (ka_cons (k_add (k_var 1) k_int) (ka_cons (k_sub (k_var 2) k_int) ka_nil)))))) ks_nil)
  (ks_one (ks_ret (k_tup (ka_cons (k_tup (ka_cons k_str (ka_cons (k_callN (ih ._law_of) hr hgd h.cl__law_of.mgf h.cl__law_of.kp h.cl__law_of.bd (ka_cons (k_var 0) (ka_cons (k_lst (ka_cons k_int (ka_cons k_int (ka_cons k_int (ka_cons k_int (ka_cons (k_callN (ih ._law_dip) hr hgd h.cl__law_dip.mgf h.cl__law_dip.kp h.cl__law_dip.bd (ka_cons (k_var 0) (ka_cons k_int ka_nil))) ka_nil)))))) ka_nil))) (ka_cons (k_item (k_var 4) k_int) ka_nil)))) (ka_cons (k_add k_int (k_item (k_var 4) k_int)) ka_nil)))))) ks_nil)
  (ks_one (ks_ret (k_tup (ka_cons (k_callN (ih ._law_plain) hr hgd h.cl__law_plain.mgf h.cl__law_plain.kp h.cl__law_plain.bd (ka_cons (k_var 0) ka_nil)) (ka_cons k_int ka_nil))))))))
theorem ok__law_some (h : Hy K w mg ad fv) (ih : ∀ g, FnG P w K mg base n (ad g) (fv g) (ps g) (run n g)) : FnG P w K mg base (n + 1) (ad ._law_some) (fv ._law_some) [("well" : Str), ("level" : Str), ("left" : Str)] (mFun 8 (B__law_some (run n))) := by
  refine fnG_of (N := [("well" : Str), ("level" : Str), ("left" : Str), ("found" : Str), ("used" : Str), ("turn" : Str), ("more" : Str), ("many" : Str)]) (b := B__law_some (run n)) h.cl__law_some.fn sc__law_some fun cd A outer s H hr hgd => ?_
  unfold B__law_some
  exact (ks_cons (ks_par2 3 4 rfl sc__law_some.nd (ka_cons (k_new ka_nil) (ka_cons k_int ka_nil)))
  (ks_cons (ks_for PassesOwn.never rfl (ki_range1 h.z_range (ka_cons (k_callN (ih ._law_dip) hr hgd h.cl__law_dip.mgf h.cl__law_dip.kp h.cl__law_dip.bd (ka_cons (k_var 0) (ka_cons (k_callN (ih ._law_of) hr hgd h.cl__law_of.mgf h.cl__law_of.kp h.cl__law_of.bd (ka_cons (k_var 0) (ka_cons (k_lst (ka_cons k_int (ka_cons k_int (ka_cons k_int (ka_cons k_int ka_nil))))) ka_nil))) ka_nil))) ka_nil)) (kg_name 5 sc__law_some.nd) (ks_one (ks_if (kt_lt (k_var 4) (k_var 2)) (ks_cons (ks_asg (k_callN (ih ._law_any) hr hgd h.cl__law_any.mgf h.cl__law_any.kp h.cl__law_any.bd (ka_cons (k_var 0) (ka_cons (k_var 1) (ka_cons (k_sub (k_var 2) (k_var 4)) ka_nil)))) (kg_tup rfl (kgs_cons (kg_name 6 sc__law_some.nd) (kgs_cons (kg_name 7 sc__law_some.nd) kgs_nil))))
  (ks_cons (ks_expr (k_append (k_var 3) (k_var 6)))
  (ks_one (ks_set 4 sc__law_some.nd (k_add (k_var 4) (k_var 7)))))) ks_nil)))
  (ks_one (ks_ret (k_tup (ka_cons (k_tupof h.z_tuple (ka_cons (k_var 3) ka_nil)) (ka_cons (k_var 4) ka_nil)))))))
theorem ok__law_deep (h : Hy K w mg ad fv) (ih : ∀ g, FnG P w K mg base n (ad g) (fv g) (ps g) (run n g)) : FnG P w K mg base (n + 1) (ad ._law_deep) (fv ._law_deep) [("well" : Str)] (mFun 3 (B__law_deep (run n))) := by
  refine fnG_of (N := [("well" : Str), ("found" : Str), ("turn" : Str)]) (b := B__law_deep (run n)) h.cl__law_deep.fn sc__law_deep fun cd A outer s H hr hgd => ?_
  unfold B__law_deep
  exact (ks_cons (ks_set 1 sc__law_deep.nd (k_tup (ka_cons (k_callN (ih ._law_plain) hr hgd h.cl__law_plain.mgf h.cl__law_plain.kp h.cl__law_plain.bd (ka_cons (k_var 0) ka_nil)) ka_nil)))
  (ks_cons (ks_for PassesOwn.never rfl (ki_range1 h.z_range (ka_cons k_int ka_nil)) (kg_name 2 sc__law_deep.nd) (ks_one (ks_if (kt_eq hr.units (k_callN (ih ._law_dip) hr hgd h.cl__law_dip.mgf h.cl__law_dip.kp h.cl__law_dip.bd (ka_cons (k_var 0) (ka_cons k_int ka_nil))) k_int) (ks_one (ks_set 1 sc__law_deep.nd (k_tup (ka_cons (k_tup (ka_cons k_str (ka_cons (k_callN (ih ._law_of) hr hgd h.cl__law_of.mgf h.cl__law_of.kp h.cl__law_of.bd (ka_cons (k_var 0) (ka_cons (k_lst (ka_cons k_int (ka_cons k_int (ka_cons (k_callN (ih ._law_dip) hr hgd h.cl__law_dip.mgf h.cl__law_dip.kp h.cl__law_dip.bd (ka_cons (k_var 0) (ka_cons k_int ka_nil))) ka_nil)))) ka_nil))) (ka_cons (k_var 1) ka_nil)))) ka_nil)))) (ks_one (ks_set 1 sc__law_deep.nd (k_ifE (kt_eq hr.units (k_callN (ih ._law_dip) hr hgd h.cl__law_dip.mgf h.cl__law_dip.kp h.cl__law_dip.bd (ka_cons (k_var 0) (ka_cons k_int ka_nil))) k_int) (k_tup (ka_cons (k_tup (ka_cons k_str (ka_cons (k_callN (ih ._law_dip) hr hgd h.cl__law_dip.mgf h.cl__law_dip.kp h.cl__law_dip.bd (ka_cons (k_var 0) (ka_cons k_int ka_nil))) (ka_cons (k_var 1) (ka_cons (k_tup ka_nil) ka_nil))))) ka_nil)) (k_tup (ka_cons (k_tup (ka_cons k_str (ka_cons k_int (ka_cons (k_tup ka_nil) (ka_cons (k_var 1) ka_nil))))) ka_nil))))))))
  (ks_one (ks_ret (k_var 1)))))
theorem ok__law_hand (h : Hy K w mg ad fv) (ih : ∀ g, FnG P w K mg base n (ad g) (fv g) (ps g) (run n g)) : FnG P w K mg base (n + 1) (ad ._law_hand) (fv ._law_hand) [("well" : Str)] (mFun 3 (B__law_hand (run n))) := by
  refine fnG_of (N := [("well" : Str), ("way" : Str), ("turn" : Str)]) (b := B__law_hand (run n)) h.cl__law_hand.fn sc__law_hand fun cd A outer s H hr hgd => ?_
  unfold B__law_hand
  exact (ks_cons (ks_set 1 sc__law_hand.nd (k_callN (ih ._law_dip) hr hgd h.cl__law_dip.mgf h.cl__law_dip.kp h.cl__law_dip.bd (ka_cons (k_var 0) (ka_cons k_int ka_nil))))
  (ks_cons (ks_if (kt_eq hr.units (k_var 1) k_int) (ks_one (ks_ret (k_tup ka_nil))) ks_nil)
  (ks_cons (ks_if (kt_eq hr.units (k_var 1) k_int) (ks_one (ks_ret (k_tupof h.z_tuple (ka_cons (k_comp (own := [(("turn" : Str), 2)]) (own_ := [(("turn" : Str), 2)]) rfl sc__law_hand.nd (cg_name 2) (ki_range1 h.z_range (ka_cons k_int ka_nil)) (by rfl) (fun _ _ _ _ _ => (pg_name (i := 2) sc__law_hand.nd rfl (by first | exact Or.inl rfl | exact Or.inr rfl))) (fun _ _ _ _ _ => kp_nil) (fun _ _ _ _ _ => (k_callN (ih ._law_plain) hr hgd h.cl__law_plain.mgf h.cl__law_plain.kp h.cl__law_plain.bd (ka_cons (k_var 0) ka_nil)))) ka_nil)))) ks_nil)
  (ks_one (ks_ret (k_ifE (kt_eq hr.units (k_var 1) k_int) (k_callN (ih ._law_deep) hr hgd h.cl__law_deep.mgf h.cl__law_deep.kp h.cl__law_deep.bd (ka_cons (k_var 0) ka_nil)) (k_item (k_callN (ih ._law_some) hr hgd h.cl__law_some.mgf h.cl__law_some.kp h.cl__law_some.bd (ka_cons (k_var 0) (ka_cons k_int (ka_cons k_int ka_nil)))) k_int)))))))
theorem ok__law_program (h : Hy K w mg ad fv) (ih : ∀ g, FnG P w K mg base n (ad g) (fv g) (ps g) (run n g)) : FnG P w K mg base (n + 1) (ad ._law_program) (fv ._law_program) [("well" : Str)] (mFun 2 (B__law_program (run n))) := by
  refine fnG_of (N := [("well" : Str), ("turn" : Str)]) (b := B__law_program (run n)) h.cl__law_program.fn sc__law_program fun cd A outer s H hr hgd => ?_
  unfold B__law_program
  exact (ks_one (ks_ret (k_tupof h.z_tuple (ka_cons (k_comp (own := [(("turn" : Str), 1)]) (own_ := [(("turn" : Str), 1)]) rfl sc__law_program.nd (cg_name 1) (ki_range1 h.z_range (ka_cons (k_add k_int (k_callN (ih ._law_dip) hr hgd h.cl__law_dip.mgf h.cl__law_dip.kp h.cl__law_dip.bd (ka_cons (k_var 0) (ka_cons k_int ka_nil)))) ka_nil)) (by rfl) (fun _ _ _ _ _ => (pg_name (i := 1) sc__law_program.nd rfl (by first | exact Or.inl rfl | exact Or.inr rfl))) (fun _ _ _ _ _ => kp_nil) (fun _ _ _ _ _ => (k_callN (ih ._law_hand) hr hgd h.cl__law_hand.mgf h.cl__law_hand.kp h.cl__law_hand.bd (ka_cons (k_var 0) ka_nil)))) ka_nil))))
theorem ok__law_inside (h : Hy K w mg ad fv) (ih : ∀ g, FnG P w K mg base n (ad g) (fv g) (ps g) (run n g)) : FnG P w K mg base (n + 1) (ad ._law_inside) (fv ._law_inside) [("statements" : Str)] (mFun 2 (B__law_inside (run n))) := by
  refine fnG_of (N := [("statements" : Str), ("one" : Str)]) (b := B__law_inside (run n)) h.cl__law_inside.fn sc__law_inside fun cd A outer s H hr hgd => ?_
  unfold B__law_inside
  exact (ks_cons (ks_if (kt_eq hr.units (k_var 0) (k_tup ka_nil)) (ks_one (ks_ret k_str)) ks_nil)
  (ks_one (ks_ret (k_add (k_add k_str (k_join k_str (k_comp (own := [(("one" : Str), 1)]) (own_ := [(("one" : Str), 1)]) rfl sc__law_inside.nd (cg_name 1) (ki_tup (k_var 0)) (by rfl) (fun _ _ _ _ _ => (pg_name (i := 1) sc__law_inside.nd rfl (by first | exact Or.inl rfl | exact Or.inr rfl))) (fun _ _ _ _ _ => kp_nil) (fun _ _ _ _ _ => (k_callN (ih ._law_line) hr hgd h.cl__law_line.mgf h.cl__law_line.kp h.cl__law_line.bd (ka_cons (k_var 1) ka_nil)))))) k_str))))
theorem ok__law_line (h : Hy K w mg ad fv) (ih : ∀ g, FnG P w K mg base n (ad g) (fv g) (ps g) (run n g)) : FnG P w K mg base (n + 1) (ad ._law_line) (fv ._law_line) [("one" : Str)] (mFun 2 (B__law_line (run n))) := by
  refine fnG_of (N := [("one" : Str), ("part" : Str)]) (b := B__law_line (run n)) h.cl__law_line.fn sc__law_line fun cd A outer s H hr hgd => ?_
  unfold B__law_line
  exact (ks_cons (ks_if (kt_eq hr.units (k_item (k_var 0) k_int) k_str) (ks_one (ks_ret (k_add (k_add (k_add (k_add (k_add k_str (k_str1 h.z_str (ka_cons (k_item (k_var 0) k_int) ka_nil))) k_str) (k_callN (ih ._law_inside) hr hgd h.cl__law_inside.mgf h.cl__law_inside.kp h.cl__law_inside.bd (ka_cons (k_item (k_var 0) k_int) ka_nil))) k_str) (k_callN (ih ._law_inside) hr hgd h.cl__law_inside.mgf h.cl__law_inside.kp h.cl__law_inside.bd (ka_cons (k_item (k_var 0) k_int) ka_nil))))) ks_nil)
  (ks_cons (ks_if (kt_eq hr.units (k_item (k_var 0) k_int) k_str) (ks_one (ks_ret (k_add (k_add (k_add k_str (k_str1 h.z_str (ka_cons (k_item (k_var 0) k_int) ka_nil))) k_str) (k_callN (ih ._law_inside) hr hgd h.cl__law_inside.mgf h.cl__law_inside.kp h.cl__law_inside.bd (ka_cons (k_item (k_var 0) k_int) ka_nil))))) ks_nil)
  (ks_one (ks_ret (k_join k_str (k_comp (own := [(("part" : Str), 1)]) (own_ := [(("part" : Str), 1)]) rfl sc__law_line.nd (cg_name 1) (ki_tup (k_var 0)) (by rfl) (fun _ _ _ _ _ => (pg_name (i := 1) sc__law_line.nd rfl (by first | exact Or.inl rfl | exact Or.inr rfl))) (fun _ _ _ _ _ => kp_nil) (fun _ _ _ _ _ => (k_str1 h.z_str (ka_cons (k_var 1) ka_nil)))))))))
theorem ok__law_text (h : Hy K w mg ad fv) (ih : ∀ g, FnG P w K mg base n (ad g) (fv g) (ps g) (run n g)) : FnG P w K mg base (n + 1) (ad ._law_text) (fv ._law_text) [("program" : Str)] (mFun 3 (B__law_text (run n))) := by
  refine fnG_of (N := [("program" : Str), ("hand" : Str), ("one" : Str)]) (b := B__law_text (run n)) h.cl__law_text.fn sc__law_text fun cd A outer s H hr hgd => ?_
  unfold B__law_text
  exact (ks_one (ks_ret (k_join k_str (k_comp (own := [(("hand" : Str), 1)]) (own_ := [(("hand" : Str), 1)]) rfl sc__law_text.nd (cg_name 1) (ki_tup (k_var 0)) (by rfl) (fun _ _ _ _ _ => (pg_name (i := 1) sc__law_text.nd rfl (by first | exact Or.inl rfl | exact Or.inr rfl))) (fun _ _ _ _ _ => kp_nil) (fun _ _ _ _ _ => (k_ifE (kt_ne hr.units (k_var 1) (k_tup ka_nil)) (k_join k_str (k_comp (own := [(("one" : Str), 2)]) (own_ := [(("one" : Str), 2)]) rfl sc__law_text.nd (cg_name 2) (ki_tup (k_var 1)) (by rfl) (fun _ _ _ _ _ => (pg_name (i := 2) sc__law_text.nd rfl (by first | exact Or.inl rfl | exact Or.inr rfl))) (fun _ _ _ _ _ => kp_nil) (fun _ _ _ _ _ => (k_callN (ih ._law_line) hr hgd h.cl__law_line.mgf h.cl__law_line.kp h.cl__law_line.bd (ka_cons (k_var 2) ka_nil))))) k_str))))))
theorem ok__law_measure (h : Hy K w mg ad fv) (ih : ∀ g, FnG P w K mg base n (ad g) (fv g) (ps g) (run n g)) : FnG P w K mg base (n + 1) (ad ._law_measure) (fv ._law_measure) [("statements" : Str)] (mFun 10 (B__law_measure (run n))) := by
  refine fnG_of (N := [("statements" : Str), ("long" : Str), ("many" : Str), ("one" : Str), ("more" : Str), ("ways" : Str), ("yes" : Str), ("no" : Str), ("body" : Str), ("turn" : Str)]) (b := B__law_measure (run n)) h.cl__law_measure.fn sc__law_measure fun cd A outer s H hr hgd => ?_
  unfold B__law_measure
  exact (ks_cons (ks_asg (k_tup (ka_cons k_int (ka_cons k_int ka_nil))) (kg_tup rfl (kgs_cons (kg_name 1 sc__law_measure.nd) (kgs_cons (kg_name 2 sc__law_measure.nd) kgs_nil))))
  (ks_cons (ks_for PassesOwn.never rfl (ki_tup (k_var 0)) (kg_name 3 sc__law_measure.nd) (ks_cons (ks_asg (k_tup (ka_cons k_int (ka_cons k_int ka_nil))) (kg_tup rfl (kgs_cons (kg_name 4 sc__law_measure.nd) (kgs_cons (kg_name 5 sc__law_measure.nd) kgs_nil))))
  (ks_cons (ks_if (kt_eq hr.units (k_item (k_var 3) k_int) k_str) (ks_cons (ks_par2 6 7 rfl sc__law_measure.nd (ka_cons (k_callN (ih ._law_measure) hr hgd h.cl__law_measure.mgf h.cl__law_measure.kp h.cl__law_measure.bd (ka_cons (k_item (k_var 3) k_int) ka_nil)) (ka_cons (k_callN (ih ._law_measure) hr hgd h.cl__law_measure.mgf h.cl__law_measure.kp h.cl__law_measure.bd (ka_cons (k_item (k_var 3) k_int) ka_nil)) ka_nil)))
  (ks_one (ks_par2 4 5 rfl sc__law_measure.nd (ka_cons (k_add k_int (k_max rfl h.z_max (ka_cons (k_item (k_var 6) k_int) (ka_cons (k_item (k_var 7) k_int) ka_nil)))) (ka_cons (k_add (k_item (k_var 6) k_int) (k_item (k_var 7) k_int)) ka_nil))))) ks_nil)
  (ks_cons (ks_if (kt_eq hr.units (k_item (k_var 3) k_int) k_str) (ks_cons (ks_set 8 sc__law_measure.nd (k_callN (ih ._law_measure) hr hgd h.cl__law_measure.mgf h.cl__law_measure.kp h.cl__law_measure.bd (ka_cons (k_item (k_var 3) k_int) ka_nil)))
  (ks_cons (ks_par2 4 5 rfl sc__law_measure.nd (ka_cons (k_mul (k_item (k_var 3) k_int) (k_item (k_var 8) k_int)) (ka_cons k_int ka_nil)))
  (ks_one (ks_for PassesOwn.never rfl (ki_range1 h.z_range (ka_cons (k_item (k_var 3) k_int) ka_nil)) (kg_name 9 sc__law_measure.nd) (ks_one (ks_set 5 sc__law_measure.nd (k_min rfl h.z_min (ka_cons k_int (ka_cons (k_mul (k_var 5) (k_item (k_var 8) k_int)) ka_nil))))))))) ks_nil)
  (ks_one (ks_par2 1 2 rfl sc__law_measure.nd (ka_cons (k_min rfl h.z_min (ka_cons k_int (ka_cons (k_add (k_var 1) (k_var 4)) ka_nil))) (ka_cons (k_min rfl h.z_min (ka_cons k_int (ka_cons (k_mul (k_var 2) (k_var 5)) ka_nil))) ka_nil))))))))
  (ks_one (ks_ret (k_tup (ka_cons (k_var 1) (ka_cons (k_var 2) ka_nil)))))))
theorem ok__law_may_pass (h : Hy K w mg ad fv) (ih : ∀ g, FnG P w K mg base n (ad g) (fv g) (ps g) (run n g)) : FnG P w K mg base (n + 1) (ad ._law_may_pass) (fv ._law_may_pass) [("program" : Str)] (mFun 5 (B__law_may_pass (run n))) := by
  refine fnG_of (N := [("program" : Str), ("many" : Str), ("hand" : Str), ("long" : Str), ("ways" : Str)]) (b := B__law_may_pass (run n)) h.cl__law_may_pass.fn sc__law_may_pass fun cd A outer s H hr hgd => ?_
  unfold B__law_may_pass
  exact (ks_cons (ks_set 1 sc__law_may_pass.nd k_int)
  (ks_cons (ks_for PassesOwn.never rfl (ki_tup (k_var 0)) (kg_name 2 sc__law_may_pass.nd) (ks_cons (ks_asg (k_callN (ih ._law_measure) hr hgd h.cl__law_measure.mgf h.cl__law_measure.kp h.cl__law_measure.bd (ka_cons (k_var 2) ka_nil)) (kg_tup rfl (kgs_cons (kg_name 3 sc__law_may_pass.nd) (kgs_cons (kg_name 4 sc__law_may_pass.nd) kgs_nil))))
  (ks_cons (ks_set 1 sc__law_may_pass.nd (k_min rfl h.z_min (ka_cons k_int (ka_cons (k_mul (k_var 1) (k_var 4)) ka_nil))))
  (ks_one (ks_if (kt_gt (k_var 3) k_int) (ks_one (ks_ret k_bl)) ks_nil)))))
  (ks_one (ks_ret (k_le (k_var 1) k_int)))))
theorem ok__law_right (h : Hy K w mg ad fv) (ih : ∀ g, FnG P w K mg base n (ad g) (fv g) (ps g) (run n g)) : FnG P w K mg base (n + 1) (ad ._law_right) (fv ._law_right) [("program" : Str), ("text" : Str), ("named" : Str)] (mFun 6 (B__law_right (run n))) := by
  refine fnG_of (N := [("program" : Str), ("text" : Str), ("named" : Str), ("kept" : Str), ("read" : Str), ("shown" : Str)]) (b := B__law_right (run n)) h.cl__law_right.fn sc__law_right fun cd A outer s H hr hgd => ?_
  unfold B__law_right
  exact (ks_cons (ks_set 3 sc__law_right.nd (k_repr hgd (hu66 hr) h.z_repr (ka_cons (k_var 0) ka_nil)))
  (ks_cons (ks_set 4 sc__law_right.nd (k_ifE (kt_val (k_var 2)) (k_callKw (ih .read_program) hr hgd h.cl_read_program.mgf h.cl_read_program.kp h.kw_read_program (k_var 1)) (k_callN (ih .read_program) hr hgd h.cl_read_program.mgf h.cl_read_program.kp h.cl_read_program.bd (ka_cons (k_var 1) ka_nil))))
  (ks_cons (ks_if (kt_ne hr.units (k_repr hgd (hu66 hr) h.z_repr (ka_cons (k_var 4) ka_nil)) (k_var 3)) (ks_one (ks_ret k_bl)) ks_nil)
  (ks_cons (ks_if (kt_not (kt_val (k_callN (ih ._law_may_pass) hr hgd h.cl__law_may_pass.mgf h.cl__law_may_pass.kp h.cl__law_may_pass.bd (ka_cons (k_var 0) ka_nil)))) (ks_one (ks_ret k_bl)) ks_nil)
  (ks_cons (ks_set 5 sc__law_right.nd (k_ifE (kt_val (k_var 2)) (k_callKw (ih .show_program) hr hgd h.cl_show_program.mgf h.cl_show_program.kp h.kw_show_program (k_var 0)) (k_callN (ih .show_program) hr hgd h.cl_show_program.mgf h.cl_show_program.kp h.cl_show_program.bd (ka_cons (k_var 0) ka_nil))))
  (ks_cons (ks_if ((kw_or (kt_not (kt_val (k_isi "str" h.z_isinstance h.z_str rfl (k_var 5)))) (kw_or (kt_ne hr.units (k_var 5) (k_var 1)) (kw_or1 (kt_ne hr.units (k_repr hgd (hu66 hr) h.z_repr (ka_cons (k_var 0) ka_nil)) (k_var 3))))).pt) (ks_one (ks_ret k_bl)) ks_nil)
  (ks_one (ks_ret (k_and (k_eq hr.units (k_repr hgd (hu66 hr) h.z_repr (ka_cons (k_callN (ih .read_program) hr hgd h.cl_read_program.mgf h.cl_read_program.kp h.cl_read_program.bd (ka_cons (k_var 5) ka_nil)) ka_nil)) (k_var 3)) (k_and1 (k_eq hr.units (k_callN (ih .show_program) hr hgd h.cl_show_program.mgf h.cl_show_program.kp h.cl_show_program.bd (ka_cons (k_var 4) ka_nil)) (k_var 1))))))))))))
theorem ok_law (h : Hy K w mg ad fv) (ih : ∀ g, FnG P w K mg base n (ad g) (fv g) (ps g) (run n g)) : FnG P w K mg base (n + 1) (ad .law) (fv .law) [("script" : Str)] (mFun 7 (B_law (run n))) := by
  refine fnG_of (N := [("script" : Str), ("kept" : Str), ("k" : Str), ("well" : Str), ("program" : Str), ("text" : Str), ("named" : Str)]) (b := B_law (run n)) h.cl_law.fn sc_law fun cd A outer s H hr hgd => ?_
  unfold B_law
  exact (ks_cons (ks_set 1 sc_law.nd (k_new (ka_cons (k_tup (ka_cons (k_tup (ka_cons (k_tup ka_nil) ka_nil)) (ka_cons k_str (ka_cons k_bl ka_nil)))) (ka_cons (k_tup (ka_cons (k_tup (ka_cons (k_tup ka_nil) (ka_cons (k_tup ka_nil) (ka_cons (k_tup (ka_cons (k_tup (ka_cons k_str ka_nil)) ka_nil)) (ka_cons (k_tup ka_nil) ka_nil))))) (ka_cons k_str (ka_cons k_bl ka_nil)))) ka_nil))))
  (ks_cons (ks_for PassesOwn.never rfl (ki_range1 h.z_range (ka_cons (k_max rfl h.z_max (ka_cons k_int (ka_cons (k_min rfl h.z_min (ka_cons k_int (ka_cons (k_len h.z_len (ka_cons (k_var 0) ka_nil)) ka_nil))) ka_nil))) ka_nil)) (kg_name 2 sc_law.nd) (ks_cons (ks_set 3 sc_law.nd (k_callN (ih ._law_well) hr hgd h.cl__law_well.mgf h.cl__law_well.kp h.cl__law_well.bd (ka_cons (k_var 0) (ka_cons (k_var 2) ka_nil))))
  (ks_cons (ks_set 4 sc_law.nd (k_callN (ih ._law_program) hr hgd h.cl__law_program.mgf h.cl__law_program.kp h.cl__law_program.bd (ka_cons (k_var 3) ka_nil)))
  (ks_one (ks_expr (k_append (k_var 1) (k_tup (ka_cons (k_var 4) (ka_cons (k_callN (ih ._law_text) hr hgd h.cl__law_text.mgf h.cl__law_text.kp h.cl__law_text.bd (ka_cons (k_var 4) ka_nil)) (ka_cons (k_eq hr.units (k_callN (ih ._law_dip) hr hgd h.cl__law_dip.mgf h.cl__law_dip.kp h.cl__law_dip.bd (ka_cons (k_var 3) (ka_cons k_int ka_nil))) k_int) ka_nil))))))))))
  (ks_cons (ks_for PassesOwn.never rfl (ki_lst (k_add (k_var 1) (k_rev (k_var 1)))) (kg_tup rfl (kgs_cons (kg_name 4 sc_law.nd) (kgs_cons (kg_name 5 sc_law.nd) (kgs_cons (kg_name 6 sc_law.nd) kgs_nil)))) (ks_one (ks_if (kt_not (kt_val (k_callN (ih ._law_right) hr hgd h.cl__law_right.mgf h.cl__law_right.kp h.cl__law_right.bd (ka_cons (k_var 4) (ka_cons (k_var 5) (ka_cons (k_var 6) ka_nil)))))) (ks_one (ks_ret k_bl)) ks_nil)))
  (ks_one (ks_ret k_bl)))))
theorem ok_all (h : Hy K w mg ad fv) : ∀ (n : Nat) (g : Fn), FnG P w K mg base n (ad g) (fv g) (ps g) (run n g)
  | 0, _ => fun _ _ _ _ _ _ _ _ _ _ _ _ _ _ _ _ _ _ _ z => z.elim
  | n + 1, g => by
    have ih := ok_all h n
    cases g with
    | block_text => exact ok_block_text h ih
    | statement_text => exact ok_statement_text h ih
    | hand_text => exact ok_hand_text h ih
    | show_program => exact ok_show_program h ih
    | is_integer => exact ok_is_integer h ih
    | is_within => exact ok_is_within h ih
    | is_word => exact ok_is_word h ih
    | item_in => exact ok_item_in h ih
    | plain_statement => exact ok_plain_statement h ih
    | opened => exact ok_opened h ih
    | closed => exact ok_closed h ih
    | behind_statement => exact ok_behind_statement h ih
    | hand_in => exact ok_hand_in h ih
    | program_in => exact ok_program_in h ih
    | is_variable => exact ok_is_variable h ih
    | is_part_of => exact ok_is_part_of h ih
    | is_plain_statement => exact ok_is_plain_statement h ih
    | bodies_of => exact ok_bodies_of h ih
    | count_of => exact ok_count_of h ih
    | count_in => exact ok_count_in h ih
    | is_a_hand => exact ok_is_a_hand h ih
    | is_a_program => exact ok_is_a_program h ih
    | read_program => exact ok_read_program h ih
    | _law_well => exact ok__law_well h ih
    | _law_dip => exact ok__law_dip h ih
    | _law_of => exact ok__law_of h ih
    | _law_word => exact ok__law_word h ih
    | _law_plain => exact ok__law_plain h ih
    | _law_any => exact ok__law_any h ih
    | _law_some => exact ok__law_some h ih
    | _law_deep => exact ok__law_deep h ih
    | _law_hand => exact ok__law_hand h ih
    | _law_program => exact ok__law_program h ih
    | _law_inside => exact ok__law_inside h ih
    | _law_line => exact ok__law_line h ih
    | _law_text => exact ok__law_text h ih
    | _law_measure => exact ok__law_measure h ih
    | _law_may_pass => exact ok__law_may_pass h ih
    | _law_right => exact ok__law_right h ih
    | law => exact ok_law h ih
end
def fx0 : List Fx := [.he (.glo ("block_text" : Str)), .he (.glo ("statement_text" : Str)), .he (.glo ("hand_text" : Str)), .he (.glo ("show_program" : Str)), .he (.glo ("is_integer" : Str)), .he (.glo ("is_within" : Str)), .he (.glo ("is_word" : Str)), .he (.glo ("item_in" : Str)), .he (.glo ("plain_statement" : Str)), .he (.glo ("opened" : Str)), .he (.glo ("closed" : Str)), .he (.glo ("behind_statement" : Str)), .he (.glo ("hand_in" : Str)), .he (.glo ("program_in" : Str)), .he (.glo ("is_variable" : Str)), .he (.glo ("is_part_of" : Str)), .he (.glo ("is_plain_statement" : Str)), .he (.glo ("bodies_of" : Str)), .he (.glo ("count_of" : Str)), .he (.glo ("count_in" : Str)), .he (.glo ("is_a_hand" : Str)), .he (.glo ("is_a_program" : Str)), .he (.glo ("read_program" : Str)), .he (.glo ("_law_well" : Str)), .he (.glo ("_law_dip" : Str)), .he (.glo ("_law_of" : Str)), .he (.glo ("_law_word" : Str)), .he (.glo ("_law_plain" : Str)), .he (.glo ("_law_any" : Str)), .he (.glo ("_law_some" : Str))]
def fx1 : List Fx := [.he (.glo ("_law_deep" : Str)), .he (.glo ("_law_hand" : Str)), .he (.glo ("_law_program" : Str)), .he (.glo ("_law_inside" : Str)), .he (.glo ("_law_line" : Str)), .he (.glo ("_law_text" : Str)), .he (.glo ("_law_measure" : Str)), .he (.glo ("_law_may_pass" : Str)), .he (.glo ("_law_right" : Str)), .he (.glo ("law" : Str)), .he (.free ("range" : Str)), .he (.free ("max" : Str)), .he (.free ("min" : Str)), .he (.free ("len" : Str)), .he (.free ("int" : Str)), .he (.free ("enumerate" : Str)), .he (.free ("abs" : Str)), .he (.free ("tuple" : Str)), .he (.free ("repr" : Str)), .he (.free ("isinstance" : Str)), .he (.free ("str" : Str)), .he (.free ("all" : Str)), .he (.free ("any" : Str)), .he (.free ("zip" : Str)), .he (.free ("bool" : Str)), .gv ("MOST_HANDS" : Str) c_MOST_HANDS, .gv ("MOST_STATEMENTS" : Str) c_MOST_STATEMENTS, .gv ("MOST_BRACES" : Str) c_MOST_BRACES, .gv ("MOST_FIGURES" : Str) c_MOST_FIGURES, .gv ("FIGURES" : Str) c_FIGURES]
def fx2 : List Fx := [.gv ("MOST_LEVELS" : Str) c_MOST_LEVELS, .map ("PARTS" : Str) c_PARTS, .gv ("MOST_TIMES" : Str) c_MOST_TIMES, .map ("MODES" : Str) c_MODES, .gv ("VARIABLES" : Str) c_VARIABLES, .gv ("WORDS" : Str) c_WORDS]
def fxs : List Fx := fx0 ++ fx1 ++ fx2
def d_block_text : He.DefD := ⟨(("block_text" : Str), none), ("block_text" : Str), ("block_text" : Str), defArgs s_block_text, defBody s_block_text, defScope s_block_text, [], []⟩
def d_statement_text : He.DefD := ⟨(("statement_text" : Str), none), ("statement_text" : Str), ("statement_text" : Str), defArgs s_statement_text, defBody s_statement_text, defScope s_statement_text, [], []⟩
def d_hand_text : He.DefD := ⟨(("hand_text" : Str), none), ("hand_text" : Str), ("hand_text" : Str), defArgs s_hand_text, defBody s_hand_text, defScope s_hand_text, [], []⟩
def d_show_program : He.DefD := ⟨(("show_program" : Str), none), ("show_program" : Str), ("show_program" : Str), defArgs s_show_program, defBody s_show_program, defScope s_show_program, [], []⟩
def d_is_integer : He.DefD := ⟨(("is_integer" : Str), none), ("is_integer" : Str), ("is_integer" : Str), defArgs s_is_integer, defBody s_is_integer, defScope s_is_integer, [], []⟩
def d_is_within : He.DefD := ⟨(("is_within" : Str), none), ("is_within" : Str), ("is_within" : Str), defArgs s_is_within, defBody s_is_within, defScope s_is_within, [], []⟩
def d_is_word : He.DefD := ⟨(("is_word" : Str), none), ("is_word" : Str), ("is_word" : Str), defArgs s_is_word, defBody s_is_word, defScope s_is_word, [], []⟩
def d_item_in : He.DefD := ⟨(("item_in" : Str), none), ("item_in" : Str), ("item_in" : Str), defArgs s_item_in, defBody s_item_in, defScope s_item_in, [], []⟩
def d_plain_statement : He.DefD := ⟨(("plain_statement" : Str), none), ("plain_statement" : Str), ("plain_statement" : Str), defArgs s_plain_statement, defBody s_plain_statement, defScope s_plain_statement, [], []⟩
def d_opened : He.DefD := ⟨(("opened" : Str), none), ("opened" : Str), ("opened" : Str), defArgs s_opened, defBody s_opened, defScope s_opened, [], []⟩
def d_closed : He.DefD := ⟨(("closed" : Str), none), ("closed" : Str), ("closed" : Str), defArgs s_closed, defBody s_closed, defScope s_closed, [], []⟩
def d_behind_statement : He.DefD := ⟨(("behind_statement" : Str), none), ("behind_statement" : Str), ("behind_statement" : Str), defArgs s_behind_statement, defBody s_behind_statement, defScope s_behind_statement, [], []⟩
def d_hand_in : He.DefD := ⟨(("hand_in" : Str), none), ("hand_in" : Str), ("hand_in" : Str), defArgs s_hand_in, defBody s_hand_in, defScope s_hand_in, [], []⟩
def d_program_in : He.DefD := ⟨(("program_in" : Str), none), ("program_in" : Str), ("program_in" : Str), defArgs s_program_in, defBody s_program_in, defScope s_program_in, [], []⟩
def d_is_variable : He.DefD := ⟨(("is_variable" : Str), none), ("is_variable" : Str), ("is_variable" : Str), defArgs s_is_variable, defBody s_is_variable, defScope s_is_variable, [], []⟩
def d_is_part_of : He.DefD := ⟨(("is_part_of" : Str), none), ("is_part_of" : Str), ("is_part_of" : Str), defArgs s_is_part_of, defBody s_is_part_of, defScope s_is_part_of, [], []⟩
def d_is_plain_statement : He.DefD := ⟨(("is_plain_statement" : Str), none), ("is_plain_statement" : Str), ("is_plain_statement" : Str), defArgs s_is_plain_statement, defBody s_is_plain_statement, defScope s_is_plain_statement, [], []⟩
def d_bodies_of : He.DefD := ⟨(("bodies_of" : Str), none), ("bodies_of" : Str), ("bodies_of" : Str), defArgs s_bodies_of, defBody s_bodies_of, defScope s_bodies_of, [], []⟩
def d_count_of : He.DefD := ⟨(("count_of" : Str), none), ("count_of" : Str), ("count_of" : Str), defArgs s_count_of, defBody s_count_of, defScope s_count_of, [], []⟩
def d_count_in : He.DefD := ⟨(("count_in" : Str), none), ("count_in" : Str), ("count_in" : Str), defArgs s_count_in, defBody s_count_in, defScope s_count_in, [], []⟩
def d_is_a_hand : He.DefD := ⟨(("is_a_hand" : Str), none), ("is_a_hand" : Str), ("is_a_hand" : Str), defArgs s_is_a_hand, defBody s_is_a_hand, defScope s_is_a_hand, [], []⟩
def d_is_a_program : He.DefD := ⟨(("is_a_program" : Str), none), ("is_a_program" : Str), ("is_a_program" : Str), defArgs s_is_a_program, defBody s_is_a_program, defScope s_is_a_program, [], []⟩
def d_read_program : He.DefD := ⟨(("read_program" : Str), none), ("read_program" : Str), ("read_program" : Str), defArgs s_read_program, defBody s_read_program, defScope s_read_program, [], []⟩
def d__law_well : He.DefD := ⟨(("_law_well" : Str), none), ("_law_well" : Str), ("_law_well" : Str), defArgs s__law_well, defBody s__law_well, defScope s__law_well, [], []⟩
def d__law_dip : He.DefD := ⟨(("_law_dip" : Str), none), ("_law_dip" : Str), ("_law_dip" : Str), defArgs s__law_dip, defBody s__law_dip, defScope s__law_dip, [], []⟩
def d__law_of : He.DefD := ⟨(("_law_of" : Str), none), ("_law_of" : Str), ("_law_of" : Str), defArgs s__law_of, defBody s__law_of, defScope s__law_of, [], []⟩
def d__law_word : He.DefD := ⟨(("_law_word" : Str), none), ("_law_word" : Str), ("_law_word" : Str), defArgs s__law_word, defBody s__law_word, defScope s__law_word, [], []⟩
def d__law_plain : He.DefD := ⟨(("_law_plain" : Str), none), ("_law_plain" : Str), ("_law_plain" : Str), defArgs s__law_plain, defBody s__law_plain, defScope s__law_plain, [], []⟩
def d__law_any : He.DefD := ⟨(("_law_any" : Str), none), ("_law_any" : Str), ("_law_any" : Str), defArgs s__law_any, defBody s__law_any, defScope s__law_any, [], []⟩
def d__law_some : He.DefD := ⟨(("_law_some" : Str), none), ("_law_some" : Str), ("_law_some" : Str), defArgs s__law_some, defBody s__law_some, defScope s__law_some, [], []⟩
def d__law_deep : He.DefD := ⟨(("_law_deep" : Str), none), ("_law_deep" : Str), ("_law_deep" : Str), defArgs s__law_deep, defBody s__law_deep, defScope s__law_deep, [], []⟩
def d__law_hand : He.DefD := ⟨(("_law_hand" : Str), none), ("_law_hand" : Str), ("_law_hand" : Str), defArgs s__law_hand, defBody s__law_hand, defScope s__law_hand, [], []⟩
def d__law_program : He.DefD := ⟨(("_law_program" : Str), none), ("_law_program" : Str), ("_law_program" : Str), defArgs s__law_program, defBody s__law_program, defScope s__law_program, [], []⟩
def d__law_inside : He.DefD := ⟨(("_law_inside" : Str), none), ("_law_inside" : Str), ("_law_inside" : Str), defArgs s__law_inside, defBody s__law_inside, defScope s__law_inside, [], []⟩
def d__law_line : He.DefD := ⟨(("_law_line" : Str), none), ("_law_line" : Str), ("_law_line" : Str), defArgs s__law_line, defBody s__law_line, defScope s__law_line, [], []⟩
def d__law_text : He.DefD := ⟨(("_law_text" : Str), none), ("_law_text" : Str), ("_law_text" : Str), defArgs s__law_text, defBody s__law_text, defScope s__law_text, [], []⟩
def d__law_measure : He.DefD := ⟨(("_law_measure" : Str), none), ("_law_measure" : Str), ("_law_measure" : Str), defArgs s__law_measure, defBody s__law_measure, defScope s__law_measure, [], []⟩
def d__law_may_pass : He.DefD := ⟨(("_law_may_pass" : Str), none), ("_law_may_pass" : Str), ("_law_may_pass" : Str), defArgs s__law_may_pass, defBody s__law_may_pass, defScope s__law_may_pass, [], []⟩
def d__law_right : He.DefD := ⟨(("_law_right" : Str), none), ("_law_right" : Str), ("_law_right" : Str), defArgs s__law_right, defBody s__law_right, defScope s__law_right, [], []⟩
def d_law : He.DefD := ⟨(("law" : Str), none), ("law" : Str), ("law" : Str), defArgs s_law, defBody s_law, defScope s_law, [], []⟩
def fn0 : List He.DefD := [d_block_text, d_statement_text, d_hand_text, d_show_program, d_is_integer, d_is_within, d_is_word, d_item_in, d_plain_statement, d_opened, d_closed, d_behind_statement, d_hand_in, d_program_in, d_is_variable, d_is_part_of, d_is_plain_statement, d_bodies_of, d_count_of, d_count_in, d_is_a_hand, d_is_a_program, d_read_program, d__law_well, d__law_dip, d__law_of, d__law_word, d__law_plain, d__law_any, d__law_some]
def fn1 : List He.DefD := [d__law_deep, d__law_hand, d__law_program, d__law_inside, d__law_line, d__law_text, d__law_measure, d__law_may_pass, d__law_right, d_law]
def fns : List He.DefD := fn0 ++ fn1
def tbs : List (Str × List Str) := [(("PARTS" : Str), [("set" : Str), ("add" : Str), ("sub" : Str), ("and" : Str), ("xor" : Str), ("below" : Str), ("get" : Str), ("put" : Str), ("swap" : Str), ("addto" : Str), ("await" : Str), ("whole" : Str)]), (("MODES" : Str), [("get" : Str), ("put" : Str), ("swap" : Str), ("addto" : Str), ("await" : Str)])]
def nms0 : List Str := [("block_text" : Str), ("statement_text" : Str), ("hand_text" : Str), ("show_program" : Str), ("MachineError" : Str), ("Unreadable" : Str), ("WORDS" : Str), ("is_integer" : Str), ("anew" : Str), ("is_within" : Str), ("is_word" : Str), ("FIGURES" : Str), ("MOST_FIGURES" : Str), ("MOST_BRACES" : Str), ("item_in" : Str), ("plain_statement" : Str), ("opened" : Str), ("closed" : Str), ("behind_statement" : Str), ("hand_in" : Str), ("program_in" : Str), ("VARIABLES" : Str), ("MOST_HANDS" : Str), ("MOST_STATEMENTS" : Str), ("MOST_LEVELS" : Str), ("MOST_TIMES" : Str), ("PARTS" : Str), ("MODES" : Str), ("is_variable" : Str), ("is_part_of" : Str)]
def nms1 : List Str := [("is_plain_statement" : Str), ("bodies_of" : Str), ("count_of" : Str), ("count_in" : Str), ("is_a_hand" : Str), ("is_a_program" : Str), ("read_program" : Str), ("_law_well" : Str), ("_law_dip" : Str), ("_law_of" : Str), ("_law_word" : Str), ("_law_plain" : Str), ("_law_any" : Str), ("_law_some" : Str), ("_law_deep" : Str), ("_law_hand" : Str), ("_law_program" : Str), ("_law_inside" : Str), ("_law_line" : Str), ("_law_text" : Str), ("_law_measure" : Str), ("_law_may_pass" : Str), ("_law_right" : Str)]
def nms : List Str := nms0 ++ nms1
def doff : Fn → He.DefD
  | .block_text => d_block_text
  | .statement_text => d_statement_text
  | .hand_text => d_hand_text
  | .show_program => d_show_program
  | .is_integer => d_is_integer
  | .is_within => d_is_within
  | .is_word => d_is_word
  | .item_in => d_item_in
  | .plain_statement => d_plain_statement
  | .opened => d_opened
  | .closed => d_closed
  | .behind_statement => d_behind_statement
  | .hand_in => d_hand_in
  | .program_in => d_program_in
  | .is_variable => d_is_variable
  | .is_part_of => d_is_part_of
  | .is_plain_statement => d_is_plain_statement
  | .bodies_of => d_bodies_of
  | .count_of => d_count_of
  | .count_in => d_count_in
  | .is_a_hand => d_is_a_hand
  | .is_a_program => d_is_a_program
  | .read_program => d_read_program
  | ._law_well => d__law_well
  | ._law_dip => d__law_dip
  | ._law_of => d__law_of
  | ._law_word => d__law_word
  | ._law_plain => d__law_plain
  | ._law_any => d__law_any
  | ._law_some => d__law_some
  | ._law_deep => d__law_deep
  | ._law_hand => d__law_hand
  | ._law_program => d__law_program
  | ._law_inside => d__law_inside
  | ._law_line => d__law_line
  | ._law_text => d__law_text
  | ._law_measure => d__law_measure
  | ._law_may_pass => d__law_may_pass
  | ._law_right => d__law_right
  | .law => d_law
abbrev R : PySem.W.OpenRow := PySem.W.OpenLaw.row PySem.Challenge.rw_touchroad_k71_programs_written_and_read
abbrev hk : PySem.W.Hook := hookX 4 fxs fns tbs
def ob (s : PySem.W.SharedT) : AlX := obsXG 4 fxs fns tbs (HandSHeadRun.getT s)
theorem ob_eq (s : PySem.W.SharedT) : ob s = hk.obs s.abs := obsXG_eq (HandSHeadRun.getT_eq s)
end KT.k71

/-! k71: the head. Printed by gen.py. -/
namespace KT.k71
open PySem PySem.Spec L2 KT
open PyProof.Rows hiding St
theorem facts {w : World} {K : PySem.W.Frag} {hp : Heap} {mg : Str → Option Value} (KX : K.In hp) (G : hp.Ns mainGlobals mg) (c : SaysX fxs fns tbs w K) : ∃ (ad : Fn → Addr) (fv : Fn → FuncData), Hy K w mg ad fv ∧ mg "law" = some (.ref (ad .law)) ∧ ∀ (s : Shared) (u : Value), BindsTo s (fv .law) ⟨[u], []⟩ [("script", u)] := by
  obtain ⟨v0, F0⟩ := c.defI 0 (d := d_block_text)
  have F0 : FunD K ("block_text" : Str) ("block_text" : Str) (defArgs s_block_text) (defBody s_block_text) (defScope s_block_text) [] [] (He.ga K ("block_text" : Str)) v0 := F0
  obtain ⟨v1, F1⟩ := c.defI 1 (d := d_statement_text)
  have F1 : FunD K ("statement_text" : Str) ("statement_text" : Str) (defArgs s_statement_text) (defBody s_statement_text) (defScope s_statement_text) [] [] (He.ga K ("statement_text" : Str)) v1 := F1
  obtain ⟨v2, F2⟩ := c.defI 2 (d := d_hand_text)
  have F2 : FunD K ("hand_text" : Str) ("hand_text" : Str) (defArgs s_hand_text) (defBody s_hand_text) (defScope s_hand_text) [] [] (He.ga K ("hand_text" : Str)) v2 := F2
  obtain ⟨v3, F3⟩ := c.defI 3 (d := d_show_program)
  have F3 : FunD K ("show_program" : Str) ("show_program" : Str) (defArgs s_show_program) (defBody s_show_program) (defScope s_show_program) [] [] (He.ga K ("show_program" : Str)) v3 := F3
  obtain ⟨v4, F4⟩ := c.defI 4 (d := d_is_integer)
  have F4 : FunD K ("is_integer" : Str) ("is_integer" : Str) (defArgs s_is_integer) (defBody s_is_integer) (defScope s_is_integer) [] [] (He.ga K ("is_integer" : Str)) v4 := F4
  obtain ⟨v5, F5⟩ := c.defI 5 (d := d_is_within)
  have F5 : FunD K ("is_within" : Str) ("is_within" : Str) (defArgs s_is_within) (defBody s_is_within) (defScope s_is_within) [] [] (He.ga K ("is_within" : Str)) v5 := F5
  obtain ⟨v6, F6⟩ := c.defI 6 (d := d_is_word)
  have F6 : FunD K ("is_word" : Str) ("is_word" : Str) (defArgs s_is_word) (defBody s_is_word) (defScope s_is_word) [] [] (He.ga K ("is_word" : Str)) v6 := F6
  obtain ⟨v7, F7⟩ := c.defI 7 (d := d_item_in)
  have F7 : FunD K ("item_in" : Str) ("item_in" : Str) (defArgs s_item_in) (defBody s_item_in) (defScope s_item_in) [] [] (He.ga K ("item_in" : Str)) v7 := F7
  obtain ⟨v8, F8⟩ := c.defI 8 (d := d_plain_statement)
  have F8 : FunD K ("plain_statement" : Str) ("plain_statement" : Str) (defArgs s_plain_statement) (defBody s_plain_statement) (defScope s_plain_statement) [] [] (He.ga K ("plain_statement" : Str)) v8 := F8
  obtain ⟨v9, F9⟩ := c.defI 9 (d := d_opened)
  have F9 : FunD K ("opened" : Str) ("opened" : Str) (defArgs s_opened) (defBody s_opened) (defScope s_opened) [] [] (He.ga K ("opened" : Str)) v9 := F9
  obtain ⟨v10, F10⟩ := c.defI 10 (d := d_closed)
  have F10 : FunD K ("closed" : Str) ("closed" : Str) (defArgs s_closed) (defBody s_closed) (defScope s_closed) [] [] (He.ga K ("closed" : Str)) v10 := F10
  obtain ⟨v11, F11⟩ := c.defI 11 (d := d_behind_statement)
  have F11 : FunD K ("behind_statement" : Str) ("behind_statement" : Str) (defArgs s_behind_statement) (defBody s_behind_statement) (defScope s_behind_statement) [] [] (He.ga K ("behind_statement" : Str)) v11 := F11
  obtain ⟨v12, F12⟩ := c.defI 12 (d := d_hand_in)
  have F12 : FunD K ("hand_in" : Str) ("hand_in" : Str) (defArgs s_hand_in) (defBody s_hand_in) (defScope s_hand_in) [] [] (He.ga K ("hand_in" : Str)) v12 := F12
  obtain ⟨v13, F13⟩ := c.defI 13 (d := d_program_in)
  have F13 : FunD K ("program_in" : Str) ("program_in" : Str) (defArgs s_program_in) (defBody s_program_in) (defScope s_program_in) [] [] (He.ga K ("program_in" : Str)) v13 := F13
  obtain ⟨v14, F14⟩ := c.defI 14 (d := d_is_variable)
  have F14 : FunD K ("is_variable" : Str) ("is_variable" : Str) (defArgs s_is_variable) (defBody s_is_variable) (defScope s_is_variable) [] [] (He.ga K ("is_variable" : Str)) v14 := F14
  obtain ⟨v15, F15⟩ := c.defI 15 (d := d_is_part_of)
  have F15 : FunD K ("is_part_of" : Str) ("is_part_of" : Str) (defArgs s_is_part_of) (defBody s_is_part_of) (defScope s_is_part_of) [] [] (He.ga K ("is_part_of" : Str)) v15 := F15
  obtain ⟨v16, F16⟩ := c.defI 16 (d := d_is_plain_statement)
  have F16 : FunD K ("is_plain_statement" : Str) ("is_plain_statement" : Str) (defArgs s_is_plain_statement) (defBody s_is_plain_statement) (defScope s_is_plain_statement) [] [] (He.ga K ("is_plain_statement" : Str)) v16 := F16
  obtain ⟨v17, F17⟩ := c.defI 17 (d := d_bodies_of)
  have F17 : FunD K ("bodies_of" : Str) ("bodies_of" : Str) (defArgs s_bodies_of) (defBody s_bodies_of) (defScope s_bodies_of) [] [] (He.ga K ("bodies_of" : Str)) v17 := F17
  obtain ⟨v18, F18⟩ := c.defI 18 (d := d_count_of)
  have F18 : FunD K ("count_of" : Str) ("count_of" : Str) (defArgs s_count_of) (defBody s_count_of) (defScope s_count_of) [] [] (He.ga K ("count_of" : Str)) v18 := F18
  obtain ⟨v19, F19⟩ := c.defI 19 (d := d_count_in)
  have F19 : FunD K ("count_in" : Str) ("count_in" : Str) (defArgs s_count_in) (defBody s_count_in) (defScope s_count_in) [] [] (He.ga K ("count_in" : Str)) v19 := F19
  obtain ⟨v20, F20⟩ := c.defI 20 (d := d_is_a_hand)
  have F20 : FunD K ("is_a_hand" : Str) ("is_a_hand" : Str) (defArgs s_is_a_hand) (defBody s_is_a_hand) (defScope s_is_a_hand) [] [] (He.ga K ("is_a_hand" : Str)) v20 := F20
  obtain ⟨v21, F21⟩ := c.defI 21 (d := d_is_a_program)
  have F21 : FunD K ("is_a_program" : Str) ("is_a_program" : Str) (defArgs s_is_a_program) (defBody s_is_a_program) (defScope s_is_a_program) [] [] (He.ga K ("is_a_program" : Str)) v21 := F21
  obtain ⟨v22, F22⟩ := c.defI 22 (d := d_read_program)
  have F22 : FunD K ("read_program" : Str) ("read_program" : Str) (defArgs s_read_program) (defBody s_read_program) (defScope s_read_program) [] [] (He.ga K ("read_program" : Str)) v22 := F22
  obtain ⟨v23, F23⟩ := c.defI 23 (d := d__law_well)
  have F23 : FunD K ("_law_well" : Str) ("_law_well" : Str) (defArgs s__law_well) (defBody s__law_well) (defScope s__law_well) [] [] (He.ga K ("_law_well" : Str)) v23 := F23
  obtain ⟨v24, F24⟩ := c.defI 24 (d := d__law_dip)
  have F24 : FunD K ("_law_dip" : Str) ("_law_dip" : Str) (defArgs s__law_dip) (defBody s__law_dip) (defScope s__law_dip) [] [] (He.ga K ("_law_dip" : Str)) v24 := F24
  obtain ⟨v25, F25⟩ := c.defI 25 (d := d__law_of)
  have F25 : FunD K ("_law_of" : Str) ("_law_of" : Str) (defArgs s__law_of) (defBody s__law_of) (defScope s__law_of) [] [] (He.ga K ("_law_of" : Str)) v25 := F25
  obtain ⟨v26, F26⟩ := c.defI 26 (d := d__law_word)
  have F26 : FunD K ("_law_word" : Str) ("_law_word" : Str) (defArgs s__law_word) (defBody s__law_word) (defScope s__law_word) [] [] (He.ga K ("_law_word" : Str)) v26 := F26
  obtain ⟨v27, F27⟩ := c.defI 27 (d := d__law_plain)
  have F27 : FunD K ("_law_plain" : Str) ("_law_plain" : Str) (defArgs s__law_plain) (defBody s__law_plain) (defScope s__law_plain) [] [] (He.ga K ("_law_plain" : Str)) v27 := F27
  obtain ⟨v28, F28⟩ := c.defI 28 (d := d__law_any)
  have F28 : FunD K ("_law_any" : Str) ("_law_any" : Str) (defArgs s__law_any) (defBody s__law_any) (defScope s__law_any) [] [] (He.ga K ("_law_any" : Str)) v28 := F28
  obtain ⟨v29, F29⟩ := c.defI 29 (d := d__law_some)
  have F29 : FunD K ("_law_some" : Str) ("_law_some" : Str) (defArgs s__law_some) (defBody s__law_some) (defScope s__law_some) [] [] (He.ga K ("_law_some" : Str)) v29 := F29
  obtain ⟨v30, F30⟩ := c.defI 30 (d := d__law_deep)
  have F30 : FunD K ("_law_deep" : Str) ("_law_deep" : Str) (defArgs s__law_deep) (defBody s__law_deep) (defScope s__law_deep) [] [] (He.ga K ("_law_deep" : Str)) v30 := F30
  obtain ⟨v31, F31⟩ := c.defI 31 (d := d__law_hand)
  have F31 : FunD K ("_law_hand" : Str) ("_law_hand" : Str) (defArgs s__law_hand) (defBody s__law_hand) (defScope s__law_hand) [] [] (He.ga K ("_law_hand" : Str)) v31 := F31
  obtain ⟨v32, F32⟩ := c.defI 32 (d := d__law_program)
  have F32 : FunD K ("_law_program" : Str) ("_law_program" : Str) (defArgs s__law_program) (defBody s__law_program) (defScope s__law_program) [] [] (He.ga K ("_law_program" : Str)) v32 := F32
  obtain ⟨v33, F33⟩ := c.defI 33 (d := d__law_inside)
  have F33 : FunD K ("_law_inside" : Str) ("_law_inside" : Str) (defArgs s__law_inside) (defBody s__law_inside) (defScope s__law_inside) [] [] (He.ga K ("_law_inside" : Str)) v33 := F33
  obtain ⟨v34, F34⟩ := c.defI 34 (d := d__law_line)
  have F34 : FunD K ("_law_line" : Str) ("_law_line" : Str) (defArgs s__law_line) (defBody s__law_line) (defScope s__law_line) [] [] (He.ga K ("_law_line" : Str)) v34 := F34
  obtain ⟨v35, F35⟩ := c.defI 35 (d := d__law_text)
  have F35 : FunD K ("_law_text" : Str) ("_law_text" : Str) (defArgs s__law_text) (defBody s__law_text) (defScope s__law_text) [] [] (He.ga K ("_law_text" : Str)) v35 := F35
  obtain ⟨v36, F36⟩ := c.defI 36 (d := d__law_measure)
  have F36 : FunD K ("_law_measure" : Str) ("_law_measure" : Str) (defArgs s__law_measure) (defBody s__law_measure) (defScope s__law_measure) [] [] (He.ga K ("_law_measure" : Str)) v36 := F36
  obtain ⟨v37, F37⟩ := c.defI 37 (d := d__law_may_pass)
  have F37 : FunD K ("_law_may_pass" : Str) ("_law_may_pass" : Str) (defArgs s__law_may_pass) (defBody s__law_may_pass) (defScope s__law_may_pass) [] [] (He.ga K ("_law_may_pass" : Str)) v37 := F37
  obtain ⟨v38, F38⟩ := c.defI 38 (d := d__law_right)
  have F38 : FunD K ("_law_right" : Str) ("_law_right" : Str) (defArgs s__law_right) (defBody s__law_right) (defScope s__law_right) [] [] (He.ga K ("_law_right" : Str)) v38 := F38
  obtain ⟨v39, F39⟩ := c.defI 39 (d := d_law)
  have F39 : FunD K ("law" : Str) ("law" : Str) (defArgs s_law) (defBody s_law) (defScope s_law) [] [] (He.ga K ("law" : Str)) v39 := F39
  refine ⟨fun f => match f with
    | .block_text => He.ga K ("block_text" : Str)
    | .statement_text => He.ga K ("statement_text" : Str)
    | .hand_text => He.ga K ("hand_text" : Str)
    | .show_program => He.ga K ("show_program" : Str)
    | .is_integer => He.ga K ("is_integer" : Str)
    | .is_within => He.ga K ("is_within" : Str)
    | .is_word => He.ga K ("is_word" : Str)
    | .item_in => He.ga K ("item_in" : Str)
    | .plain_statement => He.ga K ("plain_statement" : Str)
    | .opened => He.ga K ("opened" : Str)
    | .closed => He.ga K ("closed" : Str)
    | .behind_statement => He.ga K ("behind_statement" : Str)
    | .hand_in => He.ga K ("hand_in" : Str)
    | .program_in => He.ga K ("program_in" : Str)
    | .is_variable => He.ga K ("is_variable" : Str)
    | .is_part_of => He.ga K ("is_part_of" : Str)
    | .is_plain_statement => He.ga K ("is_plain_statement" : Str)
    | .bodies_of => He.ga K ("bodies_of" : Str)
    | .count_of => He.ga K ("count_of" : Str)
    | .count_in => He.ga K ("count_in" : Str)
    | .is_a_hand => He.ga K ("is_a_hand" : Str)
    | .is_a_program => He.ga K ("is_a_program" : Str)
    | .read_program => He.ga K ("read_program" : Str)
    | ._law_well => He.ga K ("_law_well" : Str)
    | ._law_dip => He.ga K ("_law_dip" : Str)
    | ._law_of => He.ga K ("_law_of" : Str)
    | ._law_word => He.ga K ("_law_word" : Str)
    | ._law_plain => He.ga K ("_law_plain" : Str)
    | ._law_any => He.ga K ("_law_any" : Str)
    | ._law_some => He.ga K ("_law_some" : Str)
    | ._law_deep => He.ga K ("_law_deep" : Str)
    | ._law_hand => He.ga K ("_law_hand" : Str)
    | ._law_program => He.ga K ("_law_program" : Str)
    | ._law_inside => He.ga K ("_law_inside" : Str)
    | ._law_line => He.ga K ("_law_line" : Str)
    | ._law_text => He.ga K ("_law_text" : Str)
    | ._law_measure => He.ga K ("_law_measure" : Str)
    | ._law_may_pass => He.ga K ("_law_may_pass" : Str)
    | ._law_right => He.ga K ("_law_right" : Str)
    | .law => He.ga K ("law" : Str), fun f => match f with
    | .block_text => v0
    | .statement_text => v1
    | .hand_text => v2
    | .show_program => v3
    | .is_integer => v4
    | .is_within => v5
    | .is_word => v6
    | .item_in => v7
    | .plain_statement => v8
    | .opened => v9
    | .closed => v10
    | .behind_statement => v11
    | .hand_in => v12
    | .program_in => v13
    | .is_variable => v14
    | .is_part_of => v15
    | .is_plain_statement => v16
    | .bodies_of => v17
    | .count_of => v18
    | .count_in => v19
    | .is_a_hand => v20
    | .is_a_program => v21
    | .read_program => v22
    | ._law_well => v23
    | ._law_dip => v24
    | ._law_of => v25
    | ._law_word => v26
    | ._law_plain => v27
    | ._law_any => v28
    | ._law_some => v29
    | ._law_deep => v30
    | ._law_hand => v31
    | ._law_program => v32
    | ._law_inside => v33
    | ._law_line => v34
    | ._law_text => v35
    | ._law_measure => v36
    | ._law_may_pass => v37
    | ._law_right => v38
    | .law => v39, ?_, ?_, ?_⟩
  · exact {
      cl_block_text := cl_of (st := s_block_text) KX G F0 rfl (c.factI 0 (f := .he (.glo ("block_text" : Str)))) fun _ _ _ _ _ _ us hl => match us, hl with | [_], _ => rfl
      cl_statement_text := cl_of (st := s_statement_text) KX G F1 rfl (c.factI 1 (f := .he (.glo ("statement_text" : Str)))) fun _ _ _ _ _ _ us hl => match us, hl with | [_], _ => rfl
      cl_hand_text := cl_of (st := s_hand_text) KX G F2 rfl (c.factI 2 (f := .he (.glo ("hand_text" : Str)))) fun _ _ _ _ _ _ us hl => match us, hl with | [_], _ => rfl
      cl_show_program := cl_of (st := s_show_program) KX G F3 rfl (c.factI 3 (f := .he (.glo ("show_program" : Str)))) fun _ _ _ _ _ _ us hl => match us, hl with | [_], _ => rfl
      cl_is_integer := cl_of (st := s_is_integer) KX G F4 rfl (c.factI 4 (f := .he (.glo ("is_integer" : Str)))) fun _ _ _ _ _ _ us hl => match us, hl with | [_], _ => rfl
      cl_is_within := cl_of (st := s_is_within) KX G F5 rfl (c.factI 5 (f := .he (.glo ("is_within" : Str)))) fun _ _ _ _ _ _ us hl => match us, hl with | [_, _, _], _ => rfl
      cl_is_word := cl_of (st := s_is_word) KX G F6 rfl (c.factI 6 (f := .he (.glo ("is_word" : Str)))) fun _ _ _ _ _ _ us hl => match us, hl with | [_], _ => rfl
      cl_item_in := cl_of (st := s_item_in) KX G F7 rfl (c.factI 7 (f := .he (.glo ("item_in" : Str)))) fun _ _ _ _ _ _ us hl => match us, hl with | [_], _ => rfl
      cl_plain_statement := cl_of (st := s_plain_statement) KX G F8 rfl (c.factI 8 (f := .he (.glo ("plain_statement" : Str)))) fun _ _ _ _ _ _ us hl => match us, hl with | [_], _ => rfl
      cl_opened := cl_of (st := s_opened) KX G F9 rfl (c.factI 9 (f := .he (.glo ("opened" : Str)))) fun _ _ _ _ _ _ us hl => match us, hl with | [_, _], _ => rfl
      cl_closed := cl_of (st := s_closed) KX G F10 rfl (c.factI 10 (f := .he (.glo ("closed" : Str)))) fun _ _ _ _ _ _ us hl => match us, hl with | [_, _], _ => rfl
      cl_behind_statement := cl_of (st := s_behind_statement) KX G F11 rfl (c.factI 11 (f := .he (.glo ("behind_statement" : Str)))) fun _ _ _ _ _ _ us hl => match us, hl with | [_, _], _ => rfl
      cl_hand_in := cl_of (st := s_hand_in) KX G F12 rfl (c.factI 12 (f := .he (.glo ("hand_in" : Str)))) fun _ _ _ _ _ _ us hl => match us, hl with | [_], _ => rfl
      cl_program_in := cl_of (st := s_program_in) KX G F13 rfl (c.factI 13 (f := .he (.glo ("program_in" : Str)))) fun _ _ _ _ _ _ us hl => match us, hl with | [_], _ => rfl
      cl_is_variable := cl_of (st := s_is_variable) KX G F14 rfl (c.factI 14 (f := .he (.glo ("is_variable" : Str)))) fun _ _ _ _ _ _ us hl => match us, hl with | [_], _ => rfl
      cl_is_part_of := cl_of (st := s_is_part_of) KX G F15 rfl (c.factI 15 (f := .he (.glo ("is_part_of" : Str)))) fun _ _ _ _ _ _ us hl => match us, hl with | [_, _, _], _ => rfl
      cl_is_plain_statement := cl_of (st := s_is_plain_statement) KX G F16 rfl (c.factI 16 (f := .he (.glo ("is_plain_statement" : Str)))) fun _ _ _ _ _ _ us hl => match us, hl with | [_], _ => rfl
      cl_bodies_of := cl_of (st := s_bodies_of) KX G F17 rfl (c.factI 17 (f := .he (.glo ("bodies_of" : Str)))) fun _ _ _ _ _ _ us hl => match us, hl with | [_], _ => rfl
      cl_count_of := cl_of (st := s_count_of) KX G F18 rfl (c.factI 18 (f := .he (.glo ("count_of" : Str)))) fun _ _ _ _ _ _ us hl => match us, hl with | [_, _], _ => rfl
      cl_count_in := cl_of (st := s_count_in) KX G F19 rfl (c.factI 19 (f := .he (.glo ("count_in" : Str)))) fun _ _ _ _ _ _ us hl => match us, hl with | [_, _], _ => rfl
      cl_is_a_hand := cl_of (st := s_is_a_hand) KX G F20 rfl (c.factI 20 (f := .he (.glo ("is_a_hand" : Str)))) fun _ _ _ _ _ _ us hl => match us, hl with | [_], _ => rfl
      cl_is_a_program := cl_of (st := s_is_a_program) KX G F21 rfl (c.factI 21 (f := .he (.glo ("is_a_program" : Str)))) fun _ _ _ _ _ _ us hl => match us, hl with | [_], _ => rfl
      cl_read_program := cl_of (st := s_read_program) KX G F22 rfl (c.factI 22 (f := .he (.glo ("read_program" : Str)))) fun _ _ _ _ _ _ us hl => match us, hl with | [_], _ => rfl
      cl__law_well := cl_of (st := s__law_well) KX G F23 rfl (c.factI 23 (f := .he (.glo ("_law_well" : Str)))) fun _ _ _ _ _ _ us hl => match us, hl with | [_, _], _ => rfl
      cl__law_dip := cl_of (st := s__law_dip) KX G F24 rfl (c.factI 24 (f := .he (.glo ("_law_dip" : Str)))) fun _ _ _ _ _ _ us hl => match us, hl with | [_, _], _ => rfl
      cl__law_of := cl_of (st := s__law_of) KX G F25 rfl (c.factI 25 (f := .he (.glo ("_law_of" : Str)))) fun _ _ _ _ _ _ us hl => match us, hl with | [_, _], _ => rfl
      cl__law_word := cl_of (st := s__law_word) KX G F26 rfl (c.factI 26 (f := .he (.glo ("_law_word" : Str)))) fun _ _ _ _ _ _ us hl => match us, hl with | [_], _ => rfl
      cl__law_plain := cl_of (st := s__law_plain) KX G F27 rfl (c.factI 27 (f := .he (.glo ("_law_plain" : Str)))) fun _ _ _ _ _ _ us hl => match us, hl with | [_], _ => rfl
      cl__law_any := cl_of (st := s__law_any) KX G F28 rfl (c.factI 28 (f := .he (.glo ("_law_any" : Str)))) fun _ _ _ _ _ _ us hl => match us, hl with | [_, _, _], _ => rfl
      cl__law_some := cl_of (st := s__law_some) KX G F29 rfl (c.factI 29 (f := .he (.glo ("_law_some" : Str)))) fun _ _ _ _ _ _ us hl => match us, hl with | [_, _, _], _ => rfl
      cl__law_deep := cl_of (st := s__law_deep) KX G F30 rfl (c.factI 30 (f := .he (.glo ("_law_deep" : Str)))) fun _ _ _ _ _ _ us hl => match us, hl with | [_], _ => rfl
      cl__law_hand := cl_of (st := s__law_hand) KX G F31 rfl (c.factI 31 (f := .he (.glo ("_law_hand" : Str)))) fun _ _ _ _ _ _ us hl => match us, hl with | [_], _ => rfl
      cl__law_program := cl_of (st := s__law_program) KX G F32 rfl (c.factI 32 (f := .he (.glo ("_law_program" : Str)))) fun _ _ _ _ _ _ us hl => match us, hl with | [_], _ => rfl
      cl__law_inside := cl_of (st := s__law_inside) KX G F33 rfl (c.factI 33 (f := .he (.glo ("_law_inside" : Str)))) fun _ _ _ _ _ _ us hl => match us, hl with | [_], _ => rfl
      cl__law_line := cl_of (st := s__law_line) KX G F34 rfl (c.factI 34 (f := .he (.glo ("_law_line" : Str)))) fun _ _ _ _ _ _ us hl => match us, hl with | [_], _ => rfl
      cl__law_text := cl_of (st := s__law_text) KX G F35 rfl (c.factI 35 (f := .he (.glo ("_law_text" : Str)))) fun _ _ _ _ _ _ us hl => match us, hl with | [_], _ => rfl
      cl__law_measure := cl_of (st := s__law_measure) KX G F36 rfl (c.factI 36 (f := .he (.glo ("_law_measure" : Str)))) fun _ _ _ _ _ _ us hl => match us, hl with | [_], _ => rfl
      cl__law_may_pass := cl_of (st := s__law_may_pass) KX G F37 rfl (c.factI 37 (f := .he (.glo ("_law_may_pass" : Str)))) fun _ _ _ _ _ _ us hl => match us, hl with | [_], _ => rfl
      cl__law_right := cl_of (st := s__law_right) KX G F38 rfl (c.factI 38 (f := .he (.glo ("_law_right" : Str)))) fun _ _ _ _ _ _ us hl => match us, hl with | [_, _, _], _ => rfl
      cl_law := cl_of (st := s_law) KX G F39 rfl (c.factI 39 (f := .he (.glo ("law" : Str)))) fun _ _ _ _ _ _ us hl => match us, hl with | [_], _ => rfl
      z_range := He.free_ok KX G (c.factI 40 (f := .he (.free ("range" : Str))))
      z_max := He.free_ok KX G (c.factI 41 (f := .he (.free ("max" : Str))))
      z_min := He.free_ok KX G (c.factI 42 (f := .he (.free ("min" : Str))))
      z_len := He.free_ok KX G (c.factI 43 (f := .he (.free ("len" : Str))))
      z_int := He.free_ok KX G (c.factI 44 (f := .he (.free ("int" : Str))))
      z_enumerate := He.free_ok KX G (c.factI 45 (f := .he (.free ("enumerate" : Str))))
      z_abs := He.free_ok KX G (c.factI 46 (f := .he (.free ("abs" : Str))))
      z_tuple := He.free_ok KX G (c.factI 47 (f := .he (.free ("tuple" : Str))))
      z_repr := He.free_ok KX G (c.factI 48 (f := .he (.free ("repr" : Str))))
      z_isinstance := He.free_ok KX G (c.factI 49 (f := .he (.free ("isinstance" : Str))))
      z_str := He.free_ok KX G (c.factI 50 (f := .he (.free ("str" : Str))))
      z_all := He.free_ok KX G (c.factI 51 (f := .he (.free ("all" : Str))))
      z_any := He.free_ok KX G (c.factI 52 (f := .he (.free ("any" : Str))))
      z_zip := He.free_ok KX G (c.factI 53 (f := .he (.free ("zip" : Str))))
      z_bool := He.free_ok KX G (c.factI 54 (f := .he (.free ("bool" : Str))))
      g_MOST_HANDS := gv_ok KX G (c.factI 55 (f := .gv ("MOST_HANDS" : Str) c_MOST_HANDS))
      g_MOST_STATEMENTS := gv_ok KX G (c.factI 56 (f := .gv ("MOST_STATEMENTS" : Str) c_MOST_STATEMENTS))
      g_MOST_BRACES := gv_ok KX G (c.factI 57 (f := .gv ("MOST_BRACES" : Str) c_MOST_BRACES))
      g_MOST_FIGURES := gv_ok KX G (c.factI 58 (f := .gv ("MOST_FIGURES" : Str) c_MOST_FIGURES))
      g_FIGURES := gv_ok KX G (c.factI 59 (f := .gv ("FIGURES" : Str) c_FIGURES))
      g_MOST_LEVELS := gv_ok KX G (c.factI 60 (f := .gv ("MOST_LEVELS" : Str) c_MOST_LEVELS))
      m_PARTS := map_ok KX G (c.factI 61 (f := .map ("PARTS" : Str) c_PARTS)) (c.tabI 0)
      g_MOST_TIMES := gv_ok KX G (c.factI 62 (f := .gv ("MOST_TIMES" : Str) c_MOST_TIMES))
      m_MODES := map_ok KX G (c.factI 63 (f := .map ("MODES" : Str) c_MODES)) (c.tabI 1)
      g_VARIABLES := gv_ok KX G (c.factI 64 (f := .gv ("VARIABLES" : Str) c_VARIABLES))
      g_WORDS := gv_ok KX G (c.factI 65 (f := .gv ("WORDS" : Str) c_WORDS))
      kw_read_program := bind_of (a := fun u => ⟨[], [(("text" : Str), u)]⟩) (b := fun u => [(("text" : Str), u)]) F22 fun _ _ _ _ _ _ _ => rfl
      kw_show_program := bind_of (a := fun u => ⟨[], [(("program" : Str), u)]⟩) (b := fun u => [(("program" : Str), u)]) F3 fun _ _ _ _ _ _ _ => rfl
    }
  · exact He.glo_ok KX G (c.factI 39 (f := .he (.glo "law")))
  · exact bind_of (a := fun u => ⟨[u], []⟩) (b := fun u => [("script", u)]) F39 fun _ _ _ _ _ _ _ => rfl
end KT.k71

/-! k71_p1: programs as data, their words, what prints them. -/
namespace KT.k71
open PySem PySem.Spec L2 KT TL
open PyProof.Rows hiding St
inductive Sm where
  | pl (w : Str) (ps : List D)
  | iff (v : Nat) (a b : List Sm)
  | ag (t : Nat) (a : List Sm)
mutual
def Sm.d : Sm → D
  | .pl w ps => .tup (.str w :: ps)
  | .iff v a b => .tup [.str ("if" : Str), .int v, .tup (ds a), .tup (ds b)]
  | .ag t a => .tup [.str ("again" : Str), .int t, .tup (ds a)]
def ds : List Sm → List D
  | [] => []
  | s :: r => s.d :: ds r
end
theorem ds_map : ∀ l : List Sm, ds l = l.map Sm.d
  | [] => by simp [ds]
  | s :: r => by simp [ds, ds_map r]
def wd : D → Str
  | .int i => (toString i : String)
  | .str s => s
  | _ => Str.empty
def num (n : Nat) : Str := (toString (n : Int) : String)
mutual
def Sm.tok : Sm → List Str
  | .pl w ps => w :: ps.map wd
  | .iff v a b => ("if" : Str) :: num v :: ("{" : Str) :: (toks a ++ ("}" : Str) :: ("{" : Str) :: (toks b ++ [("}" : Str)]))
  | .ag t a => ("again" : Str) :: num t :: ("{" : Str) :: (toks a ++ [("}" : Str)])
def toks : List Sm → List Str
  | [] => []
  | s :: r => (match r with
    | [] => s.tok
    | _ :: _ => s.tok ++ (";" : Str) :: toks r)
end
inductive Part : D → Prop where
  | num (n : Nat) : n < 65536 → Part (.int n)
  | way (s : Str) : s ∈ [("loose" : Str), ("take" : Str), ("give" : Str), ("both" : Str)] → Part (.str s)
/-- a plain statement's word and parts -/
inductive OkPl : Str → List D → Prop where
  | set (v k : Nat) : v < 6 → k < 65536 → OkPl ("set" : Str) [.int v, .int k]
  | tri (w : Str) (v a b : Nat) : w ∈ [("add" : Str), ("sub" : Str), ("and" : Str), ("xor" : Str), ("below" : Str)] → v < 6 → a < 6 → b < 6 → OkPl w [.int v, .int a, .int b]
  | get (w : Str) (v a k : Nat) (m : Str) : w ∈ [("get" : Str), ("await" : Str)] → v < 6 → a < 6 → k < 65536 → m ∈ [("loose" : Str), ("take" : Str)] → OkPl w [.int v, .int a, .int k, .str m]
  | put (v a k : Nat) (m : Str) : v < 6 → a < 6 → k < 65536 → m ∈ [("loose" : Str), ("give" : Str)] → OkPl ("put" : Str) [.int v, .int a, .int k, .str m]
  | swap (w : Str) (v b a k : Nat) (m : Str) : w ∈ [("swap" : Str), ("addto" : Str)] → v < 6 → b < 6 → a < 6 → k < 65536 → m ∈ [("loose" : Str), ("take" : Str), ("give" : Str), ("both" : Str)] → OkPl w [.int v, .int b, .int a, .int k, .str m]
  | whole : OkPl ("whole" : Str) []
def names : List Str := [("set" : Str), ("add" : Str), ("sub" : Str), ("and" : Str), ("xor" : Str), ("below" : Str), ("get" : Str), ("await" : Str), ("put" : Str), ("swap" : Str), ("addto" : Str), ("whole" : Str)]
theorem OkPl.name {w : Str} {ps : List D} (h : OkPl w ps) : w ∈ names := by
  cases h with
  | set => decide +kernel
  | tri w v a b hw => simp only [List.mem_cons, List.not_mem_nil, or_false] at hw; rcases hw with rfl | rfl | rfl | rfl | rfl <;> decide +kernel
  | get w v a k m hw => simp only [List.mem_cons, List.not_mem_nil, or_false] at hw; rcases hw with rfl | rfl <;> decide +kernel
  | put => decide +kernel
  | swap w v b a k m hw => simp only [List.mem_cons, List.not_mem_nil, or_false] at hw; rcases hw with rfl | rfl <;> decide +kernel
  | whole => decide +kernel
theorem small {n : Nat} (h : n < 6) : n < 65536 := by omega
theorem OkPl.parts {w : Str} {ps : List D} (h : OkPl w ps) : ps.length ≤ 5 ∧ ∀ p ∈ ps, Part p := by
  have way : ∀ {m : Str} {l : List Str}, m ∈ l → (∀ x ∈ l, x ∈ [("loose" : Str), ("take" : Str), ("give" : Str), ("both" : Str)]) → Part (.str m) := fun h g => .way _ (g _ h)
  have w1 : ∀ x ∈ [("loose" : Str), ("take" : Str)], x ∈ [("loose" : Str), ("take" : Str), ("give" : Str), ("both" : Str)] := by decide +kernel
  have w2 : ∀ x ∈ [("loose" : Str), ("give" : Str)], x ∈ [("loose" : Str), ("take" : Str), ("give" : Str), ("both" : Str)] := by decide +kernel
  cases h with
  | set v k h1 h2 =>
    refine ⟨by simp, fun p hp => ?_⟩
    simp only [List.mem_cons, List.not_mem_nil, or_false] at hp
    rcases hp with rfl | rfl
    · exact .num _ (small h1)
    · exact .num _ h2
  | tri w v a b hw h1 h2 h3 =>
    refine ⟨by simp, fun p hp => ?_⟩
    simp only [List.mem_cons, List.not_mem_nil, or_false] at hp
    rcases hp with rfl | rfl | rfl
    · exact .num _ (small h1)
    · exact .num _ (small h2)
    · exact .num _ (small h3)
  | get w v a k m hw h1 h2 h3 h4 =>
    refine ⟨by simp, fun p hp => ?_⟩
    simp only [List.mem_cons, List.not_mem_nil, or_false] at hp
    rcases hp with rfl | rfl | rfl | rfl
    · exact .num _ (small h1)
    · exact .num _ (small h2)
    · exact .num _ h3
    · exact way h4 w1
  | put v a k m h1 h2 h3 h4 =>
    refine ⟨by simp, fun p hp => ?_⟩
    simp only [List.mem_cons, List.not_mem_nil, or_false] at hp
    rcases hp with rfl | rfl | rfl | rfl
    · exact .num _ (small h1)
    · exact .num _ (small h2)
    · exact .num _ h3
    · exact way h4 w2
  | swap w v b a k m hw h1 h2 h3 h4 h5 =>
    refine ⟨by simp, fun p hp => ?_⟩
    simp only [List.mem_cons, List.not_mem_nil, or_false] at hp
    rcases hp with rfl | rfl | rfl | rfl | rfl
    · exact .num _ (small h1)
    · exact .num _ (small h2)
    · exact .num _ (small h3)
    · exact .num _ h4
    · exact way h5 fun _ z => z
  | whole => exact ⟨by simp, fun p hp => by cases hp⟩
mutual
def Sm.ok : Sm → Nat → Prop
  | .pl w ps, l => l ≤ 4 ∧ OkPl w ps
  | .iff v a b, l => l ≤ 4 ∧ v < 6 ∧ oks a (l + 1) ∧ oks b (l + 1)
  | .ag t a, l => l ≤ 4 ∧ t ≤ 8 ∧ oks a (l + 1)
def oks : List Sm → Nat → Prop
  | [], _ => True
  | s :: r, l => s.ok l ∧ oks r l
end
theorem oks_iff : ∀ {l : List Sm} {k : Nat}, oks l k ↔ ∀ s ∈ l, s.ok k
  | [], k => by simp [oks]
  | s :: r, k => by simp [oks, oks_iff (l := r)]
mutual
def Sm.cnt : Sm → Nat
  | .pl _ _ => 1
  | .iff _ a b => 1 + cnts a + cnts b
  | .ag _ a => 1 + cnts a
def cnts : List Sm → Nat
  | [] => 0
  | s :: r => s.cnt + cnts r
end
/-! ### lengths -/
def L (xs : List Str) : Nat := (xs.map Str.length).sum + xs.length
@[simp] theorem L_nil : L [] = 0 := rfl
@[simp] theorem L_cons (x : Str) (xs : List Str) : L (x :: xs) = x.length + 1 + L xs := by
  simp [L]; omega
@[simp] theorem L_app (xs ys : List Str) : L (xs ++ ys) = L xs + L ys := by
  simp [L]; omega
theorem wd_len {p : D} (h : Part p) : (wd p).length ≤ 5 := by
  cases h with
  | num n h =>
    show (Str.ofString (toString ((n : Nat) : Int))).length ≤ 5
    rw [len_tl, tl_num]
    exact numL_len (k := 5) (by decide) (by omega)
  | way s h =>
    have : ∀ x ∈ [("loose" : Str), ("take" : Str), ("give" : Str), ("both" : Str)], x.length ≤ 5 := by decide +kernel
    exact this s h
theorem num_len {n : Nat} (h : n < 10) : (num n).length = 1 := by
  show (Str.ofString (toString ((n : Nat) : Int))).length = 1
  rw [len_tl, tl_num, numL_lt h]; rfl
theorem name_len {w : Str} (h : w ∈ names) : w.length ≤ 5 := by
  have : ∀ x ∈ names, x.length ≤ 5 := by decide +kernel
  exact this w h
theorem L_parts : ∀ {ps : List D}, (∀ p ∈ ps, Part p) → L (ps.map wd) ≤ 6 * ps.length
  | [], _ => by simp
  | p :: ps, h => by
    have h1 := wd_len (h p (List.mem_cons_self ..))
    have h2 := L_parts (ps := ps) fun x hx => h x (List.mem_cons_of_mem _ hx)
    simp only [List.map_cons, L_cons, List.length_cons]
    omega
theorem len1 : ("{" : Str).length = 1 := by decide +kernel
theorem len2 : ("}" : Str).length = 1 := by decide +kernel
theorem len3 : (";" : Str).length = 1 := by decide +kernel
theorem len4 : ("if" : Str).length = 2 := by decide +kernel
theorem len5 : ("again" : Str).length = 5 := by decide +kernel
mutual
theorem L_tok : ∀ {s : Sm} {l : Nat}, s.ok l → L s.tok + 2 ≤ 60 * s.cnt
  | .pl w ps, l, h => by
    simp only [Sm.ok] at h
    have h1 := h.2.parts
    have h2 := L_parts h1.2
    have h3 := name_len h.2.name
    simp only [Sm.tok, Sm.cnt, L_cons]
    omega
  | .iff v a b, l, h => by
    simp only [Sm.ok] at h
    have h1 := L_toks h.2.2.1
    have h2 := L_toks h.2.2.2
    have h3 := num_len (n := v) (by omega)
    simp only [Sm.tok, Sm.cnt, L_cons, L_app, len1, len2, len4, h3, L_nil]
    omega
  | .ag t a, l, h => by
    simp only [Sm.ok] at h
    have h1 := L_toks h.2.2
    have h3 := num_len (n := t) (by omega)
    simp only [Sm.tok, Sm.cnt, L_cons, L_app, len1, len2, len5, h3, L_nil]
    omega
theorem L_toks : ∀ {ss : List Sm} {l : Nat}, oks ss l → L (toks ss) ≤ 60 * cnts ss
  | [], l, h => by simp [toks]
  | s :: r, l, h => by
    simp only [oks] at h
    have h1 := L_tok h.1
    have h2 := L_toks h.2
    simp only [toks, cnts]
    split
    · omega
    · simp only [L_app, L_cons, len3]; omega
end
end KT.k71

/-! k71_p2: the texts. -/
namespace KT.k71
open PySem PySem.Spec L2 KT TL
open PyProof.Rows hiding St
def J (xs : List Str) : Str := Str.join (" " : Str) xs
theorem J_one (x : Str) : J [x] = x := rfl
theorem J_cons (x y : Str) (r : List Str) : J (x :: y :: r) = x ++ (" " : Str) ++ J (y :: r) := rfl
theorem app_assoc (a b c : Str) : a ++ b ++ c = a ++ (b ++ c) := ext_tl (by simp only [tl_append, List.append_assoc])
theorem J_app : ∀ {xs ys : List Str}, xs ≠ [] → ys ≠ [] → J (xs ++ ys) = J xs ++ ((" " : Str) ++ J ys)
  | [], _, h, _ => absurd rfl h
  | [x], [], _, h => absurd rfl h
  | [x], y :: ys, _, _ => by rw [List.singleton_append, J_cons, J_one, app_assoc]
  | x :: z :: xs, ys, _, h => by
    rw [List.cons_append, List.cons_append, J_cons, J_cons, ← List.cons_append, J_app (xs := z :: xs) (by simp) h]
    simp only [app_assoc]
theorem J_len (xs : List Str) : (J xs).length ≤ L xs := by
  have := StrLaws.join_length_le (" " : Str) xs
  have e : (" " : Str).length = 1 := by decide +kernel
  rw [e, Nat.mul_one] at this
  exact this
theorem tok_ne : ∀ s : Sm, s.tok ≠ []
  | .pl _ _ => by simp [Sm.tok]
  | .iff _ _ _ => by simp [Sm.tok]
  | .ag _ _ => by simp [Sm.tok]
theorem toks_ne : ∀ {ss : List Sm}, ss ≠ [] → toks ss ≠ []
  | [], h => absurd rfl h
  | [s], _ => by simp [toks, tok_ne]
  | s :: r :: t, _ => by simp [toks]
theorem semi_eq : (" ; " : Str) = (" " : Str) ++ ((";" : Str) ++ (" " : Str)) := by decide +kernel
theorem join_semi : ∀ {ss : List Sm}, ss ≠ [] → Str.join (" ; " : Str) (ss.map fun s => J s.tok) = J (toks ss)
  | [], h => absurd rfl h
  | [s], _ => by simp [toks, Str.join]
  | s :: r :: t, _ => by
    have h := join_semi (ss := r :: t) (by simp)
    have e : toks (s :: r :: t) = s.tok ++ (";" : Str) :: toks (r :: t) := rfl
    obtain ⟨y, ys, hy⟩ : ∃ y ys, toks (r :: t) = y :: ys := by
      cases q : toks (r :: t) with
      | nil => exact absurd q (toks_ne (by simp))
      | cons y ys => exact ⟨y, ys, rfl⟩
    rw [e, J_app (tok_ne s) (by simp), hy, J_cons, ← hy, ← h]
    show J s.tok ++ (" ; " : Str) ++ Str.join (" ; " : Str) ((r :: t).map fun s => J s.tok) = _
    rw [semi_eq]
    simp only [app_assoc]
/-! ### what prints -/
theorem d_join {a : Str} {ys : List Str} (h : (ys.map (·.length)).sum + ys.length * a.length ≤ 16777216) : dJoin a (.lst (ys.map D.str)) = M.pure (.str (Str.join a ys)) := by
  unfold dJoin
  have e : (ys.map D.str).mapM asStr = some ys := by
    induction ys with
    | nil => rfl
    | cons y ys ih =>
      have ih := ih (by simp only [List.map_cons, List.sum_cons, List.length_cons, Nat.add_mul] at h; omega)
      rw [List.map_cons, List.mapM_cons, ih]; rfl
  show M.bind (M.pure (ys.map D.str)) _ = _
  funext st
  simp only [bind_at, pure_at, to_ok, e, withO_some, if_pos h, join_eq]
def ppy : D → PyData
  | .int i => .int i
  | .str s => .str s
  | _ => .none
mutual
def Sm.py : Sm → PyData
  | .pl w ps => .tuple (.str w :: ps.map ppy)
  | .iff v a b => .tuple [.str ("if" : Str), .int v, .tuple (pys a), .tuple (pys b)]
  | .ag t a => .tuple [.str ("again" : Str), .int t, .tuple (pys a)]
def pys : List Sm → List PyData
  | [] => []
  | s :: r => s.py :: pys r
end
theorem parts_py : ∀ {ps : List D}, (∀ p ∈ ps, Part p) → toPyL ps = some (ps.map ppy)
  | [], _ => rfl
  | p :: ps, h => by
    have h2 := parts_py (ps := ps) fun x hx => h x (List.mem_cons_of_mem _ hx)
    unfold toPyL
    rw [h2]
    cases h p (List.mem_cons_self ..) with
    | num n _ => rfl
    | way s _ => rfl
mutual
theorem py_ok : ∀ {s : Sm} {l : Nat}, s.ok l → toPy s.d = some s.py
  | .pl w ps, l, h => by
    simp only [Sm.ok] at h
    simp only [Sm.d, Sm.py, toPy, toPyL, parts_py h.2.parts.2, Option.map_some]
  | .iff v a b, l, h => by
    simp only [Sm.ok] at h
    simp only [Sm.d, Sm.py, toPy, toPyL, pys_ok h.2.2.1, pys_ok h.2.2.2, Option.map_some]
  | .ag t a, l, h => by
    simp only [Sm.ok] at h
    simp only [Sm.d, Sm.py, toPy, toPyL, pys_ok h.2.2, Option.map_some]
theorem pys_ok : ∀ {ss : List Sm} {l : Nat}, oks ss l → toPyL (ds ss) = some (pys ss)
  | [], _, _ => rfl
  | s :: r, l, h => by
    simp only [oks] at h
    simp only [ds, pys, toPyL, py_ok h.1, pys_ok h.2]
end
theorem str_ok {w : Str} (h : w ∈ names ∨ w ∈ [("loose" : Str), ("take" : Str), ("give" : Str), ("both" : Str)]) : PyData.strOk w = true := by
  have h1 : ∀ x ∈ names, PyData.strOk x = true := by decide +kernel
  have h2 : ∀ x ∈ [("loose" : Str), ("take" : Str), ("give" : Str), ("both" : Str)], PyData.strOk x = true := by decide +kernel
  exact h.elim (h1 w) (h2 w)
theorem parts_lay : ∀ {ps : List D}, (∀ p ∈ ps, Part p) → PyData.canLayAll0 (ps.map ppy) = true ∧ PyData.depthAll (ps.map ppy) = 0 ∧ PyData.showableAll (ps.map ppy) = true
  | [], _ => ⟨rfl, rfl, rfl⟩
  | p :: ps, h => by
    have h2 := parts_lay (ps := ps) fun x hx => h x (List.mem_cons_of_mem _ hx)
    cases h p (List.mem_cons_self ..) with
    | num n hn =>
      refine ⟨?_, ?_, ?_⟩
      · simp only [List.map_cons, ppy, PyData.canLayAll0, PyData.canLay0, h2.1, Bool.and_self]
      · simp only [List.map_cons, ppy, PyData.depthAll, PyData.depth, h2.2.1, Nat.max_self]
      · simp only [List.map_cons, ppy, PyData.showableAll, PyData.showable, h2.2.2, Bool.and_true, decide_eq_true_eq]
        show (Int.natAbs (n : Int)).log2 < 1920
        rw [Int.natAbs_natCast]
        by_cases e : n = 0
        · subst e; decide
        · have : n.log2 < 16 := (Nat.log2_lt e).mpr (by omega)
          omega
    | way s hs =>
      refine ⟨?_, ?_, ?_⟩
      · simp only [List.map_cons, ppy, PyData.canLayAll0, PyData.canLay0, h2.1, str_ok (.inr hs), Bool.and_self]
      · simp only [List.map_cons, ppy, PyData.depthAll, PyData.depth, h2.2.1, Nat.max_self]
      · simp only [List.map_cons, ppy, PyData.showableAll, PyData.showable, h2.2.2, Bool.and_true]
theorem small_log {n : Nat} (h : n < 65536) : (Int.natAbs (n : Int)).log2 < 1920 := by
  rw [Int.natAbs_natCast]
  by_cases e : n = 0
  · subst e; decide
  · have : n.log2 < 16 := (Nat.log2_lt e).mpr (by omega)
    omega
theorem s1 : PyData.strOk ("if" : Str) = true := by decide +kernel
theorem s2 : PyData.strOk ("again" : Str) = true := by decide +kernel
mutual
theorem lay_ok : ∀ {s : Sm} {l : Nat}, s.ok l → s.py.canLay0 = true ∧ s.py.depth + 2 * l ≤ 11 ∧ s.py.showable = true
  | .pl w ps, l, h => by
    simp only [Sm.ok] at h
    have q := parts_lay h.2.parts.2
    simp only [Sm.py, PyData.canLay0, PyData.canLayAll0, PyData.depth, PyData.depthAll, PyData.showable, PyData.showableAll, q.1, q.2.1, q.2.2, str_ok (.inl h.2.name)]
    refine ⟨rfl, ?_, rfl⟩
    simp; omega
  | .iff v a b, l, h => by
    simp only [Sm.ok] at h
    have q1 := lays_ok h.2.2.1
    have q2 := lays_ok h.2.2.2
    have sl := small_log (n := v) (by omega)
    simp only [Sm.py, PyData.canLay0, PyData.canLayAll0, PyData.depth, PyData.depthAll, PyData.showable, PyData.showableAll, q1.1, q2.1, q1.2.2, q2.2.2, s1, decide_eq_true sl]
    refine ⟨rfl, ?_, rfl⟩
    have := q1.2.1; have := q2.2.1
    simp only [Nat.max_def]; split <;> split <;> (try split) <;> (try split) <;> omega
  | .ag t a, l, h => by
    simp only [Sm.ok] at h
    have q1 := lays_ok h.2.2
    have sl := small_log (n := t) (by omega)
    simp only [Sm.py, PyData.canLay0, PyData.canLayAll0, PyData.depth, PyData.depthAll, PyData.showable, PyData.showableAll, q1.1, q1.2.2, s2, decide_eq_true sl]
    refine ⟨rfl, ?_, rfl⟩
    have := q1.2.1
    simp only [Nat.max_def]; split <;> split <;> (try split) <;> (try split) <;> omega
theorem lays_ok : ∀ {ss : List Sm} {l : Nat}, oks ss l → PyData.canLayAll0 (pys ss) = true ∧ PyData.depthAll (pys ss) + 2 * l ≤ max 11 (2 * l) ∧ PyData.showableAll (pys ss) = true
  | [], l, h => ⟨rfl, by simp [pys, PyData.depthAll]; omega, rfl⟩
  | s :: r, l, h => by
    simp only [oks] at h
    have q1 := lay_ok h.1
    have q2 := lays_ok h.2
    simp only [pys, PyData.canLayAll0, PyData.depthAll, PyData.showableAll, q1.1, q2.1, q1.2.2, q2.2.2]
    refine ⟨rfl, ?_, rfl⟩
    have := q1.2.1; have := q2.2.1
    omega
end
end KT.k71

/-! k71_p3: the texts are printed so. -/
namespace KT.k71
open PySem PySem.Spec L2 KT TL
open PyProof.Rows hiding St
theorem shaped_ok {ss : List Sm} {l : Nat} (h : oks ss l) (hl : l ≤ 5) : SeqAt.shaped (.tuple (pys ss)) = true := by
  have q := lays_ok h
  refine Bool.and_eq_true_iff.mpr ⟨q.1, decide_eq_true ?_⟩
  have := q.2.1
  show PyData.depthAll (pys ss) + 1 ≤ 64
  omega
theorem eqv_nil (ps : List PyData) : PyData.eqv (.tuple ps) (.tuple []) = ps.isEmpty := by
  cases ps with
  | nil => rfl
  | cons p ps => rfl
theorem pys_emp (ss : List Sm) : (pys ss).isEmpty = ss.isEmpty := by cases ss <;> rfl
theorem toPy_tup {ss : List Sm} {l : Nat} (h : oks ss l) : toPy (.tup (ds ss)) = some (.tuple (pys ss)) := by
  simp only [toPy, pys_ok h, Option.map_some]
theorem eqB_unit {ss : List Sm} {l : Nat} (h : oks ss l) (hl : l ≤ 5) : dEqB (.tup (ds ss)) (.tup []) = some ss.isEmpty := by
  show eqGen _ _ = _
  unfold eqGen
  rw [toPy_tup h]
  have e : toPy (.tup []) = some (.tuple []) := rfl
  rw [e]
  show (if SeqAt.shaped (.tuple (pys ss)) = true ∧ SeqAt.shaped (.tuple []) = true then some (PyData.eqv (.tuple (pys ss)) (.tuple [])) else none) = _
  rw [if_pos ⟨shaped_ok h hl, by decide +kernel⟩, eqv_nil, pys_emp]
theorem d_eq_u {ss : List Sm} {l : Nat} (h : oks ss l) (hl : l ≤ 5) : dEq (.tup (ds ss)) (.tup []) = M.pure (.bl ss.isEmpty) := by
  unfold dEq
  rw [eqB_unit h hl]; rfl
theorem d_ne_u {ss : List Sm} {l : Nat} (h : oks ss l) (hl : l ≤ 5) : dNe (.tup (ds ss)) (.tup []) = M.pure (.bl !ss.isEmpty) := by
  unfold dNe
  rw [eqB_unit h hl]; rfl
theorem cnt_pos : ∀ s : Sm, 1 ≤ s.cnt
  | .pl _ _ => by simp [Sm.cnt]
  | .iff _ _ _ => by simp [Sm.cnt]; omega
  | .ag _ _ => by simp [Sm.cnt]
theorem cnts_mem : ∀ {ss : List Sm} {s : Sm}, s ∈ ss → s.cnt ≤ cnts ss
  | [], _, h => by cases h
  | t :: r, s, h => by
    simp only [cnts]
    rcases List.mem_cons.mp h with rfl | h
    · omega
    · have := cnts_mem h; omega
theorem len_le_cnts : ∀ ss : List Sm, ss.length ≤ cnts ss
  | [] => Nat.le_refl _
  | s :: r => by
    have := cnt_pos s; have := len_le_cnts r
    simp only [cnts, List.length_cons]; omega
theorem ds_len (ss : List Sm) : (ds ss).length = ss.length := by rw [ds_map, List.length_map]
theorem sum_J : ∀ {ss : List Sm} {l : Nat}, oks ss l → ((ss.map fun s => J s.tok).map (·.length)).sum + ss.length * 3 ≤ 63 * cnts ss
  | [], _, _ => by simp
  | s :: r, l, h => by
    simp only [oks] at h
    have h1 := L_tok h.1
    have h2 := sum_J h.2
    have h3 := J_len s.tok
    have := cnt_pos s
    simp only [List.map_cons, List.sum_cons, List.length_cons, cnts]
    omega
/-- a block's words -/
def bk (ss : List Sm) : List Str := ("{" : Str) :: (toks ss ++ [("}" : Str)])
theorem bk_J {ss : List Sm} (h : ss ≠ []) : J (bk ss) = ("{ " : Str) ++ J (toks ss) ++ (" }" : Str) := by
  have e1 : ("{ " : Str) = ("{" : Str) ++ (" " : Str) := by decide +kernel
  have e2 : (" }" : Str) = (" " : Str) ++ ("}" : Str) := by decide +kernel
  unfold bk
  rw [show ("{" : Str) :: (toks ss ++ [("}" : Str)]) = [("{" : Str)] ++ (toks ss ++ [("}" : Str)]) from rfl, J_app (by simp) (by simp), J_app (toks_ne h) (by simp), J_one, J_one, e1, e2]
  simp only [app_assoc]
theorem sl : sizeLine = 16777216 := by decide +kernel
theorem ev_block {f : List D → M D} {ss : List Sm} {l : Nat} (ok : oks ss l) (hl : l ≤ 5) (hc : cnts ss ≤ 1000) (h : ∀ s ∈ ss, ∀ st, f [s.d] st = .ok (.str (J s.tok)) st) (st : Sto) :
    mFun 2 (B_block_text fun _ => f) [.tup (ds ss)] st = .ok (.str (J (bk ss))) st := by
  unfold B_block_text
  by_cases hs : ss = []
  · subst hs
    have e : dEq (.tup (ds [])) (.tup []) = M.pure (.bl true) := d_eq_u (ss := []) (l := 1) trivial (by decide)
    have e2 : J (bk []) = ("{ }" : Str) := by decide +kernel
    simp [e, e2, ite_at, sl]
  · have e := d_eq_u ok hl
    have e3 : ss.isEmpty = false := by cases ss <;> simp_all
    rw [e3] at e
    have hlen := len_le_cnts ss
    have c : compL (gSlot 1) tYesM (eCall 1 f (aCons (eVar 1) aNil)) [some (.tup (ds ss)), none] (ds ss) st = .ok (ss.map fun s => D.str (J s.tok)) st := by
      rw [ds_map]
      refine comp_of fun s hs => ?_
      simp [ite_at, h s hs st]
    have c2 := c
    rw [show (ss.map fun s => D.str (J s.tok)) = (ss.map fun s => J s.tok).map D.str by simp] at c2
    have hs1 := sum_J ok
    have jn : dJoin (" ; " : Str) (.lst ((ss.map fun s => J s.tok).map D.str)) = M.pure (.str (J (toks ss))) := by
      rw [d_join, join_semi hs]
      have : (" ; " : Str).length = 3 := by decide +kernel
      rw [this, List.length_map]; omega
    have h1 := J_len (toks ss)
    have h2 := L_toks ok
    have l1 : ("{ " : Str).length = 2 := by decide +kernel
    have l2 : (" }" : Str).length = 2 := by decide +kernel
    have a1 : dAdd (.str ("{ " : Str)) (.str (J (toks ss))) = M.pure (.str (("{ " : Str) ++ J (toks ss))) := d_add_s (by rw [l1, sl]; omega)
    have a2 : dAdd (.str (("{ " : Str) ++ J (toks ss))) (.str (" }" : Str)) = M.pure (.str (("{ " : Str) ++ J (toks ss) ++ (" }" : Str))) := d_add_s (by rw [Str.length_append, l1, l2, sl]; omega)
    have z1 : (ds ss).length ≤ 16777216 := by rw [ds_len]; omega
    rw [bk_J hs]
    simp [-List.map_map, e, ite_at, sl, wipeD, c2, z1, jn, a1, a2]

theorem name_if {w : Str} (h : w ∈ names) : w ≠ ("if" : Str) ∧ w ≠ ("again" : Str) := by
  have : ∀ x ∈ names, x ≠ ("if" : Str) ∧ x ≠ ("again" : Str) := by decide +kernel
  exact this w h
theorem wd_eq {p : D} (h : Part p) : dStrOf p = M.pure (.str (wd p)) := by
  cases h with
  | num n h => exact d_str_i (small_log h)
  | way s h => rfl
theorem ev_stm {f : List D → M D} {s : Sm} {l : Nat} (ok : s.ok l) (hc : s.cnt ≤ 1000) (h : ∀ ss, (∃ v b, s = .iff v ss b) ∨ (∃ v a, s = .iff v a ss) ∨ (∃ t, s = .ag t ss) → ∀ st, f [.tup (ds ss)] st = .ok (.str (J (bk ss))) st) (st : Sto) :
    mFun 2 (B_statement_text fun _ => f) [s.d] st = .ok (.str (J s.tok)) st := by
  unfold B_statement_text
  have bound : ∀ ss : List Sm, ∀ {k : Nat}, oks ss k → cnts ss ≤ 1000 → (J (bk ss)).length ≤ 60004 := fun ss k o c => by
    have h1 := J_len (bk ss)
    have h2 := L_toks o
    simp only [bk, L_cons, L_app, len1, len2, L_nil] at h1
    unfold bk
    omega
  cases s with
  | pl w ps =>
    simp only [Sm.ok] at ok
    have n := name_if ok.2.name
    have pp := ok.2.parts
    have lp : ((w :: ps.map wd).map (·.length)).sum ≤ 40 := by
      have h1 : ((ps.map wd).map (fun x => x.length)).sum + (ps.map wd).length ≤ 6 * ps.length := L_parts pp.2
      have h2 := name_len ok.2.name
      simp only [List.map_cons, List.sum_cons]
      omega
    have c : compL (gSlot 1) tYesM (eFn (f1 dStrOf) (aCons (eVar 1) aNil)) [some (Sm.d (.pl w ps)), none] (.str w :: ps) st = .ok ((w :: ps.map wd).map D.str) st := by
      have e0 : (.str w :: ps : List D) = (.str w :: ps).map id := by simp
      have e1 : ((w :: ps.map wd).map D.str) = (.str w :: ps : List D).map fun p => D.str (wd p) := by simp [wd]
      rw [e1]
      conv => lhs; rw [e0]
      refine comp_of fun p hp => ?_
      rcases List.mem_cons.mp hp with rfl | hp
      · simp [wd]
      · simp [wd_eq (pp.2 p hp)]
    have jn : dJoin (" " : Str) (.lst ((w :: ps.map wd).map D.str)) = M.pure (.str (J (w :: ps.map wd))) := by
      rw [d_join]; rfl
      have e : (" " : Str).length = 1 := by decide +kernel
      rw [e, List.length_cons, List.length_map]
      have := pp.1
      omega
    have z : ps.length + 1 ≤ 16777216 := by have := pp.1; omega
    simp only [Sm.d] at c ⊢
    simp only [List.map_cons] at jn c
    simp [-List.map_map, ite_at, sl, wipeD, n.1, n.2, c, jn, z, Sm.tok]
  | iff v a b =>
    simp only [Sm.ok] at ok
    simp only [Sm.cnt] at hc
    have ha := h a (.inl ⟨v, b, rfl⟩)
    have hb := h b (.inr (.inl ⟨v, a, rfl⟩))
    have ba := bound a ok.2.2.1 (by omega)
    have bb := bound b ok.2.2.2 (by omega)
    have sv : dStrOf (.int (v : Nat)) = M.pure (.str (num v)) := d_str_i (small_log (by omega))
    have lv := num_len (n := v) (by omega)
    have e1 : ("if " : Str).length = 3 := by decide +kernel
    have e2 : (" " : Str).length = 1 := by decide +kernel
    have a1 : dAdd (.str ("if " : Str)) (.str (num v)) = M.pure (.str (("if " : Str) ++ num v)) := d_add_s (by rw [sl]; omega)
    have a2 : dAdd (.str (("if " : Str) ++ num v)) (.str (" " : Str)) = M.pure (.str (("if " : Str) ++ num v ++ (" " : Str))) := d_add_s (by simp only [Str.length_append]; rw [sl]; omega)
    have a3 : dAdd (.str (("if " : Str) ++ num v ++ (" " : Str))) (.str (J (bk a))) = M.pure (.str (("if " : Str) ++ num v ++ (" " : Str) ++ J (bk a))) := d_add_s (by simp only [Str.length_append]; rw [sl]; omega)
    have a4 : dAdd (.str (("if " : Str) ++ num v ++ (" " : Str) ++ J (bk a))) (.str (" " : Str)) = M.pure (.str (("if " : Str) ++ num v ++ (" " : Str) ++ J (bk a) ++ (" " : Str))) := d_add_s (by simp only [Str.length_append]; rw [sl]; omega)
    have a5 : dAdd (.str (("if " : Str) ++ num v ++ (" " : Str) ++ J (bk a) ++ (" " : Str))) (.str (J (bk b))) = M.pure (.str (("if " : Str) ++ num v ++ (" " : Str) ++ J (bk a) ++ (" " : Str) ++ J (bk b))) := d_add_s (by simp only [Str.length_append]; rw [sl]; omega)
    have fin : ("if " : Str) ++ num v ++ (" " : Str) ++ J (bk a) ++ (" " : Str) ++ J (bk b) = J (Sm.tok (.iff v a b)) := by
      have e : Sm.tok (.iff v a b) = ("if" : Str) :: num v :: (bk a ++ bk b) := by simp [Sm.tok, bk]
      have e3 : ("if " : Str) = ("if" : Str) ++ (" " : Str) := by decide +kernel
      obtain ⟨y, ys, hy⟩ : ∃ y ys, bk a ++ bk b = y :: ys := ⟨_, _, rfl⟩
      rw [e, J_cons, hy, J_cons, ← hy, J_app (by simp [bk]) (by simp [bk]), e3]
      simp only [app_assoc]
    simp only [Sm.d]
    rw [← fin]
    simp [ite_at, sl, sv, a1, a2, a3, a4, a5, ha st, hb st]
  | ag t a =>
    simp only [Sm.ok] at ok
    simp only [Sm.cnt] at hc
    have ha := h a (.inr (.inr ⟨t, rfl⟩))
    have ba := bound a ok.2.2 (by omega)
    have sv : dStrOf (.int (t : Nat)) = M.pure (.str (num t)) := d_str_i (small_log (by omega))
    have lv := num_len (n := t) (by omega)
    have e1 : ("again " : Str).length = 6 := by decide +kernel
    have e2 : (" " : Str).length = 1 := by decide +kernel
    have a1 : dAdd (.str ("again " : Str)) (.str (num t)) = M.pure (.str (("again " : Str) ++ num t)) := d_add_s (by rw [sl]; omega)
    have a2 : dAdd (.str (("again " : Str) ++ num t)) (.str (" " : Str)) = M.pure (.str (("again " : Str) ++ num t ++ (" " : Str))) := d_add_s (by simp only [Str.length_append]; rw [sl]; omega)
    have a3 : dAdd (.str (("again " : Str) ++ num t ++ (" " : Str))) (.str (J (bk a))) = M.pure (.str (("again " : Str) ++ num t ++ (" " : Str) ++ J (bk a))) := d_add_s (by simp only [Str.length_append]; rw [sl]; omega)
    have fin : ("again " : Str) ++ num t ++ (" " : Str) ++ J (bk a) = J (Sm.tok (.ag t a)) := by
      have e : Sm.tok (.ag t a) = ("again" : Str) :: num t :: bk a := by simp [Sm.tok, bk]
      have e3 : ("again " : Str) = ("again" : Str) ++ (" " : Str) := by decide +kernel
      obtain ⟨y, ys, hy⟩ : ∃ y ys, bk a = y :: ys := ⟨_, _, rfl⟩
      rw [e, J_cons, hy, J_cons, ← hy, e3]
      simp only [app_assoc]
    have ne : ¬ (("again" : Str) = ("if" : Str)) := by decide +kernel
    simp only [Sm.d]
    rw [← fin]
    simp [ite_at, sl, sv, a1, a2, a3, ha st, ne]

/-! ### closed over the levels -/
theorem bst (c : Fn → List D → M D) : B_statement_text c = B_statement_text fun _ => c .block_text := rfl
theorem bbl (c : Fn → List D → M D) : B_block_text c = B_block_text fun _ => c .statement_text := rfl
theorem bli (c : Fn → List D → M D) : B__law_line c = B_statement_text fun _ => c ._law_inside := rfl
theorem bin (c : Fn → List D → M D) : B__law_inside c = B_block_text fun _ => c ._law_line := rfl
/-- the two pairs of printers -/
theorem print (B S : Fn) (hB : ∀ n, run (n + 1) B = mFun 2 (B_block_text fun _ => run n S)) (hS : ∀ n, run (n + 1) S = mFun 2 (B_statement_text fun _ => run n B)) : ∀ n : Nat,
    (∀ (s : Sm) (l : Nat), s.ok l → s.cnt ≤ 1000 → 2 * (5 - l) ≤ n → ∀ st, run n S [s.d] st = .ok (.str (J s.tok)) st) ∧
    (∀ (ss : List Sm) (l : Nat), oks ss l → l ≤ 5 → cnts ss ≤ 1000 → 2 * (5 - l) + 1 ≤ n → ∀ st, run n B [.tup (ds ss)] st = .ok (.str (J (bk ss))) st)
  | 0 => ⟨fun s l ok hc hn st => by
      have : l ≤ 4 := by cases s <;> simp only [Sm.ok] at ok <;> exact ok.1
      omega, fun ss l ok hl hc hn st => by omega⟩
  | n + 1 => by
    obtain ⟨i1, i2⟩ := print B S hB hS n
    refine ⟨fun s l ok hc hn st => ?_, fun ss l ok hl hc hn st => ?_⟩
    · rw [hS]
      refine ev_stm ok hc (fun ss h st => ?_) st
      have hl : l ≤ 4 := by cases s <;> simp only [Sm.ok] at ok <;> exact ok.1
      rcases h with ⟨v, b, rfl⟩ | ⟨v, a, rfl⟩ | ⟨t, rfl⟩
      · simp only [Sm.ok] at ok
        simp only [Sm.cnt] at hc
        exact i2 ss (l + 1) ok.2.2.1 (by omega) (by omega) (by omega) st
      · simp only [Sm.ok] at ok
        simp only [Sm.cnt] at hc
        exact i2 ss (l + 1) ok.2.2.2 (by omega) (by omega) (by omega) st
      · simp only [Sm.ok] at ok
        simp only [Sm.cnt] at hc
        exact i2 ss (l + 1) ok.2.2 (by omega) (by omega) (by omega) st
    · rw [hB]
      refine ev_block ok hl hc (fun s hs st => ?_) st
      have := cnts_mem hs
      refine i1 s l (oks_iff.mp ok s hs) (by omega) ?_ st
      omega
theorem ev_st {n : Nat} {s : Sm} {l : Nat} (ok : s.ok l) (hc : s.cnt ≤ 1000) (hn : 10 ≤ n) (st : Sto) : run n .statement_text [s.d] st = .ok (.str (J s.tok)) st :=
  (print .block_text .statement_text (fun _ => rfl) (fun _ => rfl) n).1 s l ok hc (by omega) st
theorem ev_li {n : Nat} {s : Sm} {l : Nat} (ok : s.ok l) (hc : s.cnt ≤ 1000) (hn : 10 ≤ n) (st : Sto) : run n ._law_line [s.d] st = .ok (.str (J s.tok)) st :=
  (print ._law_inside ._law_line (fun _ => rfl) (fun _ => rfl) n).1 s l ok hc (by omega) st
/-! ### hands, programs -/
abbrev Pg := List (List Sm)
def Pg.ok (p : Pg) : Prop := p ≠ [] ∧ p.length ≤ 4 ∧ ∀ h ∈ p, oks h 1 ∧ cnts h ≤ 24
def Pg.d (p : Pg) : D := .tup (p.map fun h => .tup (ds h))
def htok (h : List Sm) : List Str := match h with
  | [] => [("-" : Str)]
  | _ :: _ => toks h
def Pg.text (p : Pg) : Str := Str.join (" || " : Str) (p.map fun h => J (htok h))
theorem ev_hand {f : List D → M D} {h : List Sm} (ok : oks h 1) (hc : cnts h ≤ 24) (hf : ∀ s ∈ h, ∀ st, f [s.d] st = .ok (.str (J s.tok)) st) (st : Sto) :
    mFun 2 (B_hand_text fun _ => f) [.tup (ds h)] st = .ok (.str (J (htok h))) st := by
  unfold B_hand_text
  have e := d_ne_u ok (by decide)
  cases h with
  | nil =>
    have e2 : J (htok []) = ("-" : Str) := by decide +kernel
    simp [e, ite_at, sl, e2]
  | cons s r =>
    have hlen := len_le_cnts (s :: r)
    have c : compL (gSlot 1) tYesM (eCall 1 f (aCons (eVar 1) aNil)) [some (.tup (ds (s :: r))), none] (ds (s :: r)) st = .ok ((s :: r).map fun s => D.str (J s.tok)) st := by
      rw [ds_map]
      refine comp_of fun s hs => ?_
      simp [ite_at, hf s hs st]
    have c2 := c
    rw [show ((s :: r).map fun s => D.str (J s.tok)) = ((s :: r).map fun s => J s.tok).map D.str by simp] at c2
    have hs1 := sum_J ok
    have jn : dJoin (" ; " : Str) (.lst (((s :: r).map fun s => J s.tok).map D.str)) = M.pure (.str (J (toks (s :: r)))) := by
      rw [d_join, join_semi (by simp)]
      have : (" ; " : Str).length = 3 := by decide +kernel
      rw [this, List.length_map]; omega
    have z1 : (ds (s :: r)).length ≤ 16777216 := by rw [ds_len]; omega
    have e3 : (s :: r).isEmpty = false := rfl
    rw [e3] at e
    generalize hq : s :: r = q at *
    have e4 : htok q = toks q := by rw [← hq]; rfl
    simp [-List.map_map, e, ite_at, sl, wipeD, c2, z1, jn, e4]
theorem bhand (c : Fn → List D → M D) : B_hand_text c = B_hand_text fun _ => c .statement_text := rfl
theorem hand_len {h : List Sm} (ok : oks h 1) (hc : cnts h ≤ 24) : (J (htok h)).length ≤ 1440 := by
  cases h with
  | nil =>
    have : (J (htok [])).length = 1 := by decide +kernel
    omega
  | cons s r =>
    have h1 := J_len (toks (s :: r))
    have h2 := L_toks ok
    show (J (toks (s :: r))).length ≤ 1440
    omega
theorem sum_le {α : Type} {f : α → Nat} {k : Nat} : ∀ {l : List α}, (∀ x ∈ l, f x ≤ k) → (l.map f).sum ≤ k * l.length
  | [], _ => by simp
  | x :: l, h => by
    have h1 := h x (List.mem_cons_self ..)
    have h2 := sum_le (l := l) fun y hy => h y (List.mem_cons_of_mem _ hy)
    simp only [List.map_cons, List.sum_cons, List.length_cons, Nat.mul_add, Nat.mul_one]
    omega
theorem text_join {p : Pg} (ok : p.ok) : dJoin (" || " : Str) (.lst ((p.map fun h => J (htok h)).map D.str)) = M.pure (.str p.text) := by
  rw [d_join]; rfl
  have e : (" || " : Str).length = 4 := by decide +kernel
  have h1 : ((p.map fun h => J (htok h)).map (fun x => x.length)).sum ≤ 1440 * p.length := by
    rw [List.map_map]
    exact sum_le fun h hh => hand_len (ok.2.2 h hh).1 (ok.2.2 h hh).2
  have := ok.2.1
  rw [e, List.length_map]
  omega
theorem text_len {p : Pg} (ok : p.ok) : p.text.length ≤ 6000 := by
  have h0 := StrLaws.join_length_le (" || " : Str) (p.map fun h => J (htok h))
  have e : (" || " : Str).length = 4 := by decide +kernel
  have h1 : ((p.map fun h => J (htok h)).map (fun x => x.length)).sum ≤ 1440 * p.length := by
    rw [List.map_map]
    exact sum_le fun h hh => hand_len (ok.2.2 h hh).1 (ok.2.2 h hh).2
  have := ok.2.1
  rw [e, List.length_map] at h0
  show (Str.join (" || " : Str) (p.map fun h => J (htok h))).length ≤ 6000
  omega
/-- show_program -/
theorem ev_show {n : Nat} {p : Pg} (ok : p.ok) (hn : 12 ≤ n) (st : Sto) : run n .show_program [p.d] st = .ok (.str p.text) st := by
  obtain ⟨m, rfl⟩ : ∃ m, n = m + 2 := ⟨n - 2, by omega⟩
  show mFun 2 (B_show_program (run (m + 1))) [p.d] st = _
  unfold B_show_program Pg.d
  have c : compL (gSlot 1) tYesM (eCall 1 (run (m + 1) .hand_text) (aCons (eVar 1) aNil)) [some (.tup (p.map fun h => .tup (ds h))), none] (p.map fun h => .tup (ds h)) st = .ok ((p.map fun h => J (htok h)).map D.str) st := by
    rw [List.map_map]
    refine comp_of fun h hh => ?_
    have q := ok.2.2 h hh
    have e : run (m + 1) .hand_text [.tup (ds h)] st = .ok (.str (J (htok h))) st := ev_hand q.1 q.2 (fun s hs st => ev_st (oks_iff.mp q.1 s hs) (by have := cnts_mem hs; omega) (by omega) st) st
    simp [ite_at, e]
  have z : p.length ≤ 16777216 := by have := ok.2.1; omega
  simp [-List.map_map, ite_at, sl, wipeD, c, z, text_join ok]
/-- the law's own text -/
theorem ev_text {n : Nat} {p : Pg} (ok : p.ok) (hn : 12 ≤ n) (st : Sto) : run n ._law_text [p.d] st = .ok (.str p.text) st := by
  obtain ⟨m, rfl⟩ : ∃ m, n = m + 1 := ⟨n - 1, by omega⟩
  show mFun 3 (B__law_text (run m)) [p.d] st = _
  unfold B__law_text Pg.d
  have inner : ∀ h ∈ p, eIf (tVal (eBin dNe (eVar 1) (eTup aNil))) (eM1 dJoin (eC (.str (" ; " : Str))) (eComp [2] (iTupM (eVar 1)) (gSlot 2) tYesM (eCall 1 (run m ._law_line) (aCons (eVar 2) aNil)))) (eC (.str ("-" : Str))) [some (.tup (p.map fun h => .tup (ds h))), some (.tup (ds h)), none] st = .ok (.str (J (htok h))) st := by
    intro h hh
    have q := ok.2.2 h hh
    have e := d_ne_u q.1 (by decide)
    cases h with
    | nil =>
      have e2 : J (htok []) = ("-" : Str) := by decide +kernel
      simp [e, ite_at, sl, e2]
    | cons s r =>
      have hlen := len_le_cnts (s :: r)
      have c : compL (gSlot 2) tYesM (eCall 1 (run m ._law_line) (aCons (eVar 2) aNil)) [some (.tup (p.map fun h => .tup (ds h))), some (.tup (ds (s :: r))), none] (ds (s :: r)) st = .ok (((s :: r).map fun s => J s.tok).map D.str) st := by
        conv => lhs; rw [ds_map (s :: r)]
        rw [List.map_map]
        refine comp_of fun t ht => ?_
        simp [ite_at, ev_li (n := m) (oks_iff.mp q.1 t ht) (by have := cnts_mem ht; omega) (by omega) st]
      have hs1 := sum_J q.1
      have jn : dJoin (" ; " : Str) (.lst (((s :: r).map fun s => J s.tok).map D.str)) = M.pure (.str (J (toks (s :: r)))) := by
        rw [d_join, join_semi (by simp)]
        have : (" ; " : Str).length = 3 := by decide +kernel
        rw [this, List.length_map]; omega
      have z1 : (ds (s :: r)).length ≤ 16777216 := by rw [ds_len]; omega
      have e3 : (s :: r).isEmpty = false := rfl
      rw [e3] at e
      generalize hq : s :: r = y at *
      have e4 : htok y = toks y := by rw [← hq]; rfl
      simp [-List.map_map, e, ite_at, sl, wipeD, c, z1, jn, e4]
  have c : compL (gSlot 1) tYesM (eIf (tVal (eBin dNe (eVar 1) (eTup aNil))) (eM1 dJoin (eC (.str (" ; " : Str))) (eComp [2] (iTupM (eVar 1)) (gSlot 2) tYesM (eCall 1 (run m ._law_line) (aCons (eVar 2) aNil)))) (eC (.str ("-" : Str)))) [some (.tup (p.map fun h => .tup (ds h))), none, none] (p.map fun h => .tup (ds h)) st = .ok ((p.map fun h => J (htok h)).map D.str) st := by
    rw [List.map_map]
    refine comp_of (f := fun h => D.tup (ds h)) (g := fun h => D.str (J (htok h))) fun h hh => ?_
    exact inner h hh
  have z : p.length ≤ 16777216 := by have := ok.2.1; omega
  simp [-List.map_map, -v_if, ite_at, sl, wipeD, c, z, text_join ok]
end KT.k71

/-! k71_p4: the checker takes them. -/
namespace KT.k71
open PySem PySem.Spec L2 KT TL
open PyProof.Rows hiding St
theorem i_int (i : Int) : dIsi "int" (.int i) = M.pure (.bl true) := by
  show M.bind (M.ofO (kitB "int" "int")) _ = _
  rw [show kitB "int" "int" = some true by decide +kernel]; rfl
theorem i_bool (i : Int) : dIsi "bool" (.int i) = M.pure (.bl false) := by
  show M.bind (M.ofO (kitB "int" "bool")) _ = _
  rw [show kitB "int" "bool" = some false by decide +kernel]; rfl
theorem i_str (x : Str) : dIsi "str" (.str x) = M.pure (.bl true) := by
  show M.bind (M.ofO (kitB "str" "str")) _ = _
  rw [show kitB "str" "str" = some true by decide +kernel]; rfl
theorem i_tup (x : List D) : dIsi "tuple" (.tup x) = M.pure (.bl true) := by
  show M.bind (M.ofO (kitB "tuple" "tuple")) _ = _
  rw [show kitB "tuple" "tuple" = some true by decide +kernel]; rfl
theorem i_strs (x : Str) : dIsi "tuple" (.str x) = M.pure (.bl false) := by
  show M.bind (M.ofO (kitB "str" "tuple")) _ = _
  rw [show kitB "str" "tuple" = some false by decide +kernel]; rfl
theorem ev_int {n : Nat} (hn : 1 ≤ n) (i : Int) (st : Sto) : run n .is_integer [.int i] st = .ok (.bl true) st := by
  obtain ⟨m, rfl⟩ : ∃ m, n = m + 1 := ⟨n - 1, by omega⟩
  show mFun 1 (B_is_integer (run m)) [.int i] st = _
  unfold B_is_integer
  simp [i_int, i_bool]
theorem ev_within {n : Nat} (hn : 2 ≤ n) (i a b : Int) (st : Sto) : run n .is_within [.int i, .int a, .int b] st = .ok (.bl (decide (a ≤ i ∧ i ≤ b))) st := by
  obtain ⟨m, rfl⟩ : ∃ m, n = m + 1 := ⟨n - 1, by omega⟩
  show mFun 3 (B_is_within (run m)) [.int i, .int a, .int b] st = _
  unfold B_is_within
  simp only [v_fun, v_ret, v_and, bind_at, v_call, v_acons, v_anil, v_var, pure_at, to_ok, ite_at, List.map_cons, List.map_nil]
  by_cases h : a ≤ i <;> simp [ite_at, ev_int (n := m) (by omega) i st, h]
theorem ev_word {n : Nat} (hn : 3 ≤ n) {k : Nat} (h : k < 65536) (st : Sto) : run n .is_word [.int k] st = .ok (.bl true) st := by
  obtain ⟨m, rfl⟩ : ∃ m, n = m + 1 := ⟨n - 1, by omega⟩
  show mFun 1 (B_is_word (run m)) [.int k] st = _
  unfold B_is_word
  have e := ev_within (n := m) (by omega) k 0 65535 st
  rw [decide_eq_true (show (0 : Int) ≤ k ∧ (k : Int) ≤ 65535 by omega)] at e
  simp [ite_at, e]
theorem ev_varb {n : Nat} (hn : 3 ≤ n) {k : Nat} (h : k < 6) (st : Sto) : run n .is_variable [.int k] st = .ok (.bl true) st := by
  obtain ⟨m, rfl⟩ : ∃ m, n = m + 1 := ⟨n - 1, by omega⟩
  show mFun 1 (B_is_variable (run m)) [.int k] st = _
  unfold B_is_variable
  have e := ev_within (n := m) (by omega) k 0 5 st
  rw [decide_eq_true (show (0 : Int) ≤ k ∧ (k : Int) ≤ 5 by omega)] at e
  simp [ite_at, e]
theorem ch (c : Nat) : ∀ {x : Str}, x = ⟨#[c]⟩ → D.str ⟨#[c]⟩ = .str x := fun h => by rw [h]
theorem ev_pv {n : Nat} (hn : 4 ≤ n) {k : Nat} (h : k < 6) (w : Str) (st : Sto) : run n .is_part_of [.int k, .str ("v" : Str), .str w] st = .ok (.bl true) st := by
  obtain ⟨m, rfl⟩ : ∃ m, n = m + 1 := ⟨n - 1, by omega⟩
  show mFun 3 (B_is_part_of (run m)) [.int k, .str ("v" : Str), .str w] st = _
  unfold B_is_part_of
  simp [ite_at, ev_varb (n := m) (by omega) h st]
theorem ev_pw {n : Nat} (hn : 4 ≤ n) {k : Nat} (h : k < 65536) (w : Str) (st : Sto) : run n .is_part_of [.int k, .str ("w" : Str), .str w] st = .ok (.bl true) st := by
  obtain ⟨m, rfl⟩ : ∃ m, n = m + 1 := ⟨n - 1, by omega⟩
  show mFun 3 (B_is_part_of (run m)) [.int k, .str ("w" : Str), .str w] st = _
  unfold B_is_part_of
  have e : ¬ (("w" : Str) = ("v" : Str)) := by decide +kernel
  simp [ite_at, ev_word (n := m) (by omega) h st, e]
theorem ev_pm {n : Nat} (hn : 4 ≤ n) {s w : Str} {ms : List D} (hw : c_MODES.lookup w = some (.tup ms)) (h : memD false (.str s) (.tup ms) = M.pure (.bl true)) (st : Sto) : run n .is_part_of [.str s, .str ("m" : Str), .str w] st = .ok (.bl true) st := by
  obtain ⟨m, rfl⟩ : ∃ m, n = m + 1 := ⟨n - 1, by omega⟩
  show mFun 3 (B_is_part_of (run m)) [.str s, .str ("m" : Str), .str w] st = _
  unfold B_is_part_of
  have e : ¬ (("m" : Str) = ("v" : Str)) := by decide +kernel
  have e2 : ¬ (("m" : Str) = ("w" : Str)) := by decide +kernel
  simp [ite_at, e, e2, i_str, hw, h]

theorem ev_plain {n : Nat} {w kinds : Str} {ps : List D} (items : List (D × Str)) (hk : c_PARTS.lookup w = some (.str kinds)) (e1 : ps = items.map (·.1)) (e2 : signsD kinds = items.map fun q => .str q.2) (hl : items.length ≤ 100)
    (h : ∀ q ∈ items, ∀ st, run n .is_part_of [q.1, .str q.2, .str w] st = .ok (.bl true) st) (st : Sto) : run (n + 1) .is_plain_statement [.tup (.str w :: ps)] st = .ok (.bl true) st := by
  show mFun 4 (B_is_plain_statement (run n)) [.tup (.str w :: ps)] st = _
  unfold B_is_plain_statement
  subst e1
  have hz : kinds.length = items.length := by
    have := congrArg List.length e2
    unfold signsD at this
    simpa [Str.length] using this
  have dl : dLen (.str kinds) = M.pure (.int items.length) := by
    show (if kinds.length ≤ sizeLine then _ else _) = _
    rw [if_pos (by rw [sl]; omega), hz]
  have zz : (items.map (·.1)).zipWith (fun x y => D.tup [x, y]) (signsD kinds) = items.map fun q => .tup [q.1, .str q.2] := by
    rw [e2]
    clear e2 h hz dl hl hk
    induction items with
    | nil => rfl
    | cons q r ih => simp [ih]
  have c : compL (gTupD 2 (gsCons (gSlot 2) (gsCons (gSlot 3) gsNil))) tYesM (eCall 3 (run n .is_part_of) (aCons (eVar 2) (aCons (eVar 3) (aCons (eBin dIx (eVar 0) (eC (.int 0))) aNil)))) [some (.tup (.str w :: items.map (·.1))), some (.str kinds), none, none] (items.map fun q => .tup [q.1, .str q.2]) st = .ok (items.map fun _ => .bl true) st := by
    refine comp_pair (α := D × Str) (f := fun q => q.1) (g := fun q => .str q.2) (h := fun _ => .bl true) fun q hq => ?_
    simp [ite_at, h q hq st]
  have lz : items.length ≤ 16777216 := by omega
  simp [-List.map_map, ite_at, sl, hk, dl, cut_1t, zz, wipeD, c, lz, all_true]
theorem mem4 {s : Str} {l : List Str} (ms : List D) (e : ms = l.map D.str) (h : s ∈ l) : memD false (.str s) (.tup ms) = M.pure (.bl true) := by
  subst e
  have e2 : (l.map D.str).mapM sc = some (l.map V.str) := by
    clear h
    induction l with
    | nil => rfl
    | cons a l ih => rw [List.map_cons, List.mapM_cons, ih]; rfl
  have e3 : inV (.str s) (l.map V.str) = true := by
    unfold inV
    rw [List.any_eq_true]
    refine ⟨.str s, List.mem_map_of_mem h, ?_⟩
    show eqV (.str s) (.str s) = true
    simp [eqV]
  funext st
  unfold memD
  show (M.bind (itemsM (.tup (l.map D.str))) fun ds => withO (ds.mapM sc) fun vs => M.pure (D.bl (inV (.str s) vs))) st = _
  simp [e2, e3]
theorem ev_pl {n : Nat} (hn : 5 ≤ n) {w : Str} {ps : List D} (h : OkPl w ps) (st : Sto) : run n .is_plain_statement [.tup (.str w :: ps)] st = .ok (.bl true) st := by
  obtain ⟨m, rfl⟩ : ∃ m, n = m + 1 := ⟨n - 1, by omega⟩
  have v {k : Nat} (h : k < 6) (w : Str) := ev_pv (n := m) (by omega) h w
  have ww {k : Nat} (h : k < 65536) (w : Str) := ev_pw (n := m) (by omega) h w
  cases h with
  | set a k h1 h2 =>
    refine ev_plain [(.int a, ("v" : Str)), (.int k, ("w" : Str))] (kinds := ("vw" : Str)) (by rfl) rfl (by kernel_rfl) (by simp) (fun q hq st => ?_) st
    simp only [List.mem_cons, List.not_mem_nil, or_false] at hq
    rcases hq with rfl | rfl
    · exact v h1 _ st
    · exact ww h2 _ st
  | tri w a b d hw h1 h2 h3 =>
    refine ev_plain [(.int a, ("v" : Str)), (.int b, ("v" : Str)), (.int d, ("v" : Str))] (kinds := ("vvv" : Str)) ?_ rfl (by kernel_rfl) (by simp) (fun q hq st => ?_) st
    · simp only [List.mem_cons, List.not_mem_nil, or_false] at hw
      rcases hw with rfl | rfl | rfl | rfl | rfl <;> rfl
    · simp only [List.mem_cons, List.not_mem_nil, or_false] at hq
      rcases hq with rfl | rfl | rfl
      · exact v h1 _ st
      · exact v h2 _ st
      · exact v h3 _ st
  | get w a b k s hw h1 h2 h3 h4 =>
    have hm : c_MODES.lookup w = some (.tup [.str ("loose" : Str), .str ("take" : Str)]) := by
      simp only [List.mem_cons, List.not_mem_nil, or_false] at hw
      rcases hw with rfl | rfl <;> rfl
    refine ev_plain [(.int a, ("v" : Str)), (.int b, ("v" : Str)), (.int k, ("w" : Str)), (.str s, ("m" : Str))] (kinds := ("vvwm" : Str)) ?_ rfl (by kernel_rfl) (by simp) (fun q hq st => ?_) st
    · simp only [List.mem_cons, List.not_mem_nil, or_false] at hw
      rcases hw with rfl | rfl <;> rfl
    · simp only [List.mem_cons, List.not_mem_nil, or_false] at hq
      rcases hq with rfl | rfl | rfl | rfl
      · exact v h1 _ st
      · exact v h2 _ st
      · exact ww h3 _ st
      · exact ev_pm (by omega) hm (mem4 (l := [("loose" : Str), ("take" : Str)]) _ rfl h4) st
  | put a b k s h1 h2 h3 h4 =>
    refine ev_plain [(.int a, ("v" : Str)), (.int b, ("v" : Str)), (.int k, ("w" : Str)), (.str s, ("m" : Str))] (kinds := ("vvwm" : Str)) (by rfl) rfl (by kernel_rfl) (by simp) (fun q hq st => ?_) st
    simp only [List.mem_cons, List.not_mem_nil, or_false] at hq
    rcases hq with rfl | rfl | rfl | rfl
    · exact v h1 _ st
    · exact v h2 _ st
    · exact ww h3 _ st
    · exact ev_pm (by omega) (ms := [.str ("loose" : Str), .str ("give" : Str)]) rfl (mem4 (l := [("loose" : Str), ("give" : Str)]) _ rfl h4) st
  | swap w a b d k s hw h1 h2 h3 h4 h5 =>
    have hm : c_MODES.lookup w = some (.tup [.str ("loose" : Str), .str ("take" : Str), .str ("give" : Str), .str ("both" : Str)]) := by
      simp only [List.mem_cons, List.not_mem_nil, or_false] at hw
      rcases hw with rfl | rfl <;> rfl
    refine ev_plain [(.int a, ("v" : Str)), (.int b, ("v" : Str)), (.int d, ("v" : Str)), (.int k, ("w" : Str)), (.str s, ("m" : Str))] (kinds := ("vvvwm" : Str)) ?_ rfl (by kernel_rfl) (by simp) (fun q hq st => ?_) st
    · simp only [List.mem_cons, List.not_mem_nil, or_false] at hw
      rcases hw with rfl | rfl <;> rfl
    · simp only [List.mem_cons, List.not_mem_nil, or_false] at hq
      rcases hq with rfl | rfl | rfl | rfl | rfl
      · exact v h1 _ st
      · exact v h2 _ st
      · exact v h3 _ st
      · exact ww h4 _ st
      · exact ev_pm (by omega) hm (mem4 (l := [("loose" : Str), ("take" : Str), ("give" : Str), ("both" : Str)]) _ rfl h5) st
  | whole => exact ev_plain [] (kinds := ("" : Str)) (by rfl) rfl (by kernel_rfl) (by simp) (fun q hq => by cases hq) st

theorem not_plain {w : Str} (hw : c_PARTS.lookup w = none) {n : Nat} (hn : 1 ≤ n) (ps : List D) (st : Sto) : run n .is_plain_statement [.tup (.str w :: ps)] st = .ok (.bl false) st := by
  obtain ⟨m, rfl⟩ : ∃ m, n = m + 1 := ⟨n - 1, by omega⟩
  show mFun 4 (B_is_plain_statement (run m)) [.tup (.str w :: ps)] st = _
  unfold B_is_plain_statement
  simp [hw]
theorem eq_lst {x : List Sm} {xs : List D} {ps : List PyData} {l : Nat} (h : oks x l) (hl : l ≤ 5) (e : toPyL xs = some ps) (q : PyData.canLayAll0 ps = true) (q2 : PyData.depthAll ps ≤ 20) : dEq (.lst (.tup (ds x) :: xs)) (.lst []) = M.pure (.bl false) := by
  unfold dEq
  have h1 : dEqB (.lst (.tup (ds x) :: xs)) (.lst []) = some false := by
    show eqGen _ _ = _
    unfold eqGen
    have e1 : toPy (.lst (.tup (ds x) :: xs)) = some (.list (.tuple (pys x) :: ps)) := by
      simp only [toPy, toPyL, pys_ok h, e, Option.map_some]
    have e2 : toPy (.lst []) = some (.list []) := rfl
    rw [e1, e2]
    show (if SeqAt.shaped (.list (.tuple (pys x) :: ps)) = true ∧ SeqAt.shaped (.list []) = true then some (PyData.eqv (.list (.tuple (pys x) :: ps)) (.list [])) else none) = _
    rw [if_pos]
    · rfl
    · refine ⟨Bool.and_eq_true_iff.mpr ⟨?_, decide_eq_true ?_⟩, by decide +kernel⟩
      · show PyData.canLayAll0 _ = true
        simp only [PyData.canLayAll0, PyData.canLay0, (lays_ok h).1, q, Bool.and_self]
      · have := (lays_ok h).2.1
        simp only [PyData.depth, PyData.depthAll]
        omega
  rw [h1]; rfl
theorem all1 : dAll (.lst [.bl true]) = M.pure (.bl true) := all_true [()]
theorem all2 : dAll (.lst [.bl true, .bl true]) = M.pure (.bl true) := all_true [(), ()]
theorem ev_bodies_if {n : Nat} (hn : 4 ≤ n) {v l : Nat} {a b : List Sm} (hv : v < 6) (ha : oks a l) (hb : oks b l) (hl : l ≤ 5) (st : Sto) :
    run n .bodies_of [Sm.d (.iff v a b)] st = .ok (.lst [.tup (ds a), .tup (ds b)]) st := by
  obtain ⟨m, rfl⟩ : ∃ m, n = m + 1 := ⟨n - 1, by omega⟩
  show mFun 3 (B_bodies_of (run m)) [Sm.d (.iff v a b)] st = _
  unfold B_bodies_of
  have e : dEq (.lst [.tup (ds a), .tup (ds b)]) (.lst []) = M.pure (.bl false) := eq_lst (ps := [.tuple (pys b)]) ha hl (by simp only [toPyL, toPy, pys_ok hb, Option.map_some]) (by simp only [PyData.canLayAll0, PyData.canLay0, (lays_ok hb).1, Bool.and_self]) (by
    have := (lays_ok hb).2.1
    simp only [PyData.depth, PyData.depthAll]
    omega)
  have c : compL (gSlot 2) tYesM (eIsi "tuple" (eVar 2)) [some (Sm.d (.iff v a b)), some (.lst [.tup (ds a), .tup (ds b)]), none] [.tup (ds a), .tup (ds b)] st = .ok [.bl true, .bl true] st :=
    comp_of (f := fun x => D.tup (ds x)) (g := fun _ => .bl true) (l := [a, b]) fun x _ => by simp [i_tup]
  have ne : ¬ (("if" : Str) = ("again" : Str)) := by decide +kernel
  simp only [Sm.d] at c ⊢
  simp [ite_at, sl, ne, ev_varb (n := m) (by omega) hv st, e, wipeD, c, all2]
theorem ev_bodies_ag {n : Nat} (hn : 4 ≤ n) {t l : Nat} {a : List Sm} (ht : t ≤ 8) (ha : oks a l) (hl : l ≤ 5) (st : Sto) :
    run n .bodies_of [Sm.d (.ag t a)] st = .ok (.lst [.tup (ds a)]) st := by
  obtain ⟨m, rfl⟩ : ∃ m, n = m + 1 := ⟨n - 1, by omega⟩
  show mFun 3 (B_bodies_of (run m)) [Sm.d (.ag t a)] st = _
  unfold B_bodies_of
  have e : dEq (.lst [.tup (ds a)]) (.lst []) = M.pure (.bl false) := eq_lst (ps := []) ha hl rfl rfl (by decide)
  have c : compL (gSlot 2) tYesM (eIsi "tuple" (eVar 2)) [some (Sm.d (.ag t a)), some (.lst [.tup (ds a)]), none] [.tup (ds a)] st = .ok [.bl true] st :=
    comp_of (f := fun x => D.tup (ds x)) (g := fun _ => .bl true) (l := [a]) fun x _ => by simp [i_tup]
  have ne : ¬ (("again" : Str) = ("if" : Str)) := by decide +kernel
  have w := ev_within (n := m) (by omega) t 0 8 st
  rw [decide_eq_true (show (0 : Int) ≤ t ∧ (t : Int) ≤ 8 by omega)] at w
  simp only [Sm.d] at c ⊢
  simp [ite_at, sl, ne, w, e, wipeD, c, all1]
/-- the loop of count_in -/
theorem loop_in {c : Fn → List D → M D} {st : Sto} {l : Int} : ∀ {ss : List Sm}, (∀ s ∈ ss, c .count_of [s.d, .int l] st = .ok (.int s.cnt) st) → ∀ (x : D) (t : Int) (a b : Option D), ∃ a' b',
    forL (gSlot 3) (sSeq (sSet 4 (eCall 2 (c .count_of) (aCons (eVar 3) (aCons (eVar 1) aNil)))) (sSeq (sIf (tVal (eBin dIsN (eVar 4) (eC .non))) (sRet (eC .non)) sNil) (sAug 2 dInc (eVar 4)))) (ds ss) [some x, some (.int l), some (.int t), a, b] st =
      .ok (.nx [some x, some (.int l), some (.int (t + cnts ss)), a', b']) st
  | [], _, x, t, a, b => ⟨a, b, by simp [ds, forL, cnts]⟩
  | s :: r, h, x, t, a, b => by
    obtain ⟨a', b', e⟩ := loop_in (ss := r) (fun y hy => h y (List.mem_cons_of_mem _ hy)) x (t + s.cnt) (some s.d) (some (.int s.cnt))
    refine ⟨a', b', ?_⟩
    have h0 := h s (List.mem_cons_self ..)
    have e5 : t + (s.cnt : Int) + (cnts r : Int) = t + ((cnts (s :: r) : Nat) : Int) := by simp only [cnts]; omega
    rw [e5] at e
    simp only [ds]
    unfold forL
    simp [ite_at, h0, isNon, e]
theorem ev_in {n : Nat} {ss : List Sm} {l : Int} {st : Sto} (h : ∀ s ∈ ss, run n .count_of [s.d, .int l] st = .ok (.int s.cnt) st) : run (n + 1) .count_in [.tup (ds ss), .int l] st = .ok (.int (cnts ss)) st := by
  show mFun 5 (B_count_in (run n)) [.tup (ds ss), .int l] st = _
  unfold B_count_in
  obtain ⟨a', b', e⟩ := loop_in h (.tup (ds ss)) 0 none none
  rw [Int.zero_add] at e
  simp [e]
theorem cnt_ok : ∀ n : Nat, (∀ (s : Sm) (l : Nat), s.ok l → 2 * (5 - l) + 6 ≤ n → ∀ st, run n .count_of [s.d, .int l] st = .ok (.int s.cnt) st) ∧
    (∀ (ss : List Sm) (l : Nat), oks ss l → l ≤ 5 → 2 * (5 - l) + 7 ≤ n → ∀ st, run n .count_in [.tup (ds ss), .int l] st = .ok (.int (cnts ss)) st)
  | 0 => ⟨fun s l ok hn st => by omega, fun ss l ok hl hn st => by omega⟩
  | n + 1 => by
    obtain ⟨i1, i2⟩ := cnt_ok n
    refine ⟨fun s l ok hn st => ?_, fun ss l ok hl hn st => ?_⟩
    · show mFun 6 (B_count_of (run n)) [s.d, .int l] st = _
      unfold B_count_of
      have hl : l ≤ 4 := by cases s <;> simp only [Sm.ok] at ok <;> exact ok.1
      have hl2 : ¬ ((4 : Int) < (l : Int)) := by omega
      cases s with
      | pl w ps =>
        simp only [Sm.ok] at ok
        have e := ev_pl (n := n) (by omega) ok.2 st
        simp only [Sm.d, Sm.cnt]
        have z : ¬ ((ps.length : Int) + 1 = 0) := by omega
        simp [ite_at, hl2, i_tup, i_str, e, z]
      | iff v a b =>
        simp only [Sm.ok] at ok
        have np := not_plain (w := ("if" : Str)) (by rfl) (n := n) (by omega) [.int v, .tup (ds a), .tup (ds b)] st
        have bo := ev_bodies_if (n := n) (by omega) ok.2.1 ok.2.2.1 ok.2.2.2 (by omega) st
        have ea := i2 a (l + 1) ok.2.2.1 (by omega) (by omega) st
        have eb := i2 b (l + 1) ok.2.2.2 (by omega) (by omega) st
        simp only [Sm.d] at bo
        simp only [Sm.d, Sm.cnt]
        rw [show ((l + 1 : Nat) : Int) = (l : Int) + 1 by omega] at ea eb
        simp [ite_at, hl2, i_tup, i_str, np, bo, isNon, forL, ea, eb]
      | ag t a =>
        simp only [Sm.ok] at ok
        have np := not_plain (w := ("again" : Str)) (by rfl) (n := n) (by omega) [.int t, .tup (ds a)] st
        have bo := ev_bodies_ag (n := n) (by omega) ok.2.1 ok.2.2 (by omega) st
        have ea := i2 a (l + 1) ok.2.2 (by omega) (by omega) st
        simp only [Sm.d] at bo
        simp only [Sm.d, Sm.cnt]
        rw [show ((l + 1 : Nat) : Int) = (l : Int) + 1 by omega] at ea
        simp [ite_at, hl2, i_tup, i_str, np, bo, isNon, forL, ea]
    · exact ev_in fun s hs => i1 s l (oks_iff.mp ok s hs) (by omega) st
theorem ev_isa_hand {n : Nat} (hn : 17 ≤ n) {h : List Sm} (ok : oks h 1) (hc : cnts h ≤ 24) (st : Sto) : run n .is_a_hand [.tup (ds h)] st = .ok (.bl true) st := by
  obtain ⟨m, rfl⟩ : ∃ m, n = m + 1 := ⟨n - 1, by omega⟩
  show mFun 2 (B_is_a_hand (run m)) [.tup (ds h)] st = _
  unfold B_is_a_hand
  have e := (cnt_ok m).2 h 1 ok (by omega) (by omega) st
  rw [show ((1 : Nat) : Int) = 1 by rfl] at e
  have z : (cnts h : Int) ≤ 24 := by omega
  simp [ite_at, i_tup, e, isNon, z]
theorem ev_isa {n : Nat} (hn : 18 ≤ n) {p : Pg} (ok : p.ok) (st : Sto) : run n .is_a_program [p.d] st = .ok (.bl true) st := by
  obtain ⟨m, rfl⟩ : ∃ m, n = m + 1 := ⟨n - 1, by omega⟩
  show mFun 2 (B_is_a_program (run m)) [p.d] st = _
  unfold B_is_a_program Pg.d
  have c : compL (gSlot 1) tYesM (eCall 1 (run m .is_a_hand) (aCons (eVar 1) aNil)) [some (.tup (p.map fun h => .tup (ds h))), none] (p.map fun h => .tup (ds h)) st = .ok (p.map fun _ => .bl true) st := by
    refine comp_of fun h hh => ?_
    simp [ite_at, ev_isa_hand (n := m) (by omega) (ok.2.2 h hh).1 (ok.2.2 h hh).2 st]
  have z : p.length ≤ 16777216 := by have := ok.2.1; omega
  have z1 : (1 : Int) ≤ p.length := by
    have := List.length_pos_iff.mpr ok.1
    omega
  have z2 : (p.length : Int) ≤ 4 := by have := ok.2.1; omega
  simp [-List.map_map, ite_at, sl, wipeD, c, z, z1, z2, i_tup, all_true]
end KT.k71

/-! k71_p5: the parser reads them back: words. -/
namespace KT.k71
open PySem PySem.Spec L2 KT TL
open PyProof.Rows hiding St
theorem sign_mem {n c : Nat} (h : c ∈ numL n) : signD true (.str ⟨#[c]⟩) c_FIGURES = M.pure (.bl false) := by
  have hd := numL_digits n c h
  have e : ∀ c : Nat, 48 ≤ c → c ≤ 57 → c ∈ ("0123456789" : Str).cps.toList := by
    intro c h1 h2
    have e0 : ("0123456789" : Str).cps.toList = [48, 49, 50, 51, 52, 53, 54, 55, 56, 57] := by decide +kernel
    rw [e0]
    simp only [List.mem_cons, List.not_mem_nil, or_false]
    omega
  have e2 := e c hd.1 hd.2
  show (M.pure (D.bl (!decide (c ∈ ("0123456789" : Str).cps.toList))) : M D) = _
  rw [decide_eq_true e2]; rfl
theorem any_false {α : Type} (l : List α) : dAny (.lst (l.map fun _ => .bl false)) = M.pure (.bl false) := by
  have e : (l.map fun _ => D.bl false).mapM asBl = some (l.map fun _ => false) := by
    induction l with
    | nil => rfl
    | cons a l ih => rw [List.map_cons, List.mapM_cons, ih]; rfl
  funext st
  unfold dAny
  simp [e]
theorem num_tl (n : Nat) : (num n).cps.toList = numL n := tl_num n
theorem num_size (n : Nat) (h : n < 65536) : 1 ≤ (num n).length ∧ (num n).length ≤ 5 := by
  have e : (num n).length = (numL n).length := by rw [len_tl]; exact congrArg List.length (tl_num n)
  rw [e]
  exact ⟨List.length_pos_iff.mpr (numL_ne n), numL_len (k := 5) (by decide) (by omega)⟩
theorem head_num : ∀ n : Nat, 0 < n → ∃ c r, numL n = c :: r ∧ c ≠ 48 := by
  intro n
  induction n using Nat.strongRecOn with
  | _ n ih =>
    intro h
    by_cases h1 : n < 10
    · exact ⟨48 + n, [], numL_lt h1, by omega⟩
    · obtain ⟨c, r, e, hc⟩ := ih (n / 10) (by omega) (by omega)
      exact ⟨c, r ++ [48 + n % 10], by rw [numL_step (by omega), e]; rfl, hc⟩
theorem ev_item_num {n : Nat} (hn : 1 ≤ n) {k : Nat} (h : k < 65536) (st : Sto) : run n .item_in [.str (num k)] st = .ok (.int k) st := by
  obtain ⟨m, rfl⟩ : ∃ m, n = m + 1 := ⟨n - 1, by omega⟩
  show mFun 2 (B_item_in (run m)) [.str (num k)] st = _
  unfold B_item_in
  have hz := num_size k h
  have dl : dLen (.str (num k)) = M.pure (.int (num k).length) := by
    show (if (num k).length ≤ sizeLine then _ else _) = _
    rw [if_pos (by rw [sl]; omega)]
  have e1 : (1 : Int) ≤ (num k).length := by omega
  have e2 : ((num k).length : Int) ≤ 31 := by omega
  have sg : signsD (num k) = (numL k).map fun c => .str ⟨#[c]⟩ := by
    unfold signsD
    rw [num_tl]
  have c : compL (gSlot 1) tYesM (eBin (signD true) (eVar 1) (eC c_FIGURES)) [some (.str (num k)), none] ((numL k).map fun c => .str ⟨#[c]⟩) st = .ok ((numL k).map fun _ => .bl false) st := by
    refine comp_of fun x hx => ?_
    simp [sign_mem hx]
  have lz : (numL k).length ≤ 16777216 := by
    have e : (num k).length = (numL k).length := by rw [len_tl]; exact congrArg List.length (tl_num k)
    omega
  have it : dIntOf (.str (num k)) = M.pure (.int k) := by
    show withO (PySem.intText? (num k)) _ = _
    rw [show PySem.intText? (num k) = some (k : Int) from int_num (n := k) (by
      have e : (num k).length = (numL k).length := by rw [len_tl]; exact congrArg List.length (tl_num k)
      omega)]
    show (if (num k).length ≤ 640 then _ else _) = _
    rw [if_pos (by omega)]
  obtain ⟨c0, r0, hh⟩ : ∃ c r, numL k = c :: r := by
    cases q : numL k with
    | nil => exact absurd q (numL_ne k)
    | cons c r => exact ⟨c, r, rfl⟩
  have ix : dIx (.str (num k)) (.int 0) = M.pure (.str ⟨#[c0]⟩) := by
    show (if (num k).length ≤ sizeLine then _ else _) = _
    rw [if_pos (by rw [sl]; omega), num_tl, hh, atI_0]
    funext st
    simp
  have tst : (decide ((⟨#[c0]⟩ : Str) = ("0" : Str)) && !decide (num k = ("0" : Str))) = false := by
    by_cases hk : k = 0
    · subst hk
      have : num 0 = ("0" : Str) := by decide +kernel
      rw [this]; simp
    · obtain ⟨c1, r1, e3, hc⟩ := head_num k (by omega)
      rw [hh] at e3
      injection e3 with e4 _
      have : ¬ ((⟨#[c0]⟩ : Str) = ("0" : Str)) := by
        intro e
        have e6 : ("0" : Str) = ⟨#[48]⟩ := by decide +kernel
        rw [e6] at e
        injection e with e
        injection e with e
        injection e with e
        omega
      rw [decide_eq_false this]; rfl
  rw [Bool.and_eq_false_iff] at tst
  rcases tst with t | t
  · simp only [decide_eq_false_iff_not] at t
    simp [-List.map_map, ite_at, sl, dl, e1, e2, sg, wipeD, c, any_false, lz, ix, t, it]
  · simp only [Bool.not_eq_false', decide_eq_true_eq] at t
    have ne0 : dNe (.str (num k)) (.str ("0" : Str)) = M.pure (.bl false) := by rw [d_ne_s, decide_eq_true t]; rfl
    have eq0 : ∃ b, dEq (.str ⟨#[c0]⟩) (.str ("0" : Str)) = M.pure (.bl b) := ⟨_, d_eq_s _ _⟩
    obtain ⟨b, eq0⟩ := eq0
    cases b <;> simp [-List.map_map, -d_eq_s, -d_ne_s, ite_at, sl, dl, e1, e2, sg, wipeD, c, any_false, lz, ix, eq0, ne0, it]
theorem ev_item_way {n : Nat} (hn : 1 ≤ n) {s : Str} (h : s ∈ [("loose" : Str), ("take" : Str), ("give" : Str), ("both" : Str)]) (st : Sto) : run n .item_in [.str s] st = .ok (.str s) st := by
  obtain ⟨m, rfl⟩ : ∃ m, n = m + 1 := ⟨n - 1, by omega⟩
  show mFun 2 (B_item_in (run m)) [.str s] st = _
  unfold B_item_in
  have one : ∀ x ∈ [("loose" : Str), ("take" : Str), ("give" : Str), ("both" : Str)], 1 ≤ x.length ∧ x.length ≤ 31 ∧ x.cps.toList ≠ [] ∧ ∀ c ∈ x.cps.toList, c ∉ ("0123456789" : Str).cps.toList := by decide +kernel
  obtain ⟨h1, h2, h3, h4⟩ := one s h
  have dl : dLen (.str s) = M.pure (.int s.length) := by
    show (if s.length ≤ sizeLine then _ else _) = _
    rw [if_pos (by rw [sl]; omega)]
  have e1 : (1 : Int) ≤ s.length := by omega
  have e2 : (s.length : Int) ≤ 31 := by omega
  have c : compL (gSlot 1) tYesM (eBin (signD true) (eVar 1) (eC c_FIGURES)) [some (.str s), none] (s.cps.toList.map fun c => .str ⟨#[c]⟩) st = .ok (s.cps.toList.map fun _ => .bl true) st := by
    refine comp_of fun x hx => ?_
    have e : signD true (.str ⟨#[x]⟩) c_FIGURES = M.pure (.bl true) := by
      show (M.pure (D.bl (!decide (x ∈ ("0123456789" : Str).cps.toList))) : M D) = _
      rw [decide_eq_false (h4 x hx)]; rfl
    simp [e]
  have at1 : ∀ {l : List Nat}, l ≠ [] → dAny (.lst (l.map fun _ => .bl true)) = M.pure (.bl true) := by
    intro l hl
    have e : (l.map fun _ => D.bl true).mapM asBl = some (l.map fun _ => true) := by
      clear hl
      induction l with
      | nil => rfl
      | cons a l ih => rw [List.map_cons, List.mapM_cons, ih]; rfl
    cases l with
    | nil => exact absurd rfl hl
    | cons a l =>
      funext st
      unfold dAny
      simp only [list_l, bind_at, pure_at, to_ok, e, withO_some]
      simp
  have lz : s.cps.toList.length ≤ 16777216 := by
    have := len_tl s
    show (tl s).length ≤ _
    omega
  have lz2 : s.cps.size ≤ 16777216 := by
    show s.length ≤ _
    omega
  have q := at1 h3
  simp [-List.map_map, ite_at, sl, dl, e1, e2, signsD, wipeD, c, lz, lz2, q]
theorem ev_item {n : Nat} (hn : 1 ≤ n) {p : D} (h : Part p) (st : Sto) : run n .item_in [.str (wd p)] st = .ok p st := by
  cases h with
  | num k hk => exact ev_item_num hn hk st
  | way s hs => exact ev_item_way hn hs st
theorem ev_plst {n : Nat} (hn : 2 ≤ n) {w : Str} {ps : List D} (hl : ps.length ≤ 5) (h : ∀ p ∈ ps, Part p) (st : Sto) : run n .plain_statement [.lst ((w :: ps.map wd).map D.str)] st = .ok (.tup (.str w :: ps)) st := by
  obtain ⟨m, rfl⟩ : ∃ m, n = m + 1 := ⟨n - 1, by omega⟩
  show mFun 2 (B_plain_statement (run m)) [.lst ((w :: ps.map wd).map D.str)] st = _
  unfold B_plain_statement
  have c : compL (gSlot 1) tYesM (eCall 1 (run m .item_in) (aCons (eVar 1) aNil)) [some (.lst (.str w :: (ps.map wd).map D.str)), none] ((ps.map wd).map D.str) st = .ok ps st := by
    have e0 : ps = ps.map id := by simp
    conv => rhs; rw [e0]
    rw [List.map_map]
    refine comp_of (f := D.str ∘ wd) (g := id) fun p hp => ?_
    simp [ite_at, ev_item (n := m) (by omega) (h p hp) st]
  have z : ps.length ≤ 16777216 := by omega
  have z2 : 1 + ps.length ≤ sizeLine := by rw [sl]; omega
  have ad : dAdd (.tup [.str w]) (.tup ps) = M.pure (.tup (.str w :: ps)) := d_add_t (a := [.str w]) z2
  simp only [List.map_cons]
  simp [-List.map_map, ite_at, sl, cut_1l, wipeD, c, z, ad]
/-- where a plain statement ends -/
def Stop (post : List Str) : Prop := post = [] ∨ ∃ x r, post = x :: r ∧ (x = (";" : Str) ∨ x = ("}" : Str))
def plainW (w : Str) : Prop := w ≠ (";" : Str) ∧ w ≠ ("{" : Str) ∧ w ≠ ("}" : Str)
instance (w : Str) : Decidable (plainW w) := by unfold plainW; infer_instance
theorem atI_mid {α : Type} (pre : List α) (x : α) (post : List α) : atI (pre ++ x :: post) (pre.length : Int) = some x := by
  rw [atI_nat, List.getElem?_append_right (Nat.le_refl _), Nat.sub_self]; rfl
theorem mem3 (w : Str) : memD true (.str w) (.tup [.str (";" : Str), .str ("{" : Str), .str ("}" : Str)]) = M.pure (.bl (decide (plainW w))) := by
  have e3 : inV (.str w) [.str (";" : Str), .str ("{" : Str), .str ("}" : Str)] = !decide (plainW w) := by
    unfold inV plainW
    simp only [List.any_cons, List.any_nil, Bool.or_false]
    have q : ∀ x : Str, eqV (.str x) (.str w) = decide (w = x) := fun x => by
      by_cases h : w = x
      · subst h; simp [eqV]
      · rw [decide_eq_false h]
        have h2 : ¬ x = w := fun e => h e.symm
        simp [eqV, h2]
    rw [q, q, q]
    by_cases a : w = (";" : Str) <;> by_cases b : w = ("{" : Str) <;> by_cases c : w = ("}" : Str) <;> simp [a, b, c]
  funext st
  unfold memD
  show (M.bind (itemsM (.tup [.str (";" : Str), .str ("{" : Str), .str ("}" : Str)])) fun ds => withO (ds.mapM sc) fun vs => M.pure (D.bl (!inV (.str w) vs))) st = _
  have e2 : [D.str (";" : Str), D.str ("{" : Str), D.str ("}" : Str)].mapM sc = some [.str (";" : Str), .str ("{" : Str), .str ("}" : Str)] := rfl
  simp only [items_t, bind_at, pure_at, to_ok, e2, withO_some, e3, Bool.not_not]
theorem scan {st : Sto} {post : List Str} (hp : Stop post) : ∀ {mid pre : List Str} {fu : Nat}, (∀ x ∈ mid, plainW x) → mid.length < fu →
    whL (tAndM (tVal (eBin dLt (eVar 1) (eFn (f1 dLen) (aCons (eVar 0) aNil)))) (tVal (eBin (memD true) (eBin dIx (eVar 0) (eVar 1)) (eTup (aCons (eC (.str (";" : Str))) (aCons (eC (.str ("{" : Str))) (aCons (eC (.str ("}" : Str))) aNil))))))) (sAug 1 dInc (eC (.int 1))) fu [some (.lst ((pre ++ (mid ++ post)).map D.str)), some (.int pre.length)] st
      = .ok (.nx [some (.lst ((pre ++ (mid ++ post)).map D.str)), some (.int (pre.length + mid.length : Nat))]) st
  | [], pre, 0, _, h => by simp at h
  | [], pre, fu + 1, _, _ => by
    unfold whL
    rcases hp with rfl | ⟨x, r, rfl, hx⟩
    · simp [ite_at]
    · have lt : (pre.length : Int) < ((pre ++ ([] ++ x :: r)).map D.str).length := by simp; omega
      have ix : atI ((pre ++ ([] ++ x :: r)).map D.str) (pre.length : Int) = some (.str x) := by
        have := atI_mid (pre.map D.str) (.str x) (r.map D.str)
        rw [List.length_map] at this
        simpa using this
      have np : decide (plainW x) = false := by
        refine decide_eq_false fun h => ?_
        rcases hx with rfl | rfl
        · exact h.1 rfl
        · exact h.2.2 rfl
      generalize hW : (pre ++ ([] ++ x :: r)).map D.str = W at *
      simp only [v_tand, v_val, v_bin, v_var, v_fn, v_acons, v_anil, v_f1, v_tup, v_c, bind_at, List.getElem?_cons_zero, List.getElem?_cons_succ, Option.getD_some, ofO_some, pure_at, to_ok, d_len_l, d_lt_i, asB_bl, decide_eq_true lt, if_true, d_ix_l, ix, List.length_cons, List.length_nil, ite_at, mem3, np]
      simp [sl, mem3, np]
  | x :: mid, pre, 0, _, h => by simp at h
  | x :: mid, pre, fu + 1, hm, hf => by
    have ih := scan (st := st) hp (mid := mid) (pre := pre ++ [x]) (fu := fu) (fun y hy => hm y (List.mem_cons_of_mem _ hy)) (by simp at hf; omega)
    have eW : pre ++ [x] ++ (mid ++ post) = pre ++ (x :: mid ++ post) := by simp
    rw [eW] at ih
    have eL : ((pre ++ [x]).length : Int) = (pre.length : Int) + 1 := by simp
    rw [eL] at ih
    have lt : (pre.length : Int) < ((pre ++ (x :: mid ++ post)).map D.str).length := by simp; omega
    have ix : atI ((pre ++ (x :: mid ++ post)).map D.str) (pre.length : Int) = some (.str x) := by
      have := atI_mid (pre.map D.str) (.str x) ((mid ++ post).map D.str)
      rw [List.length_map] at this
      simpa using this
    have np : decide (plainW x) = true := decide_eq_true (hm x (List.mem_cons_self ..))
    have e4 : ((pre ++ [x]).length + mid.length : Nat) = pre.length + (x :: mid).length := by simp; omega
    rw [e4] at ih
    generalize hW : (pre ++ (x :: mid ++ post)).map D.str = W at *
    unfold whL
    simp only [v_tand, v_val, v_bin, v_var, v_fn, v_acons, v_anil, v_f1, v_tup, v_c, bind_at, List.getElem?_cons_zero, List.getElem?_cons_succ, Option.getD_some, ofO_some, pure_at, to_ok, d_len_l, d_lt_i, asB_bl, decide_eq_true lt, if_true, d_ix_l, ix, List.length_cons, List.length_nil, ite_at]
    simp [sl, mem3, np, ih]
end KT.k71

/-! k71_p6: the parser's stack of blocks. -/
namespace KT.k71
open PySem PySem.Spec L2 KT TL
open PyProof.Rows hiding St
structure F where
  p : Nat
  d : Nat
  s : Nat
  nm : Str
  nu : D
  dn : List D
  sm : List D
def locs (fs : List F) : List Nat := fs.flatMap fun f => [f.p, f.d, f.s]
def ptrs (fs : List F) : List D := fs.map fun f => .loc f.p
structure FrOk (st : Sto) (f : F) : Prop where
  hp : st[f.p]? = some (.lst [.str f.nm, f.nu, .loc f.d, .loc f.s])
  hd : st[f.d]? = some (.lst f.dn)
  hs : st[f.s]? = some (.lst f.sm)
structure Stk (st : Sto) (b : Nat) (fs : List F) : Prop where
  hb : st[b]? = some (.lst (ptrs fs))
  hf : ∀ f ∈ fs, FrOk st f
  nd : (b :: locs fs).Nodup
theorem lt_of_some {st : Sto} {i : Nat} {o : Ob} (h : st[i]? = some o) : i < st.length := (List.getElem?_eq_some_iff.mp h).1
theorem mem_locs {fs : List F} {j : Nat} : j ∈ locs fs ↔ ∃ f ∈ fs, j = f.p ∨ j = f.d ∨ j = f.s := by
  unfold locs
  simp only [List.mem_flatMap, List.mem_cons, List.not_mem_nil, or_false]
theorem locs_app (fs gs : List F) : locs (fs ++ gs) = locs fs ++ locs gs := by simp [locs]
theorem locs_one (f : F) : locs [f] = [f.p, f.d, f.s] := rfl
theorem ptrs_app (fs gs : List F) : ptrs (fs ++ gs) = ptrs fs ++ ptrs gs := by simp [ptrs]
theorem ptrs_one (f : F) : ptrs [f] = [.loc f.p] := rfl
theorem ptrs_len (fs : List F) : (ptrs fs).length = fs.length := by simp [ptrs]
theorem Stk.lt {st : Sto} {b : Nat} {fs : List F} (h : Stk st b fs) : ∀ j ∈ b :: locs fs, j < st.length := fun j hj => by
  rcases List.mem_cons.mp hj with rfl | hj
  · exact lt_of_some h.hb
  · obtain ⟨f, hf, e⟩ := mem_locs.mp hj
    have q := h.hf f hf
    rcases e with rfl | rfl | rfl
    · exact lt_of_some q.hp
    · exact lt_of_some q.hd
    · exact lt_of_some q.hs
structure Sep (b : Nat) (fs : List F) (f : F) : Prop where
  bl : b ∉ locs fs
  nl : (locs fs).Nodup
  bp : b ≠ f.p
  bd : b ≠ f.d
  bs : b ≠ f.s
  pd : f.p ≠ f.d
  ps : f.p ≠ f.s
  ds : f.d ≠ f.s
  pl : f.p ∉ locs fs
  dl : f.d ∉ locs fs
  sl : f.s ∉ locs fs
theorem sep_iff {b : Nat} {fs : List F} {f : F} : (b :: locs (fs ++ [f])).Nodup ↔ Sep b fs f := by
  rw [locs_app, locs_one]
  simp only [List.nodup_cons, List.mem_append, List.mem_cons, List.not_mem_nil, or_false, List.nodup_append, not_or, not_false_eq_true, List.nodup_nil, and_true]
  constructor
  · rintro ⟨⟨h1, h2, h3, h4⟩, h5, ⟨⟨h6, h7⟩, h8⟩, h9⟩
    exact ⟨h1, h5, h2, h3, h4, h6, h7, h8, fun z => h9 _ z _ (.inl rfl) rfl, fun z => h9 _ z _ (.inr (.inl rfl)) rfl, fun z => h9 _ z _ (.inr (.inr rfl)) rfl⟩
  · rintro ⟨h1, h5, h2, h3, h4, h6, h7, h8, a, c, d⟩
    refine ⟨⟨h1, h2, h3, h4⟩, h5, ⟨⟨h6, h7⟩, h8⟩, fun x hx y hy e => ?_⟩
    subst e
    rcases hy with rfl | rfl | rfl
    · exact a hx
    · exact c hx
    · exact d hx
/-- the top frame is another one, the rest stands -/
theorem Stk.upd {st st' : Sto} {b : Nat} {fs : List F} {f f' : F} (h : Stk st b (fs ++ [f])) (hb : st'[b]? = some (.lst (ptrs (fs ++ [f'])))) (hf : FrOk st' f') (hk : ∀ j ∈ locs fs, st'[j]? = st[j]?) (nd : Sep b fs f') : Stk st' b (fs ++ [f']) := by
  refine ⟨hb, fun g hg => ?_, sep_iff.mpr nd⟩
  rcases List.mem_append.mp hg with hg | hg
  · have q := h.hf g (List.mem_append_left _ hg)
    have m1 : g.p ∈ locs fs := mem_locs.mpr ⟨g, hg, .inl rfl⟩
    have m2 : g.d ∈ locs fs := mem_locs.mpr ⟨g, hg, .inr (.inl rfl)⟩
    have m3 : g.s ∈ locs fs := mem_locs.mpr ⟨g, hg, .inr (.inr rfl)⟩
    exact ⟨by rw [hk _ m1]; exact q.hp, by rw [hk _ m2]; exact q.hd, by rw [hk _ m3]; exact q.hs⟩
  · rw [List.mem_singleton.mp hg]; exact hf
theorem set_ne {st : Sto} {i j : Nat} {o : Ob} (h : i ≠ j) : (st.set i o)[j]? = st[j]? := List.getElem?_set_ne h
theorem set_eq {st : Sto} {i : Nat} {o : Ob} (h : i < st.length) : (st.set i o)[i]? = some o := by
  rw [List.getElem?_set_self h]
theorem app_lt {st : Sto} {i : Nat} {l : Sto} (h : i < st.length) : (st ++ l)[i]? = st[i]? := List.getElem?_append_left h
/-- one more statement for the block on top -/
theorem Stk.app {st : Sto} {b : Nat} {fs : List F} {f : F} (h : Stk st b (fs ++ [f])) (x : D) : Stk (st.set f.s (.lst (f.sm ++ [x]))) b (fs ++ [{ f with sm := f.sm ++ [x] }]) := by
  have q := h.hf f (List.mem_append_right _ (List.mem_singleton.mpr rfl))
  have s := sep_iff.mp h.nd
  refine h.upd (f' := { f with sm := f.sm ++ [x] }) ?_ ⟨?_, ?_, ?_⟩ (fun j hj => ?_) ⟨s.bl, s.nl, s.bp, s.bd, s.bs, s.pd, s.ps, s.ds, s.pl, s.dl, s.sl⟩
  · rw [set_ne s.bs.symm, h.hb, ptrs_app, ptrs_app]; rfl
  · rw [set_ne s.ps.symm]; exact q.hp
  · rw [set_ne s.ds.symm]; exact q.hd
  · exact set_eq (lt_of_some q.hs)
  · exact set_ne fun e => s.sl (e ▸ hj)
/-- a new block -/
theorem Stk.push {st : Sto} {b : Nat} {fs : List F} (h : Stk st b fs) (nm : Str) (nu : D) :
    Stk ((st ++ [Ob.lst []] ++ [Ob.lst []] ++ [Ob.lst [D.str nm, nu, .loc st.length, .loc (st.length + 1)]]).set b (.lst (ptrs fs ++ [D.loc (st.length + 2)]))) b (fs ++ [⟨st.length + 2, st.length, st.length + 1, nm, nu, [], []⟩]) := by
  have lt := h.lt
  have hbl : b < st.length := lt b (List.mem_cons_self ..)
  have hl : ∀ j ∈ locs fs, j < st.length := fun j hj => lt j (List.mem_cons_of_mem _ hj)
  have nd := List.nodup_cons.mp h.nd
  have g0 : ∀ {j : Nat}, j < st.length → b ≠ j → ((st ++ [Ob.lst []] ++ [Ob.lst []] ++ [Ob.lst [D.str nm, nu, .loc st.length, .loc (st.length + 1)]]).set b (.lst (ptrs fs ++ [D.loc (st.length + 2)])))[j]? = st[j]? := fun {j} hj hne => by
    rw [set_ne hne, List.append_assoc, List.append_assoc, app_lt hj]
  refine ⟨?_, fun g hg => ?_, sep_iff.mpr ⟨nd.1, nd.2, ?_, ?_, ?_, ?_, ?_, ?_, ?_, ?_, ?_⟩⟩
  · rw [set_eq (by simp; omega), ptrs_app]; rfl
  · rcases List.mem_append.mp hg with hg | hg
    · have q := h.hf g hg
      have m1 : g.p ∈ locs fs := mem_locs.mpr ⟨g, hg, .inl rfl⟩
      have m2 : g.d ∈ locs fs := mem_locs.mpr ⟨g, hg, .inr (.inl rfl)⟩
      have m3 : g.s ∈ locs fs := mem_locs.mpr ⟨g, hg, .inr (.inr rfl)⟩
      exact ⟨by rw [g0 (hl _ m1) fun e => nd.1 (e ▸ m1)]; exact q.hp, by rw [g0 (hl _ m2) fun e => nd.1 (e ▸ m2)]; exact q.hd, by rw [g0 (hl _ m3) fun e => nd.1 (e ▸ m3)]; exact q.hs⟩
    · rw [List.mem_singleton.mp hg]
      refine ⟨?_, ?_, ?_⟩
      · show (_ : Sto)[st.length + 2]? = _
        rw [set_ne (by omega), List.getElem?_append_right (by simp)]
        simp
      · show (_ : Sto)[st.length]? = _
        rw [set_ne (by omega), List.append_assoc, List.append_assoc, List.getElem?_append_right (by simp)]
        simp
      · show (_ : Sto)[st.length + 1]? = _
        rw [set_ne (by omega), List.append_assoc, List.getElem?_append_right (by simp)]
        simp
  · show b ≠ st.length + 2; omega
  · show b ≠ st.length; omega
  · show b ≠ st.length + 1; omega
  · show st.length + 2 ≠ st.length; omega
  · show st.length + 2 ≠ st.length + 1; omega
  · show st.length ≠ st.length + 1; omega
  · intro z; have := hl _ z; first | (simp at this; done) | (simp at this; omega)
  · intro z; have := hl _ z; first | (simp at this; done) | (simp at this; omega)
  · intro z; have := hl _ z; first | (simp at this; done) | (simp at this; omega)
/-- the first block of an if is done -/
theorem Stk.half {st : Sto} {b : Nat} {fs : List F} {f : F} (h : Stk st b (fs ++ [f])) (x : D) :
    Stk (((st.set f.d (.lst (f.dn ++ [x]))) ++ [Ob.lst []] ++ [Ob.lst [D.str f.nm, f.nu, .loc f.d, .loc st.length]]).set b (.lst (ptrs fs ++ [D.loc (st.length + 1)]))) b (fs ++ [⟨st.length + 1, f.d, st.length, f.nm, f.nu, f.dn ++ [x], []⟩]) := by
  have q := h.hf f (List.mem_append_right _ (List.mem_singleton.mpr rfl))
  have s := sep_iff.mp h.nd
  have lt := h.lt
  have hbl : b < st.length := lt b (List.mem_cons_self ..)
  have hl : ∀ j ∈ locs fs, j < st.length := fun j hj => lt j (List.mem_cons_of_mem _ (by rw [locs_app]; exact List.mem_append_left _ hj))
  have hd := lt_of_some q.hd
  refine h.upd ?_ ⟨?_, ?_, ?_⟩ (fun j hj => ?_) ⟨s.bl, s.nl, ?_, s.bd, ?_, ?_, ?_, ?_, ?_, s.dl, ?_⟩
  · rw [set_eq (by simp; omega), ptrs_app]; rfl
  · show (_ : Sto)[st.length + 1]? = _
    rw [set_ne (by omega), List.getElem?_append_right (by simp)]
    simp
  · show (_ : Sto)[f.d]? = _
    rw [set_ne s.bd, List.append_assoc, app_lt (by simpa using hd), set_eq hd]
  · show (_ : Sto)[st.length]? = _
    rw [set_ne (by omega), List.append_assoc, List.getElem?_append_right (by simp)]
    simp
  · have n1 : b ≠ j := fun e => s.bl (e ▸ hj)
    have n2 : f.d ≠ j := fun e => s.dl (e ▸ hj)
    rw [set_ne n1, List.append_assoc, app_lt (by simpa using hl j hj), set_ne n2]
  · show b ≠ st.length + 1; omega
  · show b ≠ st.length; omega
  · show st.length + 1 ≠ f.d; omega
  · show st.length + 1 ≠ st.length; omega
  · show f.d ≠ st.length; omega
  · intro z; have := hl _ z; first | (simp at this; done) | (simp at this; omega)
  · intro z; have := hl _ z; first | (simp at this; done) | (simp at this; omega)
/-- a block is done -/
theorem Stk.close {st : Sto} {b : Nat} {fs : List F} {g f : F} (h : Stk st b (fs ++ [g] ++ [f])) (x y : D) :
    Stk (((st.set f.d (.lst (f.dn ++ [x]))).set b (.lst (ptrs (fs ++ [g])))).set g.s (.lst (g.sm ++ [y]))) b (fs ++ [{ g with sm := g.sm ++ [y] }]) := by
  have q := h.hf f (List.mem_append_right _ (List.mem_singleton.mpr rfl))
  have qg := h.hf g (List.mem_append_left _ (List.mem_append_right _ (List.mem_singleton.mpr rfl)))
  have s := sep_iff.mp h.nd
  have s2 : Sep b fs g := sep_iff.mp (List.nodup_cons.mpr ⟨s.bl, s.nl⟩)
  have dg : f.d ∉ locs [g] := fun z => s.dl (by rw [locs_app]; exact List.mem_append_right _ z)
  have df : f.d ∉ locs fs := fun z => s.dl (by rw [locs_app]; exact List.mem_append_left _ z)
  rw [locs_one] at dg
  simp only [List.mem_cons, List.not_mem_nil, or_false, not_or] at dg
  have hb := lt_of_some h.hb
  have hs := lt_of_some qg.hs
  refine ⟨?_, fun k hk => ?_, sep_iff.mpr ⟨s2.bl, s2.nl, s2.bp, s2.bd, s2.bs, s2.pd, s2.ps, s2.ds, s2.pl, s2.dl, s2.sl⟩⟩
  · rw [set_ne s2.bs.symm, set_eq (by simpa using hb), ptrs_app, ptrs_app]; rfl
  · rcases List.mem_append.mp hk with hk | hk
    · have m : ∀ j ∈ locs fs, (((st.set f.d (.lst (f.dn ++ [x]))).set b (.lst (ptrs (fs ++ [g])))).set g.s (.lst (g.sm ++ [y])))[j]? = st[j]? := fun j hj => by
        have n1 : g.s ≠ j := fun e => s2.sl (e ▸ hj)
        have n2 : b ≠ j := fun e => s2.bl (e ▸ hj)
        have n3 : f.d ≠ j := fun e => df (e ▸ hj)
        rw [set_ne n1, set_ne n2, set_ne n3]
      have qk := h.hf k (List.mem_append_left _ (List.mem_append_left _ hk))
      exact ⟨by rw [m _ (mem_locs.mpr ⟨k, hk, .inl rfl⟩)]; exact qk.hp, by rw [m _ (mem_locs.mpr ⟨k, hk, .inr (.inl rfl)⟩)]; exact qk.hd, by rw [m _ (mem_locs.mpr ⟨k, hk, .inr (.inr rfl)⟩)]; exact qk.hs⟩
    · rw [List.mem_singleton.mp hk]
      refine ⟨?_, ?_, ?_⟩
      · show (_ : Sto)[g.p]? = _
        rw [set_ne s2.ps.symm, set_ne s2.bp, set_ne dg.1]; exact qg.hp
      · show (_ : Sto)[g.d]? = _
        rw [set_ne s2.ds.symm, set_ne s2.bd, set_ne dg.2.1]; exact qg.hd
      · show (_ : Sto)[g.s]? = _
        exact set_eq (by simpa using hs)
end KT.k71

/-! k71_p7: the parser reads them back. -/
namespace KT.k71
open PySem PySem.Spec L2 KT TL
open PyProof.Rows hiding St
theorem len_new (a b c : Ob) (st : Sto) : (st ++ [a] ++ [b] ++ [c] : Sto).length = st.length + 3 := by simp
theorem ev_opened {n : Nat} (hn : 2 ≤ n) {w : Str} {k : Nat} (hk : k < 65536) {st : Sto} {b : Nat} {fs : List F} (h : Stk st b fs) (hl : fs.length ≤ 4) :
    run n .opened [.loc b, .lst [.str w, .str (num k), .str ("{" : Str)]] st = .ok (.bl true) ((st ++ [Ob.lst []] ++ [Ob.lst []] ++ [Ob.lst [D.str w, D.int k, D.loc st.length, D.loc (st.length + 1)]]).set b (.lst (ptrs fs ++ [D.loc (st.length + 2)]))) := by
  obtain ⟨m, rfl⟩ : ∃ m, n = m + 1 := ⟨n - 1, by omega⟩
  show mFun 2 (B_opened (run m)) [.loc b, .lst [.str w, .str (num k), .str ("{" : Str)]] st = _
  unfold B_opened
  have g1 := get_at h.hb
  have hb := lt_of_some h.hb
  have g2 : mGet b (st ++ [Ob.lst []] ++ [Ob.lst []] ++ [Ob.lst [D.str w, D.int k, D.loc st.length, D.loc (st.length + 1)]]) = .ok (ptrs fs) (st ++ [Ob.lst []] ++ [Ob.lst []] ++ [Ob.lst [D.str w, D.int k, D.loc st.length, D.loc (st.length + 1)]]) := get_at (by rw [List.append_assoc, List.append_assoc, app_lt hb]; exact h.hb)
  have e1 : ¬ ((4 : Int) < (fs.length : Int)) := by omega
  have l1 : (st ++ [Ob.lst []] : Sto).length = st.length + 1 := by simp
  have l2 : (st ++ [Ob.lst []] ++ [Ob.lst []] : Sto).length = st.length + 2 := by simp
  have z : fs.length < 16777216 := by omega
  simp [-List.append_assoc, -List.length_append, ite_at, sl, g1, ptrs_len, e1, ev_item_num (n := m) (by omega) hk, l1, l2, appM, g2, z, putM]
theorem atI_last {α : Type} (xs : List α) (x : α) : atI (xs ++ [x]) (-1) = some x := by
  unfold atI ixN
  rw [if_neg (by decide), if_pos (by simp; omega)]
  show (xs ++ [x])[(-1 + ((xs ++ [x]).length : Int)).toNat]? = _
  have e : (-1 + ((xs ++ [x]).length : Int)).toNat = xs.length := by simp; omega
  rw [e, List.getElem?_append_right (Nat.le_refl _), Nat.sub_self]; rfl
theorem ixN_last {α : Type} (xs : List α) (x : α) : ixN (xs ++ [x]).length (-1) = some xs.length := by
  unfold ixN
  rw [if_neg (by decide), if_pos (by simp; omega)]
  have e : (-1 + ((xs ++ [x]).length : Int)).toNat = xs.length := by simp; omega
  rw [e]
theorem set_last {α : Type} (xs : List α) (x y : α) : (xs ++ [x]).set xs.length y = xs ++ [y] := by
  rw [List.set_append_right _ _ (Nat.le_refl _), Nat.sub_self]; rfl
/-- the first block of an if -/
theorem ev_half {n : Nat} (hn : 1 ≤ n) {st : Sto} {b : Nat} {fs : List F} {f : F} (h : Stk st b (fs ++ [f])) (h1 : f.nm = ("if" : Str)) (h2 : f.dn = []) (h3 : fs ≠ []) (hl : fs.length ≤ 10) (hz : f.sm.length ≤ 1000) :
    run n .closed [.loc b, .str ("{" : Str)] st = .ok (.int 2) (((st.set f.d (.lst (f.dn ++ [D.tup f.sm]))) ++ [Ob.lst []] ++ [Ob.lst [D.str f.nm, f.nu, .loc f.d, .loc st.length]]).set b (.lst (ptrs fs ++ [D.loc (st.length + 1)]))) := by
  obtain ⟨m, rfl⟩ : ∃ m, n = m + 1 := ⟨n - 1, by omega⟩
  show mFun 6 (B_closed (run m)) [.loc b, .str ("{" : Str)] st = _
  unfold B_closed
  have q := h.hf f (List.mem_append_right _ (List.mem_singleton.mpr rfl))
  have s := sep_iff.mp h.nd
  have hbl := lt_of_some h.hb
  have hd := lt_of_some q.hd
  have g1 := get_at h.hb
  have e1 : ¬ ((ptrs (fs ++ [f])).length = 1) := by
    rw [ptrs_len, List.length_append]
    have := List.length_pos_iff.mpr h3
    simp; omega
  have e1' : decide (((ptrs (fs ++ [f])).length : Int) = 1) = false := decide_eq_false (by omega)
  have ix : atI (ptrs (fs ++ [f])) (-1) = some (.loc f.p) := by rw [ptrs_app, ptrs_one]; exact atI_last _ _
  have g2 := get_at q.hp
  have g3 := get_at q.hs
  have g4 := get_at q.hd
  have g5 : mGet f.d (st.set f.d (.lst [.tup f.sm])) = .ok [.tup f.sm] (st.set f.d (.lst [.tup f.sm])) := get_at (set_eq hd)
  generalize hT : (st.set f.d (.lst [.tup f.sm])) = T at *
  have lT : T.length = st.length := by rw [← hT]; simp
  have l1 : (T ++ [Ob.lst []] : Sto).length = st.length + 1 := by simp [lT]
  have g6 : mGet b (T ++ [Ob.lst []] ++ [Ob.lst [D.str f.nm, f.nu, .loc f.d, .loc st.length]]) = .ok (ptrs (fs ++ [f])) (T ++ [Ob.lst []] ++ [Ob.lst [D.str f.nm, f.nu, .loc f.d, .loc st.length]]) := by
    refine get_at ?_
    rw [List.append_assoc, app_lt (by omega), ← hT, set_ne s.bd.symm]
    exact h.hb
  have ixn : ixN (ptrs (fs ++ [f])).length (-1) = some fs.length := by
    rw [ptrs_app, ptrs_one]
    have := ixN_last (ptrs fs) (.loc f.p)
    rw [ptrs_len] at this
    exact this
  have sl2 : (ptrs (fs ++ [f])).set fs.length (.loc (st.length + 1)) = ptrs fs ++ [.loc (st.length + 1)] := by
    rw [ptrs_app, ptrs_one]
    have := set_last (ptrs fs) (.loc f.p) (.loc (st.length + 1))
    rw [ptrs_len] at this
    exact this
  have g7 := set_at (d := .loc (st.length + 1)) g6 ixn
  rw [sl2] at g7
  rw [h1] at g2 g7
  rw [h2] at g4
  simp only [h1, h2, List.nil_append]
  rw [hT]
  simp [-List.append_assoc, -List.length_append, ite_at, sl, g1, e1', ix, g2, g3, g4, appM, putM, hT, g5, lT, l1, g7]
/-- a block is done -/
theorem ev_close {n : Nat} (hn : 1 ≤ n) {st : Sto} {b : Nat} {fs : List F} {g f : F} (h : Stk st b (fs ++ [g] ++ [f])) (h1 : f.nm ≠ ("if" : Str) ∨ f.dn.length = 1) (h2 : f.dn.length ≤ 1) (hl : fs.length ≤ 10) (hz : f.sm.length ≤ 1000) (hz2 : g.sm.length ≤ 1000) (w : Str) :
    run n .closed [.loc b, .str w] st = .ok (.int 1) (((st.set f.d (.lst (f.dn ++ [D.tup f.sm]))).set b (.lst (ptrs (fs ++ [g])))).set g.s (.lst (g.sm ++ [.tup ([D.str f.nm, f.nu] ++ (f.dn ++ [D.tup f.sm]))]))) := by
  obtain ⟨m, rfl⟩ : ∃ m, n = m + 1 := ⟨n - 1, by omega⟩
  show mFun 6 (B_closed (run m)) [.loc b, .str w] st = _
  unfold B_closed
  have q := h.hf f (List.mem_append_right _ (List.mem_singleton.mpr rfl))
  have qg := h.hf g (List.mem_append_left _ (List.mem_append_right _ (List.mem_singleton.mpr rfl)))
  have s := sep_iff.mp h.nd
  have s2 : Sep b fs g := sep_iff.mp (List.nodup_cons.mpr ⟨s.bl, s.nl⟩)
  have dg : f.d ∉ locs [g] := fun z => s.dl (by rw [locs_app]; exact List.mem_append_right _ z)
  rw [locs_one] at dg
  simp only [List.mem_cons, List.not_mem_nil, or_false, not_or] at dg
  have hbl := lt_of_some h.hb
  have hd := lt_of_some q.hd
  have g1 := get_at h.hb
  have e1 : decide (((ptrs (fs ++ [g] ++ [f])).length : Int) = 1) = false := decide_eq_false (by rw [ptrs_len]; simp; omega)
  have ix : atI (ptrs (fs ++ [g] ++ [f])) (-1) = some (.loc f.p) := by rw [ptrs_app, ptrs_one]; exact atI_last _ _
  have ix2 : atI (ptrs (fs ++ [g])) (-1) = some (.loc g.p) := by rw [ptrs_app, ptrs_one]; exact atI_last _ _
  have lst : (ptrs (fs ++ [g] ++ [f]))[(ptrs (fs ++ [g] ++ [f])).length - 1]? = some (.loc f.p) := by
    rw [ptrs_app, ptrs_one, List.length_append]
    show (ptrs (fs ++ [g]) ++ [D.loc f.p])[(ptrs (fs ++ [g])).length + 1 - 1]? = _
    rw [Nat.add_sub_cancel, List.getElem?_append_right (Nat.le_refl _), Nat.sub_self]; rfl
  have dl : (ptrs (fs ++ [g] ++ [f])).dropLast = ptrs (fs ++ [g]) := by rw [ptrs_app, ptrs_one, List.dropLast_concat]
  have g2 := get_at q.hp
  have g3 := get_at q.hs
  have g4 := get_at q.hd
  have z1 : f.dn.length < 16777216 := by omega
  have z1' : f.dn.length + 1 ≤ 16777216 := by omega
  have z2 : g.sm.length < 16777216 := by omega
  generalize hT : (st.set f.d (.lst (f.dn ++ [D.tup f.sm]))) = T at *
  have lT : T.length = st.length := by rw [← hT]; simp
  have g5 : mGet f.d T = .ok (f.dn ++ [D.tup f.sm]) T := get_at (by rw [← hT]; exact set_eq hd)
  have g6 : mGet b T = .ok (ptrs (fs ++ [g] ++ [f])) T := get_at (by rw [← hT, set_ne s.bd.symm]; exact h.hb)
  generalize hU : T.set b (.lst (ptrs (fs ++ [g]))) = U at *
  have g7 : mGet b U = .ok (ptrs (fs ++ [g])) U := get_at (by rw [← hU]; exact set_eq (by omega))
  have g8 : mGet g.p U = .ok [.str g.nm, g.nu, .loc g.d, .loc g.s] U := get_at (by rw [← hU, set_ne s2.bp, ← hT, set_ne dg.1]; exact qg.hp)
  have g9 : mGet f.d U = .ok (f.dn ++ [D.tup f.sm]) U := get_at (by rw [← hU, set_ne s.bd, ← hT]; exact set_eq hd)
  have g10 : mGet g.s U = .ok g.sm U := get_at (by rw [← hU, set_ne s2.bs, ← hT, set_ne dg.2.2]; exact qg.hs)
  have tst : (decide (f.nm = ("if" : Str)) && decide (((f.dn ++ [D.tup f.sm]).length : Int) = 1)) = false := by
    rcases h1 with h1 | h1
    · rw [decide_eq_false h1]; rfl
    · rw [Bool.and_eq_false_iff]; exact .inr (decide_eq_false (by rw [List.length_append, h1]; simp))
  have ad : dAdd (.tup [.str f.nm, f.nu]) (.tup (f.dn ++ [D.tup f.sm])) = M.pure (.tup ([D.str f.nm, f.nu] ++ (f.dn ++ [D.tup f.sm]))) := d_add_t (by rw [sl, List.length_append]; simp; omega)
  have eqn : ∀ b, decide (f.nm = ("if" : Str)) = b → dEq (.str f.nm) (.str ("if" : Str)) = M.pure (.bl b) := fun b e => by rw [d_eq_s, e]
  have eqm : ∀ b, decide (((f.dn ++ [D.tup f.sm]).length : Int) = 1) = b → dEq (.int (f.dn ++ [D.tup f.sm]).length) (.int 1) = M.pure (.bl b) := fun b e => by rw [d_eq_i, e]
  generalize hb1 : decide (f.nm = ("if" : Str)) = b1 at *
  generalize hb2 : decide (((f.dn ++ [D.tup f.sm]).length : Int) = 1) = b2 at *
  have q1 := eqn b1 rfl
  have q2 := eqm b2 rfl
  generalize hdn : f.dn ++ [D.tup f.sm] = dn' at *
  generalize hrec : [D.str f.nm, f.nu] ++ dn' = rec at *
  cases b1 <;> cases b2 <;> first
    | (exfalso; revert tst; decide)
    | simp [-List.append_assoc, -List.length_append, -d_eq_s, ite_at, sl, g1, e1, ix, g2, g3, g4, appM, putM, popM, hT, g5, g6, lst, dl, hU, g7, ix2, g8, g9, g10, q1, q2, ad, z1, z2, hdn]

/-! ### the loop -/
def LC : TM := (tVal (eBin dLt (eVar 3) (eFn (f1 dLen) (aCons (eVar 1) aNil))))
def LB (c : Fn → List D → M D) : SM := (sSeq (sSet 4 (eBin dIx (eVar 1) (eVar 3)))
  (sSeq (sSet 5 (eC (.int 1)))
  (sSeq (sIf (tVal (eBin dEq (eVar 4) (eC (.str ("}" : Str))))) (sSet 5 (eCall 2 (c .closed) (aCons (eVar 2) (aCons (eIf (tVal (eBin dLt (eBin dAdd (eVar 3) (eC (.int 1))) (eFn (f1 dLen) (aCons (eVar 1) aNil)))) (eBin dIx (eVar 1) (eBin dAdd (eVar 3) (eC (.int 1)))) (eC (.str ("" : Str)))) aNil)))) (sIf (tVal (eBin (memD false) (eVar 4) (eTup (aCons (eC (.str ("if" : Str))) (aCons (eC (.str ("again" : Str))) aNil))))) (sSet 5 (eIf (tVal (eCall 2 (c .opened) (aCons (eVar 2) (aCons (eSl (eVar 1) (oSome (eVar 3)) (oSome (eBin dAdd (eVar 3) (eC (.int 3)))) dSlL) aNil)))) (eC (.int 3)) (eC .non))) (sIf (tVal (eBin dNe (eVar 4) (eC (.str (";" : Str))))) (sSeq (sSet 6 (eCall 2 (c .behind_statement) (aCons (eVar 1) (aCons (eBin dAdd (eVar 3) (eC (.int 1))) aNil))))
  (sSeq (sSet 5 (eBin dSub (eVar 6) (eVar 3)))
  (sExpr (eAppend (eBin dIx (eBin dIx (eVar 2) (eUn dNeg (eC (.int 1)))) (eC (.int 3))) (eCall 1 (c .plain_statement) (aCons (eSl (eVar 1) (oSome (eVar 3)) (oSome (eVar 6)) dSlL) aNil)))))) sNil)))
  (sSeq (sIf (tVal (eBin dIsN (eVar 5) (eC .non))) (sRet (eC .non)) sNil)
  (sAug 3 dInc (eVar 5))))))
theorem hand_in_eq (c : Fn → List D → M D) : B_hand_in c =
  (sSeq (sIf (tVal (eBin dEq (eVar 0) (eC (.str ("-" : Str))))) (sRet (eTup aNil)) sNil)
  (sSeq (sSet 1 (eM1 dSplit (eVar 0) (eC (.str (" " : Str)))))
  (sSeq (sSet 2 (eNew (aCons (eNew (aCons (eC (.str ("" : Str))) (aCons (eC (.int 0)) (aCons (eNew aNil) (aCons (eNew aNil) aNil))))) aNil)))
  (sSeq (sSet 3 (eC (.int 0)))
  (sSeq (sWhile 100000 LC (LB c))
  (sRet (eIf (tVal (eBin dEq (eFn (f1 dLen) (aCons (eVar 2) aNil)) (eC (.int 1)))) (eFn (f1 dTupOf) (aCons (eBin dIx (eBin dIx (eVar 2) (eC (.int 0))) (eC (.int 3))) aNil)) (eC .non)))))))) := rfl
/-- the names' values in the loop -/
def Ev (txt : Str) (W : List Str) (b at_ : Nat) (x y z : Option D) : En := [some (.str txt), some (.lst (W.map D.str)), some (.loc b), some (.int at_), x, y, z]
def Steps (c : Fn → List D → M D) (k : Nat) (ρ : En) (st : Sto) (ρ' : En) (st' : Sto) : Prop := ∀ fu, whL LC (LB c) (fu + k) ρ st = whL LC (LB c) fu ρ' st'
theorem Steps.trans {c : Fn → List D → M D} {j k : Nat} {ρ1 ρ2 ρ3 : En} {s1 s2 s3 : Sto} (a : Steps c j ρ1 s1 ρ2 s2) (b : Steps c k ρ2 s2 ρ3 s3) : Steps c (k + j) ρ1 s1 ρ3 s3 := fun fu => by
  rw [← Nat.add_assoc, a, b]
theorem Steps.zero {c : Fn → List D → M D} {ρ : En} {s : Sto} : Steps c 0 ρ s ρ s := fun _ => rfl
theorem LC_at {txt : Str} {W : List Str} {b at_ : Nat} {x y z : Option D} {st : Sto} : LC (Ev txt W b at_ x y z) st = .ok (decide ((at_ : Int) < W.length)) st := by
  unfold LC Ev
  simp
theorem step_of {c : Fn → List D → M D} {txt : Str} {W : List Str} {b at_ : Nat} {x y z : Option D} {st st' : Sto} {ρ' : En} (h : at_ < W.length) (e : LB c (Ev txt W b at_ x y z) st = .ok (.nx ρ') st') : Steps c 1 (Ev txt W b at_ x y z) st ρ' st' := fun fu => by
  show whL LC (LB c) (fu + 1) _ _ = _
  rw [whL]
  rw [bind_at, LC_at, to_ok, decide_eq_true (by omega), if_pos rfl, bind_at, e, to_ok]
theorem word_at {pre post : List Str} {w : Str} : atI ((pre ++ w :: post).map D.str) (pre.length : Int) = some (.str w) := by
  have := atI_mid (pre.map D.str) (.str w) (post.map D.str)
  rw [List.length_map] at this
  simpa using this
theorem mem2 (w : Str) : memD false (.str w) (.tup [.str ("if" : Str), .str ("again" : Str)]) = M.pure (.bl (decide (w = ("if" : Str) ∨ w = ("again" : Str)))) := by
  have e3 : inV (.str w) [.str ("if" : Str), .str ("again" : Str)] = decide (w = ("if" : Str) ∨ w = ("again" : Str)) := by
    unfold inV
    simp only [List.any_cons, List.any_nil, Bool.or_false]
    have q : ∀ x : Str, eqV (.str x) (.str w) = decide (w = x) := fun x => by
      by_cases h : w = x
      · subst h; simp [eqV]
      · rw [decide_eq_false h]
        have h2 : ¬ x = w := fun e => h e.symm
        simp [eqV, h2]
    rw [q, q]
    by_cases a : w = ("if" : Str) <;> by_cases b : w = ("again" : Str) <;> simp [a, b]
  funext st
  unfold memD
  show (M.bind (itemsM (.tup [.str ("if" : Str), .str ("again" : Str)])) fun ds => withO (ds.mapM sc) fun vs => M.pure (D.bl (inV (.str w) vs))) st = _
  have e2 : [D.str ("if" : Str), D.str ("again" : Str)].mapM sc = some [.str ("if" : Str), .str ("again" : Str)] := rfl
  simp only [items_t, bind_at, pure_at, to_ok, e2, withO_some, e3]
theorem cut_mid (pre mid post : List Str) : cutD ((pre ++ (mid ++ post)).map D.str) (some (pre.length : Int)) (some ((pre.length + mid.length : Nat) : Int)) = mid.map D.str := by
  unfold cutD
  rw [HT.sIx_nat, HT.sIx_nat]
  simp only [List.length_map, List.length_append, List.map_append]
  rw [Nat.min_eq_left (by omega), Nat.min_eq_left (by omega)]
  have e : pre.length + mid.length - pre.length = mid.length := by omega
  rw [e]
  have e1 : (pre.map D.str ++ (mid.map D.str ++ post.map D.str)).drop pre.length = mid.map D.str ++ post.map D.str := by
    have := List.drop_left (l₁ := pre.map D.str) (l₂ := mid.map D.str ++ post.map D.str)
    rw [List.length_map] at this
    exact this
  rw [e1]
  have := List.take_left (l₁ := mid.map D.str) (l₂ := post.map D.str)
  rw [List.length_map] at this
  exact this
theorem n1 : ¬ ((";" : Str) = ("}" : Str)) := by decide +kernel
theorem n2 : ¬ ((";" : Str) = ("if" : Str) ∨ (";" : Str) = ("again" : Str)) := by decide +kernel
theorem n3 : ¬ (("if" : Str) = ("}" : Str)) := by decide +kernel
theorem n4 : ¬ (("again" : Str) = ("}" : Str)) := by decide +kernel
/-- ; -/
theorem step_semi {c : Fn → List D → M D} {txt : Str} {pre post : List Str} {b : Nat} {x y z : Option D} {st : Sto} :
    ∃ x' y' z', Steps c 1 (Ev txt (pre ++ (";" : Str) :: post) b pre.length x y z) st (Ev txt (pre ++ (";" : Str) :: post) b (pre.length + 1) x' y' z') st := by
  refine ⟨some (.str (";" : Str)), some (.int 1), z, step_of (by simp) ?_⟩
  have w := word_at (pre := pre) (post := post) (w := (";" : Str))
  generalize hW : (pre ++ (";" : Str) :: post) = W at *
  unfold LB Ev
  simp [ite_at, w, n1, sl, mem2, n2, isNon]
theorem ev_behind {n : Nat} (hn : 1 ≤ n) {mid pre post : List Str} (hp : Stop post) (hm : ∀ x ∈ mid, plainW x) (hl : mid.length < 100000) (st : Sto) :
    run n .behind_statement [.lst ((pre ++ (mid ++ post)).map D.str), .int pre.length] st = .ok (.int (pre.length + mid.length : Nat)) st := by
  obtain ⟨m, rfl⟩ : ∃ m, n = m + 1 := ⟨n - 1, by omega⟩
  show mFun 2 (B_behind_statement (run m)) _ st = _
  unfold B_behind_statement
  have q := scan (st := st) hp (pre := pre) hm hl
  generalize (pre ++ (mid ++ post)).map D.str = W at *
  simp [q]
theorem part_plain {p : D} (h : Part p) : plainW (wd p) := by
  cases h with
  | num n hn =>
    have e : ∀ c : Nat, (c < 48 ∨ 57 < c) → num n ≠ ⟨#[c]⟩ := fun c hc e => by
      have h1 : (num n).cps.toList = [c] := by rw [e]
      rw [num_tl] at h1
      have h2 : c ∈ numL n := by rw [h1]; exact List.mem_singleton.mpr rfl
      exact numL_free hc h2
    have a1 : (";" : Str) = ⟨#[59]⟩ := by decide +kernel
    have a2 : ("{" : Str) = ⟨#[123]⟩ := by decide +kernel
    have a3 : ("}" : Str) = ⟨#[125]⟩ := by decide +kernel
    show num n ≠ _ ∧ num n ≠ _ ∧ num n ≠ _
    rw [a1, a2, a3]
    exact ⟨e 59 (by omega), e 123 (by omega), e 125 (by omega)⟩
  | way s hs =>
    have : ∀ x ∈ [("loose" : Str), ("take" : Str), ("give" : Str), ("both" : Str)], plainW x := by decide +kernel
    exact this s hs
theorem name_plain {w : Str} (h : w ∈ names) : w ≠ (";" : Str) ∧ w ≠ ("}" : Str) ∧ w ≠ ("if" : Str) ∧ w ≠ ("again" : Str) := by
  have : ∀ x ∈ names, x ≠ (";" : Str) ∧ x ≠ ("}" : Str) ∧ x ≠ ("if" : Str) ∧ x ≠ ("again" : Str) := by decide +kernel
  exact this w h
/-- a plain statement -/
theorem step_plain {n : Nat} (hn : 2 ≤ n) {w : Str} {ps : List D} (ok : OkPl w ps) {txt : Str} {pre post : List Str} (hp : Stop post) {st : Sto} {b : Nat} {fs : List F} {f : F} (h : Stk st b (fs ++ [f])) (hz : f.sm.length ≤ 1000) {x y z : Option D} :
    ∃ x' y' z', Steps (run n) 1 (Ev txt (pre ++ (w :: ps.map wd ++ post)) b pre.length x y z) st (Ev txt (pre ++ (w :: ps.map wd ++ post)) b (pre.length + (w :: ps.map wd).length) x' y' z') (st.set f.s (.lst (f.sm ++ [.tup (.str w :: ps)]))) := by
  have pp := ok.parts
  have nm := name_plain ok.name
  refine ⟨some (.str w), some (.int ((w :: ps.map wd).length : Nat)), some (.int (pre.length + (w :: ps.map wd).length : Nat)), step_of (by simp) ?_⟩
  have wa := word_at (pre := pre) (post := ps.map wd ++ post) (w := w)
  have bh := ev_behind (n := n) (by omega) (mid := ps.map wd) (pre := pre ++ [w]) hp (fun y hy => by
    obtain ⟨p, hp, rfl⟩ := List.mem_map.mp hy
    exact part_plain (pp.2 p hp)) (by rw [List.length_map]; omega) st
  rw [show pre ++ [w] ++ (ps.map wd ++ post) = pre ++ (w :: ps.map wd ++ post) by simp, show ((pre ++ [w]).length + (ps.map wd).length : Nat) = pre.length + (w :: ps.map wd).length by simp; omega, show (((pre ++ [w]).length : Nat) : Int) = (pre.length : Int) + 1 by simp] at bh
  have ct := cut_mid pre (w :: ps.map wd) post
  have pl := ev_plst (n := n) (w := w) hn pp.1 pp.2 st
  have q := h.hf f (List.mem_append_right _ (List.mem_singleton.mpr rfl))
  have g1 := get_at h.hb
  have g2 := get_at q.hp
  have g3 := get_at q.hs
  have ix : atI (ptrs (fs ++ [f])) (-1) = some (.loc f.p) := by rw [ptrs_app, ptrs_one]; exact atI_last _ _
  have z1 : f.sm.length < 16777216 := by omega
  have sb : ((pre.length + (w :: ps.map wd).length : Nat) : Int) - (pre.length : Int) = ((w :: ps.map wd).length : Nat) := by omega
  have sb2 : (pre.length : Int) + ((w :: ps.map wd).length : Nat) = ((pre.length + (w :: ps.map wd).length : Nat) : Int) := by omega
  have ni : ¬ (w = ("if" : Str) ∨ w = ("again" : Str)) := fun z => z.elim nm.2.2.1 nm.2.2.2
  rw [show w :: (ps.map wd ++ post) = w :: ps.map wd ++ post from rfl] at wa
  generalize hW : (pre ++ (w :: ps.map wd ++ post)) = W at *
  generalize hM : (w :: ps.map wd) = Mi at *
  have sl1 : dSlL (.lst (W.map D.str)) (some (pre.length : Int)) (some ((pre.length + Mi.length : Nat) : Int)) = M.pure (.lst (Mi.map D.str)) := by
    funext st
    show (M.bind (listM (.lst (W.map D.str))) fun ds => M.pure (D.lst (cutD ds (some (pre.length : Int)) (some ((pre.length + Mi.length : Nat) : Int))))) st = _
    rw [list_l, bind_at, pure_at, to_ok, ct]
  generalize hE : ((pre.length + Mi.length : Nat) : Int) = en at *
  unfold LB Ev
  simp [-List.append_assoc, ite_at, wa, nm.1, nm.2.1, sl, mem2, ni, bh, sl1, pl, g1, ix, g2, g3, appM, putM, z1, isNon, sb, sb2, hE]
end KT.k71

/-! k71_p8: whole texts are read back. -/
namespace KT.k71
open PySem PySem.Spec L2 KT TL
open PyProof.Rows hiding St
/-- word number { -/
theorem step_open {n : Nat} (hn : 2 ≤ n) {w : Str} (hw : w = ("if" : Str) ∨ w = ("again" : Str)) {k : Nat} (hk : k < 65536) {txt : Str} {pre post : List Str} {st : Sto} {b : Nat} {fs : List F} (h : Stk st b fs) (hl : fs.length ≤ 4) {x y z : Option D} :
    ∃ x' y' z' st' p d s, Steps (run n) 1 (Ev txt (pre ++ (w :: num k :: ("{" : Str) :: post)) b pre.length x y z) st (Ev txt (pre ++ (w :: num k :: ("{" : Str) :: post)) b (pre.length + 3) x' y' z') st' ∧ Stk st' b (fs ++ [⟨p, d, s, w, .int k, [], []⟩]) := by
  refine ⟨some (.str w), some (.int 3), z, _, _, _, _, step_of (by simp) ?_, h.push w (.int k)⟩
  have wa := word_at (pre := pre) (post := num k :: ("{" : Str) :: post) (w := w)
  have ct := cut_mid pre [w, num k, ("{" : Str)] post
  have op := ev_opened (n := n) hn (w := w) hk h hl
  have ne : ¬ (w = ("}" : Str)) := by
    rcases hw with rfl | rfl
    · exact n3
    · exact n4
  rw [show [w, num k, ("{" : Str)] ++ post = w :: num k :: ("{" : Str) :: post from rfl] at ct
  generalize hW : (pre ++ (w :: num k :: ("{" : Str) :: post)) = W at *
  have sl1 : dSlL (.lst (W.map D.str)) (some (pre.length : Int)) (some ((pre.length : Int) + 3)) = M.pure (.lst ([w, num k, ("{" : Str)].map D.str)) := by
    funext st
    show (M.bind (listM (.lst (W.map D.str))) fun ds => M.pure (D.lst (cutD ds (some (pre.length : Int)) (some ((pre.length : Int) + 3))))) st = _
    rw [list_l, bind_at, pure_at, to_ok, show (pre.length : Int) + 3 = ((pre.length + [w, num k, ("{" : Str)].length : Nat) : Int) by simp, ct]
  generalize hS : ((st ++ [Ob.lst []] ++ [Ob.lst []] ++ [Ob.lst [D.str w, D.int k, D.loc st.length, D.loc (st.length + 1)]]).set b (.lst (ptrs fs ++ [D.loc (st.length + 2)]))) = S at *
  unfold LB Ev
  simp [-List.append_assoc, ite_at, wa, ne, sl, mem2, hw, sl1, op, isNon]
/-- } { -/
theorem step_half {n : Nat} (hn : 1 ≤ n) {txt : Str} {pre post : List Str} {st : Sto} {b : Nat} {fs : List F} {f : F} (h : Stk st b (fs ++ [f])) (h1 : f.nm = ("if" : Str)) (h2 : f.dn = []) (h3 : fs ≠ []) (hl : fs.length ≤ 10) (hz : f.sm.length ≤ 1000) {x y z : Option D} :
    ∃ x' y' z' st' p s, Steps (run n) 1 (Ev txt (pre ++ (("}" : Str) :: ("{" : Str) :: post)) b pre.length x y z) st (Ev txt (pre ++ (("}" : Str) :: ("{" : Str) :: post)) b (pre.length + 2) x' y' z') st' ∧ Stk st' b (fs ++ [⟨p, f.d, s, f.nm, f.nu, f.dn ++ [.tup f.sm], []⟩]) := by
  refine ⟨some (.str ("}" : Str)), some (.int 2), z, _, _, _, step_of (by simp) ?_, h.half (.tup f.sm)⟩
  have wa := word_at (pre := pre) (post := ("{" : Str) :: post) (w := ("}" : Str))
  have wb := word_at (pre := pre ++ [("}" : Str)]) (post := post) (w := ("{" : Str))
  rw [show pre ++ [("}" : Str)] ++ ("{" : Str) :: post = pre ++ (("}" : Str) :: ("{" : Str) :: post) by simp, show (((pre ++ [("}" : Str)]).length : Nat) : Int) = (pre.length : Int) + 1 by simp] at wb
  have ev := ev_half (n := n) hn h h1 h2 h3 hl hz
  have lt : decide ((pre.length : Int) + 1 < ((pre ++ (("}" : Str) :: ("{" : Str) :: post)).length : Nat)) = true := decide_eq_true (by simp; omega)
  generalize hW : (pre ++ (("}" : Str) :: ("{" : Str) :: post)) = W at *
  generalize hS : (((st.set f.d (.lst (f.dn ++ [D.tup f.sm]))) ++ [Ob.lst []] ++ [Ob.lst [D.str f.nm, f.nu, .loc f.d, .loc st.length]]).set b (.lst (ptrs fs ++ [D.loc (st.length + 1)]))) = S at *
  have lt2 := of_decide_eq_true lt
  unfold LB Ev
  simp [-List.append_assoc, ite_at, wa, wb, lt2, ev, isNon]
/-- } -/
theorem step_close {n : Nat} (hn : 1 ≤ n) {txt : Str} {pre post : List Str} {st : Sto} {b : Nat} {fs : List F} {g f : F} (h : Stk st b (fs ++ [g] ++ [f])) (h1 : f.nm ≠ ("if" : Str) ∨ f.dn.length = 1) (h2 : f.dn.length ≤ 1) (hl : fs.length ≤ 10) (hz : f.sm.length ≤ 1000) (hz2 : g.sm.length ≤ 1000) {x y z : Option D} :
    ∃ x' y' z' st', Steps (run n) 1 (Ev txt (pre ++ (("}" : Str) :: post)) b pre.length x y z) st (Ev txt (pre ++ (("}" : Str) :: post)) b (pre.length + 1) x' y' z') st' ∧ Stk st' b (fs ++ [{ g with sm := g.sm ++ [.tup ([D.str f.nm, f.nu] ++ (f.dn ++ [D.tup f.sm]))] }]) := by
  refine ⟨some (.str ("}" : Str)), some (.int 1), z, _, step_of (by simp) ?_, h.close (.tup f.sm) (.tup ([D.str f.nm, f.nu] ++ (f.dn ++ [D.tup f.sm])))⟩
  have wa := word_at (pre := pre) (post := post) (w := ("}" : Str))
  have ev := fun w => ev_close (n := n) hn h h1 h2 hl hz hz2 w
  generalize hS : (((st.set f.d (.lst (f.dn ++ [D.tup f.sm]))).set b (.lst (ptrs (fs ++ [g])))).set g.s (.lst (g.sm ++ [.tup ([D.str f.nm, f.nu] ++ (f.dn ++ [D.tup f.sm]))]))) = S at *
  cases post with
  | nil =>
    have lt2 : ¬ ((pre.length : Int) + 1 < ((pre ++ [("}" : Str)]).length : Nat)) := by simp
    generalize hW : (pre ++ [("}" : Str)]) = W at *
    unfold LB Ev
    simp [-List.append_assoc, ite_at, wa, lt2, ev, isNon]
  | cons w post =>
    have wb := word_at (pre := pre ++ [("}" : Str)]) (post := post) (w := w)
    rw [show pre ++ [("}" : Str)] ++ w :: post = pre ++ (("}" : Str) :: w :: post) by simp, show (((pre ++ [("}" : Str)]).length : Nat) : Int) = (pre.length : Int) + 1 by simp] at wb
    have lt2 : (pre.length : Int) + 1 < ((pre ++ (("}" : Str) :: w :: post)).length : Nat) := by simp; omega
    generalize hW : (pre ++ (("}" : Str) :: w :: post)) = W at *
    unfold LB Ev
    simp [-List.append_assoc, ite_at, wa, wb, lt2, ev, isNon]
/-- from here to there -/
def Goes (c : Fn → List D → M D) (txt : Str) (W : List Str) (b i j : Nat) (st st' : Sto) (x y z x' y' z' : Option D) : Prop := ∃ k, k ≤ j - i ∧ i ≤ j ∧ Steps c k (Ev txt W b i x y z) st (Ev txt W b j x' y' z') st'
theorem Goes.trans {c : Fn → List D → M D} {txt : Str} {W : List Str} {b i j l : Nat} {s1 s2 s3 : Sto} {x1 y1 z1 x2 y2 z2 x3 y3 z3 : Option D} (a : Goes c txt W b i j s1 s2 x1 y1 z1 x2 y2 z2) (b' : Goes c txt W b j l s2 s3 x2 y2 z2 x3 y3 z3) : Goes c txt W b i l s1 s3 x1 y1 z1 x3 y3 z3 := by
  obtain ⟨k1, h1, h2, h3⟩ := a
  obtain ⟨k2, h4, h5, h6⟩ := b'
  exact ⟨k2 + k1, by omega, by omega, h3.trans h6⟩
mutual
theorem parse_s {n : Nat} (hn : 2 ≤ n) {txt : Str} {b : Nat} : ∀ (s : Sm) (l : Nat), s.ok l → s.cnt ≤ 100 → ∀ (W pre post : List Str), W = pre ++ (s.tok ++ post) → Stop post → ∀ (st : Sto) (fs : List F) (f : F), Stk st b (fs ++ [f]) → fs.length + 1 = l → f.sm.length ≤ 800 → ∀ x y z : Option D,
    ∃ st' x' y' z', Goes (run n) txt W b pre.length (pre.length + s.tok.length) st st' x y z x' y' z' ∧ Stk st' b (fs ++ [{ f with sm := f.sm ++ [s.d] }])
  | .pl w ps, l, ok, hc, W, pre, post, hW, hp, st, fs, f, h, hd, hz, x, y, z => by
    simp only [Sm.ok] at ok
    subst hW
    obtain ⟨x', y', z', e⟩ := step_plain (n := n) hn ok.2 (txt := txt) (pre := pre) hp h (by omega) (x := x) (y := y) (z := z)
    exact ⟨_, x', y', z', ⟨1, by simp [Sm.tok], by omega, e⟩, h.app _⟩
  | .iff v a c, l, ok, hc, W, pre, post, hW, hp, st, fs, f, h, hd, hz, x, y, z => by
    simp only [Sm.ok] at ok
    simp only [Sm.cnt] at hc
    have la := len_le_cnts a
    have lc := len_le_cnts c
    -- the head
    have e0 : W = pre ++ (("if" : Str) :: num v :: ("{" : Str) :: (toks a ++ ("}" : Str) :: ("{" : Str) :: (toks c ++ ("}" : Str) :: post))) := by rw [hW]; simp [Sm.tok]
    obtain ⟨x1, y1, z1, s1, p1, d1, q1, e1, h1⟩ := step_open (n := n) hn (.inl rfl) (k := v) (by omega) (txt := txt) (pre := pre) (post := toks a ++ ("}" : Str) :: ("{" : Str) :: (toks c ++ ("}" : Str) :: post)) h (by simp; omega) (x := x) (y := y) (z := z)
    rw [← e0] at e1
    have G1 : Goes (run n) txt W b pre.length (pre.length + 3) st s1 x y z x1 y1 z1 := ⟨1, by omega, by omega, e1⟩
    -- the first block
    have w1 : W = (pre ++ [("if" : Str), num v, ("{" : Str)]) ++ (toks a ++ (("}" : Str) :: ("{" : Str) :: (toks c ++ ("}" : Str) :: post))) := by rw [e0]; simp
    obtain ⟨s2, x2, y2, z2, G2, h2⟩ := parse_ss hn a (l + 1) ok.2.2.1 (by omega) W _ _ w1 (.inr ⟨_, _, rfl, .inr rfl⟩) s1 (fs ++ [f]) _ h1 (by simp; omega) (by show 0 + a.length ≤ 800; omega) x1 y1 z1
    rw [show (pre ++ [("if" : Str), num v, ("{" : Str)]).length = pre.length + 3 by simp] at G2
    -- } {
    have w2 : W = (pre ++ ("if" : Str) :: num v :: ("{" : Str) :: toks a) ++ (("}" : Str) :: ("{" : Str) :: (toks c ++ ("}" : Str) :: post)) := by rw [e0]; simp
    obtain ⟨x3, y3, z3, s3, p3, q3, e3, h3⟩ := step_half (n := n) (by omega) (txt := txt) (pre := pre ++ ("if" : Str) :: num v :: ("{" : Str) :: toks a) (post := toks c ++ ("}" : Str) :: post) h2 rfl rfl (by simp) (by simp; omega) (by show ([] ++ ds a).length ≤ 1000; rw [List.nil_append, ds_len]; omega) (x := x2) (y := y2) (z := z2)
    rw [← w2, show (pre ++ ("if" : Str) :: num v :: ("{" : Str) :: toks a).length = pre.length + 3 + (toks a).length by simp; omega] at e3
    have G3 : Goes (run n) txt W b (pre.length + 3 + (toks a).length) (pre.length + 3 + (toks a).length + 2) s2 s3 x2 y2 z2 x3 y3 z3 := ⟨1, by omega, by omega, e3⟩
    -- the second block
    have w3 : W = (pre ++ ("if" : Str) :: num v :: ("{" : Str) :: (toks a ++ [("}" : Str), ("{" : Str)])) ++ (toks c ++ (("}" : Str) :: post)) := by rw [e0]; simp
    obtain ⟨s4, x4, y4, z4, G4, h4⟩ := parse_ss hn c (l + 1) ok.2.2.2 (by omega) W _ _ w3 (.inr ⟨_, _, rfl, .inr rfl⟩) s3 (fs ++ [f]) _ h3 (by simp; omega) (by show 0 + c.length ≤ 800; omega) x3 y3 z3
    rw [show (pre ++ ("if" : Str) :: num v :: ("{" : Str) :: (toks a ++ [("}" : Str), ("{" : Str)])).length = pre.length + 3 + (toks a).length + 2 by simp; omega] at G4
    -- }
    have w4 : W = (pre ++ ("if" : Str) :: num v :: ("{" : Str) :: (toks a ++ ("}" : Str) :: ("{" : Str) :: toks c)) ++ (("}" : Str) :: post) := by rw [e0]; simp
    obtain ⟨x5, y5, z5, s5, e5, h5⟩ := step_close (n := n) (by omega) (txt := txt) (pre := pre ++ ("if" : Str) :: num v :: ("{" : Str) :: (toks a ++ ("}" : Str) :: ("{" : Str) :: toks c)) (post := post) h4 (.inr rfl) (by simp) (by omega) (by show ([] ++ ds c).length ≤ 1000; rw [List.nil_append, ds_len]; omega) (by omega) (x := x4) (y := y4) (z := z4)
    rw [← w4, show (pre ++ ("if" : Str) :: num v :: ("{" : Str) :: (toks a ++ ("}" : Str) :: ("{" : Str) :: toks c)).length = pre.length + 3 + (toks a).length + 2 + (toks c).length by simp; omega] at e5
    have G5 : Goes (run n) txt W b (pre.length + 3 + (toks a).length + 2 + (toks c).length) (pre.length + 3 + (toks a).length + 2 + (toks c).length + 1) s4 s5 x4 y4 z4 x5 y5 z5 := ⟨1, by omega, by omega, e5⟩
    refine ⟨s5, x5, y5, z5, ?_, ?_⟩
    · have := (((G1.trans G2).trans G3).trans G4).trans G5
      rw [show pre.length + (Sm.tok (.iff v a c)).length = pre.length + 3 + (toks a).length + 2 + (toks c).length + 1 by simp [Sm.tok]; omega]
      exact this
    · simpa [Sm.d] using h5
  | .ag t a, l, ok, hc, W, pre, post, hW, hp, st, fs, f, h, hd, hz, x, y, z => by
    simp only [Sm.ok] at ok
    simp only [Sm.cnt] at hc
    have la := len_le_cnts a
    have e0 : W = pre ++ (("again" : Str) :: num t :: ("{" : Str) :: (toks a ++ ("}" : Str) :: post)) := by rw [hW]; simp [Sm.tok]
    obtain ⟨x1, y1, z1, s1, p1, d1, q1, e1, h1⟩ := step_open (n := n) hn (.inr rfl) (k := t) (by omega) (txt := txt) (pre := pre) (post := toks a ++ ("}" : Str) :: post) h (by simp; omega) (x := x) (y := y) (z := z)
    rw [← e0] at e1
    have G1 : Goes (run n) txt W b pre.length (pre.length + 3) st s1 x y z x1 y1 z1 := ⟨1, by omega, by omega, e1⟩
    have w1 : W = (pre ++ [("again" : Str), num t, ("{" : Str)]) ++ (toks a ++ (("}" : Str) :: post)) := by rw [e0]; simp
    obtain ⟨s2, x2, y2, z2, G2, h2⟩ := parse_ss hn a (l + 1) ok.2.2 (by omega) W _ _ w1 (.inr ⟨_, _, rfl, .inr rfl⟩) s1 (fs ++ [f]) _ h1 (by simp; omega) (by show 0 + a.length ≤ 800; omega) x1 y1 z1
    rw [show (pre ++ [("again" : Str), num t, ("{" : Str)]).length = pre.length + 3 by simp] at G2
    have w4 : W = (pre ++ ("again" : Str) :: num t :: ("{" : Str) :: toks a) ++ (("}" : Str) :: post) := by rw [e0]; simp
    have ne : ("again" : Str) ≠ ("if" : Str) := by decide +kernel
    obtain ⟨x5, y5, z5, s5, e5, h5⟩ := step_close (n := n) (by omega) (txt := txt) (pre := pre ++ ("again" : Str) :: num t :: ("{" : Str) :: toks a) (post := post) h2 (.inl ne) (by simp) (by omega) (by show ([] ++ ds a).length ≤ 1000; rw [List.nil_append, ds_len]; omega) (by omega) (x := x2) (y := y2) (z := z2)
    rw [← w4, show (pre ++ ("again" : Str) :: num t :: ("{" : Str) :: toks a).length = pre.length + 3 + (toks a).length by simp; omega] at e5
    have G5 : Goes (run n) txt W b (pre.length + 3 + (toks a).length) (pre.length + 3 + (toks a).length + 1) s2 s5 x2 y2 z2 x5 y5 z5 := ⟨1, by omega, by omega, e5⟩
    refine ⟨s5, x5, y5, z5, ?_, ?_⟩
    · have := (G1.trans G2).trans G5
      rw [show pre.length + (Sm.tok (.ag t a)).length = pre.length + 3 + (toks a).length + 1 by simp [Sm.tok]; omega]
      exact this
    · simpa [Sm.d] using h5
theorem parse_ss {n : Nat} (hn : 2 ≤ n) {txt : Str} {b : Nat} : ∀ (ss : List Sm) (l : Nat), oks ss l → cnts ss ≤ 100 → ∀ (W pre post : List Str), W = pre ++ (toks ss ++ post) → Stop post → ∀ (st : Sto) (fs : List F) (f : F), Stk st b (fs ++ [f]) → fs.length + 1 = l → f.sm.length + ss.length ≤ 800 → ∀ x y z : Option D,
    ∃ st' x' y' z', Goes (run n) txt W b pre.length (pre.length + (toks ss).length) st st' x y z x' y' z' ∧ Stk st' b (fs ++ [{ f with sm := f.sm ++ ds ss }])
  | [], l, ok, hc, W, pre, post, hW, hp, st, fs, f, h, hd, hz, x, y, z => by
    refine ⟨st, x, y, z, ⟨0, by omega, by simp [toks], Steps.zero⟩, ?_⟩
    simpa [ds] using h
  | s :: r, l, ok, hc, W, pre, post, hW, hp, st, fs, f, h, hd, hz, x, y, z => by
    simp only [oks] at ok
    simp only [cnts] at hc
    cases r with
    | nil =>
      obtain ⟨s1, x1, y1, z1, G1, h1⟩ := parse_s hn s l ok.1 (by omega) W pre post hW hp st fs f h hd (by simp at hz; omega) x y z
      exact ⟨s1, x1, y1, z1, G1, by simpa [ds] using h1⟩
    | cons s' r' =>
      have e0 : W = pre ++ (s.tok ++ (";" : Str) :: (toks (s' :: r') ++ post)) := by rw [hW]; simp [toks]
      obtain ⟨s1, x1, y1, z1, G1, h1⟩ := parse_s hn s l ok.1 (by omega) W pre _ e0 (.inr ⟨_, _, rfl, .inl rfl⟩) st fs f h hd (by simp at hz; omega) x y z
      obtain ⟨x2, y2, z2, e2⟩ := step_semi (c := run n) (txt := txt) (pre := pre ++ s.tok) (post := toks (s' :: r') ++ post) (b := b) (x := x1) (y := y1) (z := z1) (st := s1)
      rw [show pre ++ s.tok ++ (";" : Str) :: (toks (s' :: r') ++ post) = W by rw [e0]; simp, List.length_append] at e2
      have G2 : Goes (run n) txt W b (pre.length + s.tok.length) (pre.length + s.tok.length + 1) s1 s1 x1 y1 z1 x2 y2 z2 := ⟨1, by omega, by omega, e2⟩
      have w3 : W = (pre ++ (s.tok ++ [(";" : Str)])) ++ (toks (s' :: r') ++ post) := by rw [e0]; simp
      obtain ⟨s3, x3, y3, z3, G3, h3⟩ := parse_ss hn (s' :: r') l ok.2 (by omega) W _ post w3 hp s1 fs _ h1 hd (by simp at hz ⊢; omega) x2 y2 z2
      rw [show (pre ++ (s.tok ++ [(";" : Str)])).length = pre.length + s.tok.length + 1 by simp; omega] at G3
      refine ⟨s3, x3, y3, z3, ?_, ?_⟩
      · have := (G1.trans G2).trans G3
        rw [show pre.length + (toks (s :: s' :: r')).length = pre.length + s.tok.length + 1 + (toks (s' :: r')).length by simp [toks]; omega]
        exact this
      · simpa [ds] using h3
end
end KT.k71

/-! k71_p9: read_program takes the texts. -/
namespace KT.k71
open PySem PySem.Spec L2 KT TL
open PyProof.Rows hiding St
/-! ### texts cut apart -/
abbrev bar : List Nat := [32, 124, 124, 32]
theorem pre_bar {l : List Nat} (h : ∀ c d r, l = c :: d :: r → d ≠ 124) : pre bar l = false := by
  cases hp : pre bar l with
  | false => rfl
  | true =>
    have e : l.take 4 = bar := eq_of_beq hp
    match l, h, e with
    | [], _, e => simp at e
    | [c], _, e => simp at e
    | c :: d :: r, h, e =>
      simp only [List.take_succ_cons] at e
      injection e with _ e
      injection e with e _
      exact absurd e (h c d r rfl)
theorem free_bar {p q : List Nat} (h : 124 ∉ p) (hq : ∀ d r, q = d :: r → d ≠ 124) : ∀ i, i < p.length → pre bar ((p ++ q).drop i) = false := fun i hi => by
  refine pre_bar fun c d r e => ?_
  have e1 : ((p ++ q).drop i)[1]? = some d := by rw [e]; rfl
  rw [List.getElem?_drop] at e1
  by_cases hl : i + 1 < p.length
  · rw [List.getElem?_append_left hl] at e1
    have hm := List.mem_of_getElem? e1
    intro z; subst z; exact h hm
  · rw [List.getElem?_append_right (by omega), show i + 1 - p.length = 0 by omega] at e1
    cases q with
    | nil => simp at e1
    | cons x r' =>
      simp at e1
      subst e1
      exact hq _ r' rfl
theorem spl_bar : ∀ {parts : List (List Nat)}, parts ≠ [] → (∀ p ∈ parts, 124 ∉ p) → spl bar 0 [] (joinL bar parts) = parts
  | [], h, _ => absurd rfl h
  | [p], _, hp => by
    show spl bar 0 [] p = [p]
    have := free_bar (q := []) (hp p (List.mem_singleton.mpr rfl)) (fun _ _ e => by cases e)
    rw [List.append_nil] at this
    rw [spl_last this, List.nil_append]
  | p :: q :: r, _, hp => by
    show spl bar 0 [] (p ++ (bar ++ joinL bar (q :: r))) = p :: q :: r
    rw [spl_part (by simp) (free_bar (hp p (List.mem_cons_self ..)) (fun d r e => by cases e; decide)), List.nil_append, spl_bar (by simp) fun z hz => hp z (List.mem_cons_of_mem _ hz)]
theorem split_bar {parts : List Str} (hne : parts ≠ []) (hp : ∀ p ∈ parts, 124 ∉ tl p) : Txt.split (Str.join (" || " : Str) parts) (" || " : Str) = parts := by
  have ey : tl (" || " : Str) = bar := by decide +kernel
  refine map_tl_inj ?_
  rw [split_spl _ _ (by rw [ey]; simp) (kind_ok (by decide +kernel)), tl_join, ey]
  refine spl_bar (fun e => hne (List.map_eq_nil_iff.mp e)) fun p h => ?_
  obtain ⟨z, hz, rfl⟩ := List.mem_map.mp h
  exact hp z hz
theorem split_sp {ts : List Str} (hne : ts ≠ []) (hp : ∀ p ∈ ts, 32 ∉ tl p) : Txt.split (J ts) (" " : Str) = ts := by
  have ey : tl (" " : Str) = 32 :: [] := by decide +kernel
  have := split_join ey (by decide +kernel) hne hp
  rw [join_eq] at this
  exact this
/-- words without blank and bar -/
def Cln (t : Str) : Prop := 32 ∉ tl t ∧ 124 ∉ tl t
instance (t : Str) : Decidable (Cln t) := by unfold Cln; infer_instance
theorem cln_num (n : Nat) : Cln (num n) := by
  unfold Cln
  rw [show tl (num n) = numL n from tl_num n]
  exact ⟨numL_free (by omega), numL_free (by omega)⟩
theorem cln_part {p : D} (h : Part p) : Cln (wd p) := by
  cases h with
  | num n hn => exact cln_num n
  | way s hs =>
    have : ∀ x ∈ [("loose" : Str), ("take" : Str), ("give" : Str), ("both" : Str)], Cln x := by decide +kernel
    exact this s hs
theorem cln_name {w : Str} (h : w ∈ names) : Cln w := by
  have : ∀ x ∈ names, Cln x := by decide +kernel
  exact this w h
theorem cln_fix : ∀ x ∈ [("if" : Str), ("again" : Str), ("{" : Str), ("}" : Str), (";" : Str), ("-" : Str)], Cln x := by decide +kernel
mutual
theorem cln_tok : ∀ {s : Sm} {l : Nat}, s.ok l → ∀ t ∈ s.tok, Cln t
  | .pl w ps, l, h, t, ht => by
    simp only [Sm.ok] at h
    simp only [Sm.tok, List.mem_cons, List.mem_map] at ht
    rcases ht with rfl | ⟨p, hp, rfl⟩
    · exact cln_name h.2.name
    · exact cln_part (h.2.parts.2 p hp)
  | .iff v a b, l, h, t, ht => by
    simp only [Sm.ok] at h
    simp only [Sm.tok, List.mem_cons, List.mem_append, List.not_mem_nil, or_false] at ht
    rcases ht with rfl | rfl | rfl | ht | rfl | rfl | ht | rfl
    · exact cln_fix _ (by simp)
    · exact cln_num v
    · exact cln_fix _ (by simp)
    · exact cln_toks h.2.2.1 t ht
    · exact cln_fix _ (by simp)
    · exact cln_fix _ (by simp)
    · exact cln_toks h.2.2.2 t ht
    · exact cln_fix _ (by simp)
  | .ag v a, l, h, t, ht => by
    simp only [Sm.ok] at h
    simp only [Sm.tok, List.mem_cons, List.mem_append, List.not_mem_nil, or_false] at ht
    rcases ht with rfl | rfl | rfl | ht | rfl
    · exact cln_fix _ (by simp)
    · exact cln_num v
    · exact cln_fix _ (by simp)
    · exact cln_toks h.2.2 t ht
    · exact cln_fix _ (by simp)
theorem cln_toks : ∀ {ss : List Sm} {l : Nat}, oks ss l → ∀ t ∈ toks ss, Cln t
  | [], l, h, t, ht => by simp [toks] at ht
  | s :: r, l, h, t, ht => by
    simp only [oks] at h
    cases r with
    | nil => exact cln_tok h.1 t ht
    | cons s' r' =>
      have e : toks (s :: s' :: r') = s.tok ++ (";" : Str) :: toks (s' :: r') := rfl
      rw [e] at ht
      rcases List.mem_append.mp ht with ht | ht
      · exact cln_tok h.1 t ht
      · rcases List.mem_cons.mp ht with rfl | ht
        · exact cln_fix _ (by simp)
        · exact cln_toks h.2 t ht
end
theorem cln_htok {h : List Sm} {l : Nat} (ok : oks h l) : ∀ t ∈ htok h, Cln t := by
  cases h with
  | nil => intro t ht; rw [show htok [] = [("-" : Str)] from rfl] at ht; rw [List.mem_singleton.mp ht]; exact cln_fix _ (by simp)
  | cons s r => exact cln_toks ok
theorem htok_ne (h : List Sm) : htok h ≠ [] := by
  cases h with
  | nil => simp [htok]
  | cons s r => exact toks_ne (by simp)
theorem first_tok : ∀ {s : Sm} {l : Nat}, s.ok l → ∃ t r, s.tok = t :: r ∧ t ≠ ("-" : Str)
  | .pl w ps, l, h => by
    simp only [Sm.ok] at h
    have : ∀ x ∈ names, x ≠ ("-" : Str) := by decide +kernel
    exact ⟨_, _, rfl, this w h.2.name⟩
  | .iff v a b, l, h => ⟨_, _, rfl, by decide +kernel⟩
  | .ag v a, l, h => ⟨_, _, rfl, by decide +kernel⟩
theorem first_toks {s : Sm} {r : List Sm} {l : Nat} (h : oks (s :: r) l) : ∃ t u, toks (s :: r) = t :: u ∧ t ≠ ("-" : Str) := by
  simp only [oks] at h
  obtain ⟨t, u, e, n⟩ := first_tok h.1
  cases r with
  | nil => exact ⟨t, u, e, n⟩
  | cons s' r' => exact ⟨t, u ++ (";" : Str) :: toks (s' :: r'), by simp [toks, e], n⟩
theorem tl_J_free {c : Nat} (hc : c ≠ 32) : ∀ {ts : List Str}, (∀ t ∈ ts, c ∉ tl t) → c ∉ tl (J ts)
  | [], _ => by show c ∉ ([] : List Nat); simp
  | [t], h => h t (List.mem_singleton.mpr rfl)
  | t :: u :: r, h => by
    have e : tl (" " : Str) = [32] := by decide +kernel
    rw [J_cons, tl_append, tl_append, e]
    simp only [List.mem_append, List.mem_singleton, not_or]
    exact ⟨⟨h t (List.mem_cons_self ..), hc⟩, tl_J_free hc fun x hx => h x (List.mem_cons_of_mem _ hx)⟩
/-! ### one hand -/
theorem stk_0 (st : Sto) : Stk (st ++ [Ob.lst []] ++ [Ob.lst []] ++ [Ob.lst [D.str ("" : Str), D.int 0, D.loc st.length, D.loc (st.length + 1)]] ++ [Ob.lst [D.loc (st.length + 2)]]) (st.length + 3) ([] ++ [⟨st.length + 2, st.length, st.length + 1, ("" : Str), .int 0, [], []⟩]) := by
  refine ⟨?_, fun f hf => ?_, ?_⟩
  · rw [List.getElem?_append_right (by simp)]
    simp [ptrs]
  · rw [List.nil_append] at hf
    rw [List.mem_singleton.mp hf]
    refine ⟨?_, ?_, ?_⟩
    · show (_ : Sto)[st.length + 2]? = _
      rw [List.getElem?_append_left (by simp), List.getElem?_append_right (by simp)]
      simp
    · show (_ : Sto)[st.length]? = _
      rw [List.append_assoc, List.append_assoc, List.append_assoc, List.getElem?_append_right (by simp)]
      simp
    · show (_ : Sto)[st.length + 1]? = _
      rw [List.append_assoc, List.append_assoc, List.getElem?_append_right (by simp)]
      simp
  · simp [locs]
theorem ev_hand_in {n : Nat} (hn : 3 ≤ n) {h : List Sm} (ok : oks h 1) (hc : cnts h ≤ 24) (st : Sto) : ∃ st', run n .hand_in [.str (J (htok h))] st = .ok (.tup (ds h)) st' := by
  obtain ⟨m, rfl⟩ : ∃ m, n = m + 1 := ⟨n - 1, by omega⟩
  show ∃ st', mFun 7 (B_hand_in (run m)) [.str (J (htok h))] st = _
  rw [hand_in_eq]
  cases h with
  | nil =>
    refine ⟨st, ?_⟩
    have e : J (htok []) = ("-" : Str) := by decide +kernel
    rw [e]
    simp [ite_at, sl, ds]
  | cons s r =>
    have e1 : htok (s :: r) = toks (s :: r) := rfl
    rw [e1]
    have cl := cln_toks ok
    have sp := split_sp (toks_ne (ss := s :: r) (by simp)) fun t ht => (cl t ht).1
    have ne : ¬ (J (toks (s :: r)) = ("-" : Str)) := by
      intro e
      obtain ⟨t, u, e2, n2⟩ := first_toks ok
      rw [e, show Txt.split ("-" : Str) (" " : Str) = [("-" : Str)] by
        have := split_sp (ts := [("-" : Str)]) (by simp) (by decide +kernel)
        exact this, e2] at sp
      injection sp with e3 _
      exact n2 e3.symm
    have h1 := J_len (toks (s :: r))
    have h2 := L_toks ok
    have hlen : (toks (s :: r)).length ≤ L (toks (s :: r)) := by simp [L]
    have hds := len_le_cnts (s :: r)
    have l1 : (" " : Str).length = 1 := by decide +kernel
    have dsp : dSplit (J (toks (s :: r))) (.str (" " : Str)) = M.pure (.lst ((toks (s :: r)).map D.str)) := by
      show (if ((" " : Str).length == 0) = false ∧ (J (toks (s :: r))).length + 2 ≤ sizeLine then _ else _) = _
      rw [if_pos ⟨by rw [l1]; decide, by rw [sl]; omega⟩, sp]
    obtain ⟨st', x', y', z', ⟨k, hk, _, hs⟩, hst⟩ := parse_ss (n := m) (by omega) (txt := J (toks (s :: r))) (s :: r) 1 ok (by omega) (toks (s :: r)) [] [] (by simp) (.inl rfl) _ [] _ (stk_0 st) rfl (by simp only [List.length_nil]; omega) none none none
    rw [List.length_nil, Nat.zero_add] at hs hk
    have wl := hs (99999 - k + 1)
    rw [show 99999 - k + 1 + k = 100000 by omega] at wl
    have fin : whL LC (LB (run m)) (99999 - k + 1) (Ev (J (toks (s :: r))) (toks (s :: r)) (st.length + 3) (toks (s :: r)).length x' y' z') st' = .ok (.nx (Ev (J (toks (s :: r))) (toks (s :: r)) (st.length + 3) (toks (s :: r)).length x' y' z')) st' := by
      rw [whL, bind_at, LC_at, to_ok, decide_eq_false (by omega), if_neg (by decide), pure_at]
    rw [fin] at wl
    have q := hst.hf _ (List.mem_append_right _ (List.mem_singleton.mpr rfl))
    have g1 := get_at hst.hb
    have g2 := get_at q.hp
    have g3 := get_at q.hs
    simp only [List.nil_append] at g1 g2 g3
    refine ⟨st', ?_⟩
    generalize hW : toks (s :: r) = W at *
    generalize hT : J W = T at *
    unfold Ev at wl
    rw [show ((0 : Nat) : Int) = (0 : Int) from rfl] at wl
    simp only [ptrs, List.map_cons, List.map_nil] at g1
    have le1 : (st ++ [Ob.lst []] : Sto).length = st.length + 1 := by simp
    have le2 : (st ++ [Ob.lst []] ++ [Ob.lst []] : Sto).length = st.length + 2 := by simp
    have le3 : (st ++ [Ob.lst []] ++ [Ob.lst []] ++ [Ob.lst [D.str ("" : Str), D.int 0, D.loc st.length, D.loc (st.length + 1)]] : Sto).length = st.length + 3 := by simp
    simp [-List.append_assoc, -List.length_append, -List.map_append, ite_at, sl, ne, dsp, le1, le2, le3, wl, g1, g2, g3]

/-! ### programs -/
theorem comp_st {α : Type} {i : Nat} {e : EM} {ρ : En} {f g : α → D} : ∀ {l : List α}, (∀ a ∈ l, ∀ st, ∃ st', e (ρ.set i (some (f a))) st = .ok (g a) st') → ∀ st, ∃ st', compL (gSlot i) tYesM e ρ (l.map f) st = .ok (l.map g) st'
  | [], _, st => ⟨st, rfl⟩
  | a :: l, h, st => by
    obtain ⟨s1, e1⟩ := h a (List.mem_cons_self ..) st
    obtain ⟨s2, e2⟩ := comp_st (l := l) (fun x hx => h x (List.mem_cons_of_mem _ hx)) s1
    refine ⟨s2, ?_⟩
    rw [List.map_cons, List.map_cons]
    unfold compL
    simp [e1, e2]
theorem ev_program_in {n : Nat} (hn : 4 ≤ n) {p : Pg} (ok : p.ok) (st : Sto) : ∃ st', run n .program_in [.str p.text] st = .ok p.d st' := by
  obtain ⟨m, rfl⟩ : ∃ m, n = m + 1 := ⟨n - 1, by omega⟩
  show ∃ st', mFun 2 (B_program_in (run m)) [.str p.text] st = _
  unfold B_program_in Pg.d
  have sp : Txt.split p.text (" || " : Str) = p.map fun h => J (htok h) := split_bar (fun e => ok.1 (List.map_eq_nil_iff.mp e)) fun x hx => by
    obtain ⟨h, hh, rfl⟩ := List.mem_map.mp hx
    exact tl_J_free (by decide) fun t ht => (cln_htok (ok.2.2 h hh).1 t ht).2
  have tlen := text_len ok
  have l1 : (" || " : Str).length = 4 := by decide +kernel
  have dsp : dSplit p.text (.str (" || " : Str)) = M.pure (.lst ((p.map fun h => J (htok h)).map D.str)) := by
    show (if ((" || " : Str).length == 0) = false ∧ p.text.length + 2 ≤ sizeLine then _ else _) = _
    rw [if_pos ⟨by rw [l1]; decide, by rw [sl]; omega⟩, sp]
  obtain ⟨st', c⟩ := comp_st (i := 1) (e := eCall 1 (run m .hand_in) (aCons (eVar 1) aNil)) (ρ := [some (.str p.text), none]) (f := fun h => D.str (J (htok h))) (g := fun h => D.tup (ds h)) (l := p) (fun h hh st => by
    obtain ⟨s1, e1⟩ := ev_hand_in (n := m) (by omega) (ok.2.2 h hh).1 (ok.2.2 h hh).2 st
    exact ⟨s1, by simp [ite_at, e1]⟩) st
  refine ⟨st', ?_⟩
  rw [show (p.map fun h => D.str (J (htok h))) = (p.map fun h => J (htok h)).map D.str by simp] at c
  have z : p.length ≤ 16777216 := by have := ok.2.1; omega
  simp [-List.map_map, ite_at, sl, dsp, wipeD, c, z]
theorem ev_read {n : Nat} (hn : 20 ≤ n) {p : Pg} (ok : p.ok) (st : Sto) : ∃ st', run n .read_program [.str p.text] st = .ok p.d st' := by
  obtain ⟨m, rfl⟩ : ∃ m, n = m + 1 := ⟨n - 1, by omega⟩
  show ∃ st', mFun 2 (B_read_program (run m)) [.str p.text] st = _
  unfold B_read_program
  obtain ⟨s1, e1⟩ := ev_program_in (n := m) (by omega) ok st
  have e2 := ev_isa (n := m) (by omega) ok s1
  have e3 := ev_show (n := m) ok (by omega) s1
  refine ⟨s1, ?_⟩
  simp [ite_at, i_str, e1, e2, e3]
/-! ### repr -/
theorem pgs_lay : ∀ {p : List (List Sm)}, (∀ h ∈ p, oks h 1 ∧ cnts h ≤ 24) → PyData.canLayAll0 (p.map fun h => .tuple (pys h)) = true ∧ PyData.depthAll (p.map fun h => .tuple (pys h)) ≤ 12 ∧ PyData.showableAll (p.map fun h => .tuple (pys h)) = true ∧ toPyL (p.map fun h => .tup (ds h)) = some (p.map fun h => .tuple (pys h))
  | [], _ => ⟨rfl, by decide, rfl, rfl⟩
  | h :: p, H => by
    have h0 := (H h (List.mem_cons_self ..)).1
    have q := lays_ok h0
    have r := pgs_lay (p := p) fun x hx => H x (List.mem_cons_of_mem _ hx)
    refine ⟨?_, ?_, ?_, ?_⟩
    · simp only [List.map_cons, PyData.canLayAll0, PyData.canLay0, q.1, r.1, Bool.and_self]
    · have := q.2.1; have := r.2.1
      simp only [List.map_cons, PyData.depthAll, PyData.depth]
      omega
    · simp only [List.map_cons, PyData.showableAll, PyData.showable, q.2.2, r.2.2.1, Bool.and_self]
    · simp only [List.map_cons, toPyL, toPy_tup h0, r.2.2.2]
end KT.k71

/-! k71_p10: repr of a program. -/
namespace KT.k71
open PySem PySem.Spec L2 KT TL
open PyProof.Rows hiding St
def Wt (ts : List Str) : Nat := (ts.map (·.length)).sum + 2 * ts.length
@[simp] theorem Wt_nil : Wt [] = 0 := rfl
@[simp] theorem Wt_cons (t : Str) (ts : List Str) : Wt (t :: ts) = t.length + 2 + Wt ts := by
  simp [Wt]; omega
theorem tt_len (ts : List Str) : (tupleText ts).length ≤ Wt ts + 3 := by
  have h := StrLaws.join_length_le (", " : Str) ts
  have e1 : ("(" : Str).length = 1 := by decide +kernel
  have e2 : (", " : Str).length = 2 := by decide +kernel
  have e3 : ∀ b : Bool, ((if b = true then ",)" else ")" : String) : Str).length ≤ 2 := by decide +kernel
  have e3 := e3 (ts.length == 1)
  unfold tupleText
  rw [Str.length_append, Str.length_append, e1]
  rw [e2] at h
  unfold Wt
  omega
theorem rp_len {w : Str} (h : w ∈ names ∨ w ∈ [("loose" : Str), ("take" : Str), ("give" : Str), ("both" : Str)]) : (PyData.shown (.str w)).length ≤ 7 := by
  have h1 : ∀ x ∈ names, (PyData.shown (.str x)).length ≤ 7 := by decide +kernel
  have h2 : ∀ x ∈ [("loose" : Str), ("take" : Str), ("give" : Str), ("both" : Str)], (PyData.shown (.str x)).length ≤ 7 := by decide +kernel
  exact h.elim (h1 w) (h2 w)
theorem rp_int {n : Nat} (h : n < 65536) : (PyData.shown (.int n)).length ≤ 5 := by
  show (num n).length ≤ 5
  exact (num_size n h).2
theorem W_parts : ∀ {ps : List D}, (∀ p ∈ ps, Part p) → Wt (PyData.shownAll (ps.map ppy)) ≤ 9 * ps.length
  | [], _ => by simp [PyData.shownAll]
  | p :: ps, h => by
    have h2 := W_parts (ps := ps) fun x hx => h x (List.mem_cons_of_mem _ hx)
    cases h p (List.mem_cons_self ..) with
    | num n hn =>
      have := rp_int hn
      simp only [List.map_cons, ppy, PyData.shownAll, Wt_cons, List.length_cons]
      omega
    | way s hs =>
      have := rp_len (.inr hs)
      simp only [List.map_cons, ppy, PyData.shownAll, Wt_cons, List.length_cons]
      omega
theorem sif : (PyData.shown (.str ("if" : Str))).length = 4 := by decide +kernel
theorem sag : (PyData.shown (.str ("again" : Str))).length = 7 := by decide +kernel
mutual
theorem sh_len : ∀ {s : Sm} {l : Nat}, s.ok l → s.py.shown.length + 2 ≤ 100 * s.cnt
  | .pl w ps, l, h => by
    simp only [Sm.ok] at h
    have h1 := h.2.parts
    have h2 := W_parts h1.2
    have h3 := rp_len (.inl h.2.name)
    have h4 := tt_len (PyData.shownAll (.str w :: ps.map ppy))
    rw [PyData.shownAll, Wt_cons] at h4
    simp only [Sm.py, PyData.shown, Sm.cnt]
    rw [PyData.shownAll]
    omega
  | .iff v a b, l, h => by
    simp only [Sm.ok] at h
    have h1 := shs_len h.2.2.1
    have h2 := shs_len h.2.2.2
    have h3 := rp_int (n := v) (by omega)
    have t1 := tt_len (PyData.shownAll (pys a))
    have t2 := tt_len (PyData.shownAll (pys b))
    have h4 := tt_len (PyData.shownAll [.str ("if" : Str), .int v, .tuple (pys a), .tuple (pys b)])
    have e1 : (PyData.shown (.tuple (pys a))) = tupleText (PyData.shownAll (pys a)) := by simp only [PyData.shown]
    have e2 : (PyData.shown (.tuple (pys b))) = tupleText (PyData.shownAll (pys b)) := by simp only [PyData.shown]
    have e3 : (Sm.py (.iff v a b)).shown = tupleText (PyData.shownAll [.str ("if" : Str), .int v, .tuple (pys a), .tuple (pys b)]) := by simp only [Sm.py, PyData.shown]
    simp only [PyData.shownAll, Wt_cons, Wt_nil, sif, e1, e2] at h4
    rw [e3]
    simp only [Sm.cnt, PyData.shownAll, e1, e2]
    omega
  | .ag t a, l, h => by
    simp only [Sm.ok] at h
    have h1 := shs_len h.2.2
    have h3 := rp_int (n := t) (by omega)
    have t1 := tt_len (PyData.shownAll (pys a))
    have h4 := tt_len (PyData.shownAll [.str ("again" : Str), .int t, .tuple (pys a)])
    have e1 : (PyData.shown (.tuple (pys a))) = tupleText (PyData.shownAll (pys a)) := by simp only [PyData.shown]
    have e3 : (Sm.py (.ag t a)).shown = tupleText (PyData.shownAll [.str ("again" : Str), .int t, .tuple (pys a)]) := by simp only [Sm.py, PyData.shown]
    simp only [PyData.shownAll, Wt_cons, Wt_nil, sag, e1] at h4
    rw [e3]
    simp only [Sm.cnt, PyData.shownAll, e1]
    omega
theorem shs_len : ∀ {ss : List Sm} {l : Nat}, oks ss l → Wt (PyData.shownAll (pys ss)) ≤ 100 * cnts ss
  | [], l, h => by simp [pys, PyData.shownAll]
  | s :: r, l, h => by
    simp only [oks] at h
    have h1 := sh_len h.1
    have h2 := shs_len h.2
    simp only [pys, PyData.shownAll, Wt_cons, cnts]
    omega
end
theorem pgs_len : ∀ {p : List (List Sm)}, (∀ h ∈ p, oks h 1 ∧ cnts h ≤ 24) → Wt (PyData.shownAll (p.map fun h => .tuple (pys h))) ≤ 2410 * p.length
  | [], _ => by simp [PyData.shownAll]
  | h :: p, H => by
    have h0 := H h (List.mem_cons_self ..)
    have h1 := shs_len h0.1
    have h2 := pgs_len (p := p) fun x hx => H x (List.mem_cons_of_mem _ hx)
    have t1 := tt_len (PyData.shownAll (pys h))
    have e1 : (PyData.shown (.tuple (pys h))) = tupleText (PyData.shownAll (pys h)) := by simp only [PyData.shown]
    simp only [List.map_cons, PyData.shownAll, Wt_cons, List.length_cons, e1]
    omega
theorem ev_repr {p : Pg} (ok : p.ok) : ∃ z, dRepr p.d = M.pure (.str z) := by
  have q := pgs_lay ok.2.2
  have e : toPy p.d = some (.tuple (p.map fun h => .tuple (pys h))) := by
    simp only [Pg.d, toPy, q.2.2.2, Option.map_some]
  refine ⟨PyData.shown (.tuple (p.map fun h => .tuple (pys h))), ?_⟩
  · unfold dRepr
    rw [e, withO_some, if_pos]
    refine ⟨Bool.and_eq_true_iff.mpr ⟨q.1, decide_eq_true ?_⟩, q.2.2.1, ?_⟩
    · have := q.2.1
      show PyData.depthAll _ + 1 ≤ 64
      omega
    · have h1 := pgs_len ok.2.2
      have h2 := tt_len (PyData.shownAll (p.map fun h => .tuple (pys h)))
      have := ok.2.1
      rw [sl]
      simp only [PyData.shown]
      omega
end KT.k71

/-! k71_p11: the law's test of one program. -/
namespace KT.k71
open PySem PySem.Spec L2 KT TL
open PyProof.Rows hiding St
theorem for_nx {g : GM} {b : SM} {d : D} {ds : List D} {ρ ρ1 ρ2 : En} {st s1 s2 : Sto} (hg : g d ρ st = .ok ρ1 s1) (hb : b ρ1 s1 = .ok (.nx ρ2) s2) : forL g b (d :: ds) ρ st = forL g b ds ρ2 s2 := by
  rw [forL, bind_at, hg, to_ok, bind_at, hb]; rfl
theorem for_rt {g : GM} {b : SM} {d v : D} {ds : List D} {ρ ρ1 : En} {st s1 s2 : Sto} (hg : g d ρ st = .ok ρ1 s1) (hb : b ρ1 s1 = .ok (.rt v) s2) : forL g b (d :: ds) ρ st = .ok (.rt v) s2 := by
  rw [forL, bind_at, hg, to_ok, bind_at, hb]; rfl
theorem d_mul_i {i j : Int} (h : mulC i j) : dMul (.int i) (.int j) = M.pure (.int (i * j)) := if_pos h
theorem mul_ok {i j : Int} (h0 : 0 ≤ i) (h : i ≤ 1000000) : mulC i j := .inl (by omega)
theorem loop_w {st : Sto} {s lo ma on mo ye no : Option D} {a b : Int} (hb : 0 ≤ b) : ∀ (is : List D) (w : Int) (tu : Option D), 0 ≤ w → w ≤ 100000 → ∃ w' tu', 0 ≤ w' ∧ w' ≤ 100000 ∧
    forL (gSlot 9) (sSet 5 (eFn (f2 dMin) (aCons (eC (.int 100000)) (aCons (eBin dMul (eVar 5) (eBin dIx (eVar 8) (eC (.int 1)))) aNil)))) is [s, lo, ma, on, mo, some (.int w), ye, no, some (.tup [.int a, .int b]), tu] st
      = .ok (.nx [s, lo, ma, on, mo, some (.int w'), ye, no, some (.tup [.int a, .int b]), tu']) st
  | [], w, tu, h0, h1 => ⟨w, tu, h0, h1, rfl⟩
  | i :: is, w, tu, h0, h1 => by
    have hm := Int.mul_nonneg h0 hb
    obtain ⟨w', tu', g0, g1, e⟩ := loop_w (st := st) (s := s) (lo := lo) (ma := ma) (on := on) (mo := mo) (ye := ye) (no := no) (a := a) hb is (if w * b < 100000 then w * b else 100000) (some i) (by split <;> omega) (by split <;> omega)
    refine ⟨w', tu', g0, g1, ?_⟩
    unfold forL
    simp [d_mul_i (mul_ok h0 (by omega : w ≤ 1000000)), e]
theorem rg_ok {n : Nat} (h : n ≤ 1000000) : -(2 ^ 62) ≤ (n : Int) ∧ (n : Int) < 2 ^ 62 := by
  have e : (2 : Int) ^ 62 = 4611686018427387904 := by rfl
  rw [e]
  omega
theorem range_of {n : Nat} (h : n ≤ 1000000) {r : AM} {ρ : En} {st st' : Sto} (hr : r ρ st = .ok [.int n] st') : iRange1 r ρ st = .ok ((List.range n).map fun i => D.int (i : Nat)) st' := by
  unfold iRange1
  rw [bind_at, hr, to_ok]
  show (withO (some (n : Int)) fun n => if -(2 ^ 62) ≤ n ∧ n < 2 ^ 62 then M.pure ((List.range n.toNat).map fun i => D.int (i : Nat)) else M.bad) st' = _
  rw [withO_some, if_pos (rg_ok h), Int.toNat_natCast, pure_at]
theorem sfor_of {m : IM} {g : GM} {b : SM} {ρ : En} {st st' : Sto} {ds : List D} (h : m ρ st = .ok ds st') : sFor m g b ρ st = forL g b ds ρ st' := by rw [v_for, bind_at, h, to_ok]
def MB (c : Fn → List D → M D) : SM := (sSeq (sAsg (eTup (aCons (eC (.int 1)) (aCons (eC (.int 1)) aNil))) (gTupD 2 (gsCons (gSlot 4) (gsCons (gSlot 5) gsNil))))
  (sSeq (sIf (tVal (eBin dEq (eBin dIx (eVar 3) (eC (.int 0))) (eC (.str ("if" : Str))))) (sSeq (sPar2 6 7 (aCons (eCall 1 (c ._law_measure) (aCons (eBin dIx (eVar 3) (eC (.int 2))) aNil)) (aCons (eCall 1 (c ._law_measure) (aCons (eBin dIx (eVar 3) (eC (.int 3))) aNil)) aNil)))
  (sPar2 4 5 (aCons (eBin dAdd (eC (.int 1)) (eFn (f2 dMax) (aCons (eBin dIx (eVar 6) (eC (.int 0))) (aCons (eBin dIx (eVar 7) (eC (.int 0))) aNil)))) (aCons (eBin dAdd (eBin dIx (eVar 6) (eC (.int 1))) (eBin dIx (eVar 7) (eC (.int 1)))) aNil)))) sNil)
  (sSeq (sIf (tVal (eBin dEq (eBin dIx (eVar 3) (eC (.int 0))) (eC (.str ("again" : Str))))) (sSeq (sSet 8 (eCall 1 (c ._law_measure) (aCons (eBin dIx (eVar 3) (eC (.int 2))) aNil)))
  (sSeq (sPar2 4 5 (aCons (eBin dMul (eBin dIx (eVar 3) (eC (.int 1))) (eBin dIx (eVar 8) (eC (.int 0)))) (aCons (eC (.int 1)) aNil)))
  (sFor (iRange1 (aCons (eBin dIx (eVar 3) (eC (.int 1))) aNil)) (gSlot 9) (sSet 5 (eFn (f2 dMin) (aCons (eC (.int 100000)) (aCons (eBin dMul (eVar 5) (eBin dIx (eVar 8) (eC (.int 1)))) aNil))))))) sNil)
  (sPar2 1 2 (aCons (eFn (f2 dMin) (aCons (eC (.int 100000)) (aCons (eBin dAdd (eVar 1) (eVar 4)) aNil))) (aCons (eFn (f2 dMin) (aCons (eC (.int 100000)) (aCons (eBin dMul (eVar 2) (eVar 5)) aNil))) aNil))))))
theorem measure_eq (c : Fn → List D → M D) : B__law_measure c = sSeq (sAsg (eTup (aCons (eC (.int 0)) (aCons (eC (.int 1)) aNil))) (gTupD 2 (gsCons (gSlot 1) (gsCons (gSlot 2) gsNil)))) (sSeq (sFor (iTupM (eVar 0)) (gSlot 3) (MB c)) (sRet (eTup (aCons (eVar 1) (aCons (eVar 2) aNil))))) := rfl
def Me (c : Fn → List D → M D) (ss : List Sm) : Prop := ∀ st, ∃ a b : Int, c ._law_measure [.tup (ds ss)] st = .ok (.tup [.int a, .int b]) st ∧ 0 ≤ b ∧ b ≤ 100000
theorem mb_one {c : Fn → List D → M D} {s : Sm} {l : Nat} (ok : s.ok l) (h : ∀ ss, (∃ v b, s = .iff v ss b) ∨ (∃ v a, s = .iff v a ss) ∨ (∃ t, s = .ag t ss) → Me c ss) {st : Sto} {x0 : Option D} {lo ma : Int} (h0 : 0 ≤ ma) (h1 : ma ≤ 100000) (x4 x5 x6 x7 x8 x9 : Option D) :
    ∃ lo' ma' y4 y5 y6 y7 y8 y9, 0 ≤ ma' ∧ ma' ≤ 100000 ∧ MB c [x0, some (.int lo), some (.int ma), some s.d, x4, x5, x6, x7, x8, x9] st = .ok (.nx [x0, some (.int lo'), some (.int ma'), some s.d, y4, y5, y6, y7, y8, y9]) st := by
  have mn : ∀ x : Int, 0 ≤ x → 0 ≤ (if x < 100000 then x else 100000) ∧ (if x < 100000 then x else 100000) ≤ 100000 := fun x hx => by split <;> omega
  cases s with
  | pl w ps =>
    simp only [Sm.ok] at ok
    have n := name_if ok.2.name
    have m := mn (ma * 1) (by omega)
    refine ⟨if lo + 1 < 100000 then lo + 1 else 100000, if ma * 1 < 100000 then ma * 1 else 100000, some (.int 1), some (.int 1), x6, x7, x8, x9, m.1, m.2, ?_⟩
    · unfold MB
      simp only [Sm.d]
      simp [ite_at, sl, n.1, n.2, d_mul_i (mul_ok h0 (by omega : ma ≤ 1000000))]
  | iff v a b =>
    obtain ⟨a1, b1, e1, p1, q1⟩ := h a (.inl ⟨v, b, rfl⟩) st
    obtain ⟨a2, b2, e2, p2, q2⟩ := h b (.inr (.inl ⟨v, a, rfl⟩)) st
    have m := mn (ma * (b1 + b2)) (Int.mul_nonneg h0 (by omega))
    have ne : ¬ (("if" : Str) = ("again" : Str)) := by decide +kernel
    refine ⟨if lo + (1 + (if a2 > a1 then a2 else a1)) < 100000 then lo + (1 + (if a2 > a1 then a2 else a1)) else 100000, if ma * (b1 + b2) < 100000 then ma * (b1 + b2) else 100000, some (.int (1 + (if a2 > a1 then a2 else a1))), some (.int (b1 + b2)), some (.tup [.int a1, .int b1]), some (.tup [.int a2, .int b2]), x8, x9, m.1, m.2, ?_⟩
    · unfold MB
      simp only [Sm.d]
      simp [ite_at, sl, ne, e1, e2, d_mul_i (mul_ok h0 (by omega : ma ≤ 1000000))]
  | ag t a =>
    simp only [Sm.ok] at ok
    obtain ⟨a1, b1, e1, p1, q1⟩ := h a (.inr (.inr ⟨t, rfl⟩)) st
    have ne : ¬ (("again" : Str) = ("if" : Str)) := by decide +kernel
    obtain ⟨w', tu', g0, g1, e⟩ := loop_w (st := st) (s := x0) (lo := some (.int lo)) (ma := some (.int ma)) (on := some (Sm.d (.ag t a))) (mo := some (.int (t * a1))) (ye := x6) (no := x7) (a := a1) p1 ((List.range t).map fun i => D.int (i : Nat)) 1 x9 (by omega) (by omega)
    have m := mn (ma * w') (Int.mul_nonneg h0 g0)
    refine ⟨if lo + t * a1 < 100000 then lo + t * a1 else 100000, if ma * w' < 100000 then ma * w' else 100000, some (.int (t * a1)), some (.int w'), x6, x7, some (.tup [.int a1, .int b1]), tu', m.1, m.2, ?_⟩
    have rg := fun (ρ : En) (r : AM) (hr : r ρ st = .ok [.int t] st) => range_of (n := t) (by omega) hr
    have m1 := d_mul_i (i := t) (j := a1) (mul_ok (by omega) (by omega))
    have m2 := d_mul_i (i := ma) (j := w') (mul_ok h0 (by omega))
    unfold MB
    simp only [Sm.d] at e ⊢
    generalize hr : (List.range t).map (fun i => D.int (i : Nat)) = rr at *
    have rg2 := rg [x0, some (.int lo), some (.int ma), some (.tup [.str ("again" : Str), .int t, .tup (ds a)]), some (.int (t * a1)), some (.int 1), x6, x7, some (.tup [.int a1, .int b1]), x9] (aCons (eBin dIx (eVar 3) (eC (.int 1))) aNil) (by simp)
    have lf := (sfor_of (g := gSlot 9) rg2).trans e
    clear rg rg2 e
    generalize hF : sFor (iRange1 (aCons (eBin dIx (eVar 3) (eC (.int 1))) aNil)) (gSlot 9) (sSet 5 (eFn (f2 dMin) (aCons (eC (.int 100000)) (aCons (eBin dMul (eVar 5) (eBin dIx (eVar 8) (eC (.int 1)))) aNil)))) = FF at *
    generalize hta : (t : Int) * a1 = ta at *
    clear hF hr
    have q1 : ∀ k : SM, sSeq (sAsg (eTup (aCons (eC (.int 1)) (aCons (eC (.int 1)) aNil))) (gTupD 2 (gsCons (gSlot 4) (gsCons (gSlot 5) gsNil)))) k [x0, some (.int lo), some (.int ma), some (.tup [.str ("again" : Str), .int t, .tup (ds a)]), x4, x5, x6, x7, x8, x9] st = k [x0, some (.int lo), some (.int ma), some (.tup [.str ("again" : Str), .int t, .tup (ds a)]), some (.int 1), some (.int 1), x6, x7, x8, x9] st := fun k => by simp [ite_at, sl]
    have q2 : ∀ (b1 k : SM), sSeq (sIf (tVal (eBin dEq (eBin dIx (eVar 3) (eC (.int 0))) (eC (.str ("if" : Str))))) b1 sNil) k [x0, some (.int lo), some (.int ma), some (.tup [.str ("again" : Str), .int t, .tup (ds a)]), some (.int 1), some (.int 1), x6, x7, x8, x9] st = k [x0, some (.int lo), some (.int ma), some (.tup [.str ("again" : Str), .int t, .tup (ds a)]), some (.int 1), some (.int 1), x6, x7, x8, x9] st := fun b1 k => by simp [ite_at, ne]
    have q3 : (sSeq (sSet 8 (eCall 1 (c ._law_measure) (aCons (eBin dIx (eVar 3) (eC (.int 2))) aNil))) (sSeq (sPar2 4 5 (aCons (eBin dMul (eBin dIx (eVar 3) (eC (.int 1))) (eBin dIx (eVar 8) (eC (.int 0)))) (aCons (eC (.int 1)) aNil))) FF)) [x0, some (.int lo), some (.int ma), some (.tup [.str ("again" : Str), .int t, .tup (ds a)]), some (.int 1), some (.int 1), x6, x7, x8, x9] st = FF [x0, some (.int lo), some (.int ma), some (.tup [.str ("again" : Str), .int t, .tup (ds a)]), some (.int ta), some (.int 1), x6, x7, some (.tup [.int a1, .int b1]), x9] st := by
      have z1 : sSet 8 (eCall 1 (c ._law_measure) (aCons (eBin dIx (eVar 3) (eC (.int 2))) aNil)) [x0, some (.int lo), some (.int ma), some (.tup [.str ("again" : Str), .int t, .tup (ds a)]), some (.int 1), some (.int 1), x6, x7, x8, x9] st = .ok (.nx [x0, some (.int lo), some (.int ma), some (.tup [.str ("again" : Str), .int t, .tup (ds a)]), some (.int 1), some (.int 1), x6, x7, some (.tup [.int a1, .int b1]), x9]) st := by simp [ite_at, e1]
      have z2 : sPar2 4 5 (aCons (eBin dMul (eBin dIx (eVar 3) (eC (.int 1))) (eBin dIx (eVar 8) (eC (.int 0)))) (aCons (eC (.int 1)) aNil)) [x0, some (.int lo), some (.int ma), some (.tup [.str ("again" : Str), .int t, .tup (ds a)]), some (.int 1), some (.int 1), x6, x7, some (.tup [.int a1, .int b1]), x9] st = .ok (.nx [x0, some (.int lo), some (.int ma), some (.tup [.str ("again" : Str), .int t, .tup (ds a)]), some (.int ta), some (.int 1), x6, x7, some (.tup [.int a1, .int b1]), x9]) st := by
        have y1 : eBin dIx (eVar 3) (eC (.int 1)) [x0, some (.int lo), some (.int ma), some (.tup [.str ("again" : Str), .int t, .tup (ds a)]), some (.int 1), some (.int 1), x6, x7, some (.tup [.int a1, .int b1]), x9] st = .ok (.int t) st := by simp
        have y2 : eBin dIx (eVar 8) (eC (.int 0)) [x0, some (.int lo), some (.int ma), some (.tup [.str ("again" : Str), .int t, .tup (ds a)]), some (.int 1), some (.int 1), x6, x7, some (.tup [.int a1, .int b1]), x9] st = .ok (.int a1) st := by simp
        have y3 : eBin dMul (eBin dIx (eVar 3) (eC (.int 1))) (eBin dIx (eVar 8) (eC (.int 0))) [x0, some (.int lo), some (.int ma), some (.tup [.str ("again" : Str), .int t, .tup (ds a)]), some (.int 1), some (.int 1), x6, x7, some (.tup [.int a1, .int b1]), x9] st = .ok (.int ta) st := by
          rw [v_bin, bind_at, y1, to_ok, bind_at, y2, to_ok, m1, pure_at]
        rw [v_par2, bind_at, v_acons, bind_at, y3, to_ok]
        simp
      rw [v_seq, bind_at, z1, to_ok, then_nx, v_seq, bind_at, z2, to_ok, then_nx]
    rw [q1, q2, v_seq, bind_at]
    have q4 : ∀ b : SM, (sIf (tVal (eBin dEq (eBin dIx (eVar 3) (eC (.int 0))) (eC (.str ("again" : Str))))) b sNil) [x0, some (.int lo), some (.int ma), some (.tup [.str ("again" : Str), .int t, .tup (ds a)]), some (.int 1), some (.int 1), x6, x7, x8, x9] st = b [x0, some (.int lo), some (.int ma), some (.tup [.str ("again" : Str), .int t, .tup (ds a)]), some (.int 1), some (.int 1), x6, x7, x8, x9] st := fun b => by simp [ite_at]
    rw [q4, q3, lf, to_ok, then_nx]
    simp [m2]

theorem mb_loop {c : Fn → List D → M D} {l : Nat} {st : Sto} {x0 : Option D} : ∀ {ss : List Sm}, oks ss l → (∀ s ∈ ss, ∀ ts, (∃ v b, s = .iff v ts b) ∨ (∃ v a, s = .iff v a ts) ∨ (∃ t, s = .ag t ts) → Me c ts) → ∀ (lo ma : Int) (x3 x4 x5 x6 x7 x8 x9 : Option D), 0 ≤ ma → ma ≤ 100000 →
    ∃ lo' ma' y3 y4 y5 y6 y7 y8 y9, 0 ≤ ma' ∧ ma' ≤ 100000 ∧ forL (gSlot 3) (MB c) (ds ss) [x0, some (.int lo), some (.int ma), x3, x4, x5, x6, x7, x8, x9] st = .ok (.nx [x0, some (.int lo'), some (.int ma'), y3, y4, y5, y6, y7, y8, y9]) st
  | [], _, _, lo, ma, x3, x4, x5, x6, x7, x8, x9, h0, h1 => ⟨lo, ma, x3, x4, x5, x6, x7, x8, x9, h0, h1, rfl⟩
  | s :: r, ok, h, lo, ma, x3, x4, x5, x6, x7, x8, x9, h0, h1 => by
    simp only [oks] at ok
    obtain ⟨lo1, ma1, y4, y5, y6, y7, y8, y9, g0, g1, e1⟩ := mb_one (c := c) ok.1 (h s (List.mem_cons_self ..)) (st := st) (x0 := x0) (lo := lo) h0 h1 x4 x5 x6 x7 x8 x9
    obtain ⟨lo2, ma2, z3, z4, z5, z6, z7, z8, z9, k0, k1, e2⟩ := mb_loop (c := c) (st := st) (x0 := x0) ok.2 (fun y hy => h y (List.mem_cons_of_mem _ hy)) lo1 ma1 (some s.d) y4 y5 y6 y7 y8 y9 g0 g1
    refine ⟨lo2, ma2, z3, z4, z5, z6, z7, z8, z9, k0, k1, ?_⟩
    have q : gSlot 3 s.d [x0, some (.int lo), some (.int ma), x3, x4, x5, x6, x7, x8, x9] st = .ok [x0, some (.int lo), some (.int ma), some s.d, x4, x5, x6, x7, x8, x9] st := rfl
    rw [ds, for_nx q e1, e2]
theorem me_ok : ∀ (n : Nat) (ss : List Sm) (l : Nat), oks ss l → l ≤ 5 → 5 - l + 1 ≤ n → Me (run n) ss
  | 0, ss, l, ok, hl, hn => by omega
  | n + 1, ss, l, ok, hl, hn => fun st => by
    show ∃ a b : Int, mFun 10 (B__law_measure (run n)) [.tup (ds ss)] st = _ ∧ _
    rw [measure_eq]
    obtain ⟨lo, ma, y3, y4, y5, y6, y7, y8, y9, h0, h1, e⟩ := mb_loop (c := run n) (st := st) (x0 := some (.tup (ds ss))) ok (fun s hs ts h => by
      have o := oks_iff.mp ok s hs
      have hl : l ≤ 4 := by cases s <;> simp only [Sm.ok] at o <;> exact o.1
      rcases h with ⟨v, b, rfl⟩ | ⟨v, a, rfl⟩ | ⟨t, rfl⟩
      · simp only [Sm.ok] at o
        exact me_ok n ts (l + 1) o.2.2.1 (by omega) (by omega)
      · simp only [Sm.ok] at o
        exact me_ok n ts (l + 1) o.2.2.2 (by omega) (by omega)
      · simp only [Sm.ok] at o
        exact me_ok n ts (l + 1) o.2.2 (by omega) (by omega)) 0 1 none none none none none none none (by omega) (by omega)
    refine ⟨lo, ma, ?_, h0, h1⟩
    simp [ite_at, sl, e]
/-! ### may pass, right -/
def PB (c : Fn → List D → M D) : SM := (sSeq (sAsg (eCall 1 (c ._law_measure) (aCons (eVar 2) aNil)) (gTupD 2 (gsCons (gSlot 3) (gsCons (gSlot 4) gsNil))))
  (sSeq (sSet 1 (eFn (f2 dMin) (aCons (eC (.int 100000)) (aCons (eBin dMul (eVar 1) (eVar 4)) aNil))))
  (sIf (tVal (eBin dGt (eVar 3) (eC (.int 40)))) (sRet (eC (.bl false))) sNil)))
theorem may_eq (c : Fn → List D → M D) : B__law_may_pass c = sSeq (sSet 1 (eC (.int 1))) (sSeq (sFor (iTupM (eVar 0)) (gSlot 2) (PB c)) (sRet (eBin dLe (eVar 1) (eC (.int 64))))) := rfl
theorem pb_loop {c : Fn → List D → M D} {st : Sto} {x0 : Option D} : ∀ {p : List (List Sm)}, (∀ h ∈ p, Me c h) → ∀ (ma : Int) (x2 x3 x4 : Option D), 0 ≤ ma → ma ≤ 100000 →
    (∃ ma' y2 y3 y4, forL (gSlot 2) (PB c) (p.map fun h => .tup (ds h)) [x0, some (.int ma), x2, x3, x4] st = .ok (.nx [x0, some (.int ma'), y2, y3, y4]) st) ∨ forL (gSlot 2) (PB c) (p.map fun h => .tup (ds h)) [x0, some (.int ma), x2, x3, x4] st = .ok (.rt (.bl false)) st
  | [], _, ma, x2, x3, x4, _, _ => .inl ⟨ma, x2, x3, x4, rfl⟩
  | h :: p, H, ma, x2, x3, x4, h0, h1 => by
    obtain ⟨a, b, e1, p1, q1⟩ := H h (List.mem_cons_self ..) st
    have m2 := d_mul_i (i := ma) (j := b) (mul_ok h0 (by omega))
    have hm := Int.mul_nonneg h0 p1
    have q : gSlot 2 (.tup (ds h)) [x0, some (.int ma), x2, x3, x4] st = .ok [x0, some (.int ma), some (.tup (ds h)), x3, x4] st := rfl
    have z1 : sAsg (eCall 1 (c ._law_measure) (aCons (eVar 2) aNil)) (gTupD 2 (gsCons (gSlot 3) (gsCons (gSlot 4) gsNil))) [x0, some (.int ma), some (.tup (ds h)), x3, x4] st = .ok (.nx [x0, some (.int ma), some (.tup (ds h)), some (.int a), some (.int b)]) st := by simp [ite_at, e1]
    have y3 : eBin dMul (eVar 1) (eVar 4) [x0, some (.int ma), some (.tup (ds h)), some (.int a), some (.int b)] st = .ok (.int (ma * b)) st := by
      rw [v_bin, bind_at, v_var, show ([x0, some (.int ma), some (.tup (ds h)), some (.int a), some (.int b)][1]?.getD none : Option D) = some (.int ma) from rfl, ofO_some, pure_at, to_ok, bind_at, v_var, show ([x0, some (.int ma), some (.tup (ds h)), some (.int a), some (.int b)][4]?.getD none : Option D) = some (.int b) from rfl, ofO_some, pure_at, to_ok, m2, pure_at]
    have z2 : sSet 1 (eFn (f2 dMin) (aCons (eC (.int 100000)) (aCons (eBin dMul (eVar 1) (eVar 4)) aNil))) [x0, some (.int ma), some (.tup (ds h)), some (.int a), some (.int b)] st = .ok (.nx [x0, some (.int (if ma * b < 100000 then ma * b else 100000)), some (.tup (ds h)), some (.int a), some (.int b)]) st := by
      rw [v_set, bind_at, v_fn, bind_at, v_acons, bind_at, v_c, pure_at, to_ok, bind_at, v_acons, bind_at, y3, to_ok]
      generalize ma * b = w
      simp
    rw [List.map_cons]
    have hb : PB c [x0, some (.int ma), some (.tup (ds h)), x3, x4] st = (sIf (tVal (eBin dGt (eVar 3) (eC (.int 40)))) (sRet (eC (.bl false))) sNil) [x0, some (.int (if ma * b < 100000 then ma * b else 100000)), some (.tup (ds h)), some (.int a), some (.int b)] st := by
      unfold PB
      rw [v_seq, bind_at, z1, to_ok, then_nx, v_seq, bind_at, z2, to_ok, then_nx]
    generalize hw : (if ma * b < 100000 then ma * b else 100000) = w at *
    have w0 : 0 ≤ w := by rw [← hw]; split <;> omega
    have w1 : w ≤ 100000 := by rw [← hw]; split <;> omega
    by_cases hc : 40 < a
    · right
      have : (sIf (tVal (eBin dGt (eVar 3) (eC (.int 40)))) (sRet (eC (.bl false))) sNil) [x0, some (.int w), some (.tup (ds h)), some (.int a), some (.int b)] st = .ok (.rt (.bl false)) st := by simp [ite_at, hc]
      exact for_rt q (hb.trans this)
    · have : (sIf (tVal (eBin dGt (eVar 3) (eC (.int 40)))) (sRet (eC (.bl false))) sNil) [x0, some (.int w), some (.tup (ds h)), some (.int a), some (.int b)] st = .ok (.nx [x0, some (.int w), some (.tup (ds h)), some (.int a), some (.int b)]) st := by simp [ite_at, hc]
      rw [for_nx q (hb.trans this)]
      exact pb_loop (fun x hx => H x (List.mem_cons_of_mem _ hx)) w _ _ _ w0 w1
theorem ev_may {n : Nat} (hn : 7 ≤ n) {p : Pg} (ok : p.ok) (st : Sto) : ∃ b, run n ._law_may_pass [p.d] st = .ok (.bl b) st := by
  obtain ⟨m, rfl⟩ : ∃ m, n = m + 1 := ⟨n - 1, by omega⟩
  show ∃ b, mFun 5 (B__law_may_pass (run m)) [p.d] st = _
  rw [may_eq]
  unfold Pg.d
  rcases pb_loop (c := run m) (st := st) (x0 := some (.tup (p.map fun h => .tup (ds h)))) (p := p) (fun h hh => me_ok m h 1 (ok.2.2 h hh).1 (by omega) (by omega)) 1 none none none (by omega) (by omega) with ⟨ma, y2, y3, y4, e⟩ | e
  · exact ⟨_, by simp [ite_at, e]; rfl⟩
  · exact ⟨_, by simp [ite_at, e]; rfl⟩
theorem ev_right {n : Nat} (hn : 25 ≤ n) {p : Pg} (ok : p.ok) (b : Bool) (st : Sto) : ∃ st', run n ._law_right [p.d, .str p.text, .bl b] st = .ok (.bl true) st' := by
  obtain ⟨m, rfl⟩ : ∃ m, n = m + 1 := ⟨n - 1, by omega⟩
  show ∃ st', mFun 6 (B__law_right (run m)) [p.d, .str p.text, .bl b] st = _
  unfold B__law_right
  obtain ⟨z, rp⟩ := ev_repr ok
  obtain ⟨s1, e1⟩ := ev_read (n := m) (by omega) ok st
  obtain ⟨pb, e2⟩ := ev_may (n := m) (by omega) ok s1
  have e3 := ev_show (n := m) ok (by omega) s1
  obtain ⟨s2, e4⟩ := ev_read (n := m) (by omega) ok s1
  have e5 := ev_show (n := m) ok (by omega) s2
  generalize p.d = pd at *
  cases pb with
  | false =>
    refine ⟨s1, ?_⟩
    cases b <;> simp [ite_at, rp, e1, e2]
  | true =>
    refine ⟨s2, ?_⟩
    cases b <;> simp [ite_at, rp, e1, e2, e3, i_str, e4, e5]
end KT.k71

/-! k71_p12: the law's draws: one number. -/
namespace KT.k71
open PySem PySem.Spec L2 KT TL
open PyProof.Rows hiding St
section
variable {ρ : En} {st s1 s2 : Sto}
theorem bin_at {a b : EM} {f : D → D → M D} {x y : D} {r : Res D} (h1 : a ρ st = .ok x s1) (h2 : b ρ s1 = .ok y s2) (h3 : f x y s2 = r) : eBin f a b ρ st = r := by
  rw [v_bin, bind_at, h1, to_ok, bind_at, h2, to_ok, h3]
theorem fn1_at {a : EM} {f : D → M D} {x : D} {r : Res D} (h1 : a ρ st = .ok x s1) (h3 : f x s1 = r) : eFn (f1 f) (aCons a aNil) ρ st = r := by
  rw [v_fn, bind_at, v_acons, bind_at, h1, to_ok, bind_at, v_anil, pure_at, to_ok, pure_at, to_ok, v_f1, h3]
theorem c_at (d : D) : eC d ρ st = .ok d st := rfl
theorem var_at {i : Nat} {d : D} (h : ρ[i]?.getD none = some d) : eVar i ρ st = .ok d st := by
  rw [v_var, h]; rfl
theorem pw {k v : Int} (h : powC 10 k) (e : (10 : Int) ^ k.toNat = v) : dPow (.int 10) (.int k) st = .ok (.int v) st := by
  have : dPow (.int 10) (.int k) = M.pure (.int ((10 : Int) ^ k.toNat)) := if_pos h
  rw [this, e]; rfl
theorem add_at (i j : Int) : dAdd (.int i) (.int j) st = .ok (.int (i + j)) st := rfl
theorem mod_at {i j : Int} (h : 0 < j) : dMod (.int i) (.int j) st = .ok (.int (i % j)) st := by
  have : dMod (.int i) (.int j) = M.pure (.int (i % j)) := if_pos h
  rw [this]; rfl
theorem mul_at {i j : Int} (h : mulC i j) : dMul (.int i) (.int j) st = .ok (.int (i * j)) st := by
  rw [d_mul_i h]; rfl
theorem div_at {i j : Int} (h : divC i j) : dDiv (.int i) (.int j) st = .ok (.int (i / j)) st := by
  have : dDiv (.int i) (.int j) = M.pure (.int (i / j)) := if_pos h
  rw [this]; rfl
theorem gt_at {i j : Int} {b : Bool} (h : decide (j < i) = b) : dGt (.int i) (.int j) st = .ok (.bl b) st := by subst h; rfl
theorem pow_at {i j : Int} (h : powC i j) : dPow (.int i) (.int j) st = .ok (.int (i ^ j.toNat)) st := by
  have : dPow (.int i) (.int j) = M.pure (.int (i ^ j.toNat)) := if_pos h
  rw [this]; rfl
theorem int_at (i : Int) : dIntOf (.int i) st = .ok (.int i) st := rfl
end
theorem log_lt {x : Int} {k : Nat} (hk : 0 < k) (h : x.natAbs < 2 ^ k) : x.natAbs.log2 < k := by
  by_cases e : x.natAbs = 0
  · rw [e]; exact hk
  · exact (Nat.log2_lt e).mpr h
theorem n30 : ((10 : Nat) ^ 31 + 33) < 2 ^ 104 := by decide +kernel
/-- what is drawn from -/
def Well (st : Sto) (w : Nat) (c : Nat) : Prop := ∃ a b e : Int, st[w]? = some (.lst [.int a, .int b, .int e]) ∧ 0 ≤ b ∧ b < 2 ^ 100 ∧ 0 ≤ e ∧ e ≤ c
/-- nothing but the well is changed of what was there -/
structure Pr (w : Nat) (st st' : Sto) : Prop where
  len : st.length ≤ st'.length
  old : ∀ i, i < st.length → i ≠ w → st'[i]? = st[i]?
theorem Pr.refl (w : Nat) (st : Sto) : Pr w st st := ⟨Nat.le_refl _, fun _ _ _ => rfl⟩
theorem Pr.trans {w : Nat} {a b c : Sto} (h : Pr w a b) (k : Pr w b c) : Pr w a c := ⟨Nat.le_trans h.len k.len, fun i hi hw => (k.old i (Nat.lt_of_lt_of_le hi h.len) hw).trans (h.old i hi hw)⟩
theorem Well.mono {st : Sto} {w c c' : Nat} (h : Well st w c) (l : c ≤ c') : Well st w c' := by
  obtain ⟨a, b, e, h1, h2, h3, h4, h5⟩ := h
  exact ⟨a, b, e, h1, h2, h3, h4, by omega⟩
theorem ev_dip {n : Nat} (hn : 1 ≤ n) {st : Sto} {w c : Nat} (h : Well st w c) (hc : c < 2 ^ 50) {m : Int} (h0 : 0 < m) (h1 : m ≤ 65536) :
    ∃ (v : Int) (st' : Sto), run n ._law_dip [.loc w, .int m] st = .ok (.int v) st' ∧ 0 ≤ v ∧ v < m ∧ Well st' w (c + 1) ∧ Pr w st st' := by
  obtain ⟨j, rfl⟩ : ∃ j, n = j + 1 := ⟨n - 1, by omega⟩
  show ∃ (v : Int) (st' : Sto), mFun 4 (B__law_dip (run j)) [.loc w, .int m] st = _ ∧ _
  obtain ⟨a, b, e, hw, hb0, hb1, he0, he1⟩ := h
  have wl := lt_of_some hw
  have g := get_at hw
  have ix : ∀ (ρ : En) (i : Int) (d : D), ρ[0]?.getD none = some (.loc w) → atI [D.int a, D.int b, D.int e] i = some d → eBin dIx (eVar 0) (eC (.int i)) ρ st = .ok d st := fun ρ i d hr hd => bin_at (var_at hr) (c_at _) (by rw [d_ix_o, bind_at, g, to_ok, hd]; rfl)
  unfold B__law_dip
  by_cases ha : 0 < a
  · have mlog : m.natAbs.log2 < 9000 := Nat.lt_trans (log_lt (k := 20) (by decide) (by omega)) (by decide)
    have q1 : ∀ k1 k2 : SM, sSeq (sIf (tVal (eBin dGt (eBin dIx (eVar 0) (eC (.int 0))) (eC (.int 0)))) k1 sNil) k2 [some (.loc w), some (.int m), none, none] st = (k1 [some (.loc w), some (.int m), none, none] st).to (thenS k2) := fun k1 k2 => by
      have t : eBin dGt (eBin dIx (eVar 0) (eC (.int 0))) (eC (.int 0)) [some (.loc w), some (.int m), none, none] st = .ok (.bl true) st := bin_at (ix _ 0 _ rfl rfl) (c_at _) (gt_at (decide_eq_true ha))
      rw [v_seq, bind_at, v_sif, bind_at, v_val, bind_at, t, to_ok, asB_bl, pure_at, to_ok, if_pos rfl]
    have md := mod_at (st := st) (i := a) h0
    have q2 : eBin dMod (eFn (f1 dIntOf) (aCons (eBin dIx (eVar 0) (eC (.int 0))) aNil)) (eVar 1) [some (.loc w), some (.int m), none, none] st = .ok (.int (a % m)) st := bin_at (fn1_at (ix _ 0 _ rfl rfl) (int_at a)) (var_at rfl) md
    have dv := div_at (st := st) (i := a) (j := m) ⟨h0, mlog⟩
    have q3 : eBin dDiv (eBin dIx (eVar 0) (eC (.int 0))) (eVar 1) [some (.loc w), some (.int m), some (.int (a % m)), none] st = .ok (.int (a / m)) st := bin_at (ix _ 0 _ rfl rfl) (var_at rfl) dv
    have sa := set_at (d := .int (a / m)) g (show ixN [D.int a, D.int b, D.int e].length 0 = some 0 from rfl)
    have sa : dSetIx (.loc w) (.int 0) (.int (a / m)) st = .ok () (st.set w (.lst [.int (a / m), .int b, .int e])) := sa
    refine ⟨a % m, st.set w (.lst [.int (a / m), .int b, .int e]), ?_, Int.emod_nonneg _ (by omega), Int.emod_lt_of_pos _ h0, ⟨a / m, b, e, set_eq wl, hb0, hb1, he0, by omega⟩, ⟨by simp, fun i hi hne => set_ne (Ne.symm hne)⟩⟩
    generalize hr : a % m = r at *
    generalize hq : a / m = q at *
    rw [v_fun, show List.map some [D.loc w, D.int m] ++ List.replicate (4 - [D.loc w, D.int m].length) none = [some (.loc w), some (.int m), none, none] from rfl, q1]
    rw [v_seq, bind_at, v_set, bind_at, q2, to_ok, pure_at, to_ok, then_nx]
    rw [show ([some (.loc w), some (.int m), none, none] : En).set 2 (some (.int r)) = [some (.loc w), some (.int m), some (.int r), none] from rfl]
    rw [v_seq, bind_at, v_asg, bind_at, q3, to_ok, bind_at, v_gsub, bind_at, var_at (show ([some (.loc w), some (.int m), some (.int r), none] : En)[0]?.getD none = some (.loc w) from rfl), to_ok, bind_at, c_at, to_ok, bind_at, sa, to_ok, pure_at, to_ok, pure_at, to_ok, then_nx]
    rfl
  · have q1 : ∀ k1 k2 : SM, sSeq (sIf (tVal (eBin dGt (eBin dIx (eVar 0) (eC (.int 0))) (eC (.int 0)))) k1 sNil) k2 [some (.loc w), some (.int m), none, none] st = k2 [some (.loc w), some (.int m), none, none] st := fun k1 k2 => by
      have t : eBin dGt (eBin dIx (eVar 0) (eC (.int 0))) (eC (.int 0)) [some (.loc w), some (.int m), none, none] st = .ok (.bl false) st := bin_at (ix _ 0 _ rfl rfl) (c_at _) (gt_at (decide_eq_false ha))
      rw [v_seq, bind_at, v_sif, bind_at, v_val, bind_at, t, to_ok, asB_bl, pure_at, to_ok, if_neg Bool.false_ne_true, v_snil, pure_at, to_ok, then_nx]
    have q2 : eBin dAdd (eBin dIx (eVar 0) (eC (.int 2))) (eC (.int 1)) [some (.loc w), some (.int m), none, none] st = .ok (.int (e + 1)) st := bin_at (ix _ 2 _ rfl rfl) (c_at _) (add_at _ _)
    have sa := set_at (d := .int (e + 1)) g (show ixN [D.int a, D.int b, D.int e].length 2 = some 2 from rfl)
    have sa : dSetIx (.loc w) (.int 2) (.int (e + 1)) st = .ok () (st.set w (.lst [.int a, .int b, .int (e + 1)])) := sa
    have g' : mGet w (st.set w (.lst [.int a, .int b, .int (e + 1)])) = .ok [.int a, .int b, .int (e + 1)] (st.set w (.lst [.int a, .int b, .int (e + 1)])) := get_at (set_eq wl)
    have W' : Well (st.set w (.lst [.int a, .int b, .int (e + 1)])) w (c + 1) := ⟨a, b, e + 1, set_eq wl, hb0, hb1, by omega, by omega⟩
    have P' : Pr w st (st.set w (.lst [.int a, .int b, .int (e + 1)])) := ⟨by simp, fun i hi hne => set_ne (Ne.symm hne)⟩
    generalize hS : st.set w (.lst [.int a, .int b, .int (e + 1)]) = S at *
    generalize hE : e + 1 = e' at *
    have e0' : 0 ≤ e' := by omega
    have e1' : e' ≤ 2 ^ 50 := by omega
    clear hS q1 ix
    have ix : ∀ (ρ : En) (i : Int) (d : D), ρ[0]?.getD none = some (.loc w) → atI [D.int a, D.int b, D.int e'] i = some d → eBin dIx (eVar 0) (eC (.int i)) ρ S = .ok d S := fun ρ i d hr hd => bin_at (var_at hr) (c_at _) (by rw [d_ix_o, bind_at, g', to_ok, hd]; rfl)
    have kk : ∀ (k v d r : Int), powC 10 k → (10 : Int) ^ k.toNat = v → v + d = r → ∀ ρ : En, eBin dAdd (eBin dPow (eC (.int 10)) (eC (.int k))) (eC (.int d)) ρ S = .ok (.int r) S := fun k v d r h e e2 ρ => bin_at (bin_at (c_at _) (c_at _) (pw h e)) (c_at _) (by rw [add_at, e2])
    have k31 := kk 31 10000000000000000000000000000000 33 10000000000000000000000000000033 (by decide +kernel) (by decide +kernel) (by decide +kernel)
    have k30 := kk 30 1000000000000000000000000000000 57 1000000000000000000000000000057 (by decide +kernel) (by decide +kernel) (by decide +kernel)
    clear kk
    have f64 : ∀ x : Int, mulC 104729 x ∧ mulC 611953 x := fun x => ⟨.inl (by decide), .inl (by decide)⟩
    -- mixed
    have x1 : ∀ ρ : En, ρ[0]?.getD none = some (.loc w) → eBin dAdd (eBin dIx (eVar 0) (eC (.int 1))) (eBin dMul (eC (.int 104729)) (eBin dIx (eVar 0) (eC (.int 2)))) ρ S = .ok (.int (b + 104729 * e')) S := fun ρ hr => bin_at (ix ρ 1 _ hr rfl) (bin_at (c_at _) (ix ρ 2 _ hr rfl) (mul_at (f64 _).1)) (add_at _ _)
    have xb : (b + 104729 * e').natAbs < 2 ^ 110 := by
      have p1 : (2 : Int) ^ 100 = 1267650600228229401496703205376 := by decide +kernel
      have p2 : (2 : Int) ^ 50 = 1125899906842624 := by decide +kernel
      have p3 : (2 : Nat) ^ 110 = 1298074214633706907132624082305024 := by decide +kernel
      rw [p1] at hb1
      rw [p2] at e1'
      rw [p3]
      omega
    generalize b + 104729 * e' = X at *
    have hp : powC X 3 := by
      refine ⟨by decide, ?_⟩
      have := intBits_le_iff.mpr xb
      have p : (2 : Int) ^ 27 = 134217728 := by decide +kernel
      rw [p]
      omega
    have x2 : ∀ ρ : En, ρ[0]?.getD none = some (.loc w) → eBin dAdd (eBin dPow (eBin dAdd (eBin dIx (eVar 0) (eC (.int 1))) (eBin dMul (eC (.int 104729)) (eBin dIx (eVar 0) (eC (.int 2))))) (eC (.int 3))) (eBin dMul (eC (.int 611953)) (eBin dIx (eVar 0) (eC (.int 2)))) ρ S = .ok (.int (X ^ (3 : Int).toNat + 611953 * e')) S := fun ρ hr =>
      bin_at (bin_at (x1 ρ hr) (c_at _) (pow_at hp)) (bin_at (c_at _) (ix ρ 2 _ hr rfl) (mul_at (f64 _).2)) (add_at _ _)
    generalize X ^ (3 : Int).toNat + 611953 * e' = Y at *
    have y0 := Int.emod_nonneg Y (show (10000000000000000000000000000033 : Int) ≠ 0 by decide)
    have y1 := Int.emod_lt_of_pos Y (show (0 : Int) < 10000000000000000000000000000033 by decide)
    have x3 : ∀ ρ : En, ρ[0]?.getD none = some (.loc w) → eBin dMod (eFn (f1 dIntOf) (aCons (eBin dAdd (eBin dPow (eBin dAdd (eBin dIx (eVar 0) (eC (.int 1))) (eBin dMul (eC (.int 104729)) (eBin dIx (eVar 0) (eC (.int 2))))) (eC (.int 3))) (eBin dMul (eC (.int 611953)) (eBin dIx (eVar 0) (eC (.int 2))))) aNil)) (eBin dAdd (eBin dPow (eC (.int 10)) (eC (.int 31))) (eC (.int 33))) ρ S = .ok (.int (Y % 10000000000000000000000000000033)) S := fun ρ hr =>
      bin_at (fn1_at (x2 ρ hr) (int_at _)) (k31 ρ) (mod_at (by decide))
    clear x1 x2
    generalize Y % 10000000000000000000000000000033 = Z at *
    have zl : mulC Z (Z + 5381) := by
      refine .inr (.inr ?_)
      have p : (2 : Nat) ^ 105 = 40564819207303340847894502572032 := by decide +kernel
      have h1 := log_lt (x := Z) (k := 105) (by decide) (by rw [p]; omega)
      have h2 := log_lt (x := Z + 5381) (k := 105) (by decide) (by rw [p]; omega)
      omega
    have x4 : ∀ ρ : En, ρ[3]?.getD none = some (.int Z) → ρ[1]?.getD none = some (.int m) → eBin dMod (eBin dDiv (eBin dMod (eFn (f1 dIntOf) (aCons (eBin dMul (eVar 3) (eBin dAdd (eVar 3) (eC (.int 5381)))) aNil)) (eBin dAdd (eBin dPow (eC (.int 10)) (eC (.int 30))) (eC (.int 57)))) (eC (.int 9973))) (eVar 1) ρ S = .ok (.int ((Z * (Z + 5381)) % 1000000000000000000000000000057 / 9973 % m)) S := fun ρ h3 h4 =>
      bin_at (bin_at (bin_at (fn1_at (bin_at (var_at h3) (bin_at (var_at h3) (c_at _) (add_at _ _)) (mul_at zl)) (int_at _)) (k30 ρ) (mod_at (by decide))) (c_at _) (div_at ⟨by decide, by decide +kernel⟩)) (var_at h4) (mod_at h0)
    generalize (Z * (Z + 5381)) % 1000000000000000000000000000057 / 9973 = V at *
    refine ⟨V % m, S, ?_, Int.emod_nonneg _ (by omega), Int.emod_lt_of_pos _ h0, W', P'⟩
    generalize V % m = r at *
    have q1 : ∀ k1 k2 : SM, sSeq (sIf (tVal (eBin dGt (eBin dIx (eVar 0) (eC (.int 0))) (eC (.int 0)))) k1 sNil) k2 [some (.loc w), some (.int m), none, none] st = k2 [some (.loc w), some (.int m), none, none] st := fun k1 k2 => by
      have t0 : eBin dIx (eVar 0) (eC (.int 0)) [some (.loc w), some (.int m), none, none] st = .ok (.int a) st := bin_at (var_at rfl) (c_at _) (by rw [d_ix_o, bind_at, g, to_ok]; rfl)
      have t : eBin dGt (eBin dIx (eVar 0) (eC (.int 0))) (eC (.int 0)) [some (.loc w), some (.int m), none, none] st = .ok (.bl false) st := bin_at t0 (c_at _) (gt_at (decide_eq_false ha))
      rw [v_seq, bind_at, v_sif, bind_at, v_val, bind_at, t, to_ok, asB_bl, pure_at, to_ok, if_neg Bool.false_ne_true, v_snil, pure_at, to_ok, then_nx]
    rw [v_fun, show List.map some [D.loc w, D.int m] ++ List.replicate (4 - [D.loc w, D.int m].length) none = [some (.loc w), some (.int m), none, none] from rfl, q1]
    rw [v_seq, bind_at, v_asg, bind_at, q2, to_ok, bind_at, v_gsub, bind_at, var_at (show ([some (.loc w), some (.int m), none, none] : En)[0]?.getD none = some (.loc w) from rfl), to_ok, bind_at, c_at, to_ok, bind_at, sa, to_ok, pure_at, to_ok, pure_at, to_ok, then_nx]
    rw [v_seq, bind_at, v_set, bind_at, x3 _ rfl, to_ok, pure_at, to_ok, then_nx]
    rw [v_ret, bind_at, x4 _ rfl rfl, to_ok]
    rfl
end KT.k71

/-! k71_p13: the law's draws: plain statements. -/
namespace KT.k71
open PySem PySem.Spec L2 KT TL
open PyProof.Rows hiding St
theorem ev_of {n : Nat} (hn : 2 ≤ n) {st : Sto} {w c : Nat} (h : Well st w c) (hc : c < 2 ^ 50) {xs : List D} (hx : xs ≠ []) (hl : xs.length ≤ 65536) :
    ∃ (x : D) (st' : Sto), x ∈ xs ∧ run n ._law_of [.loc w, .lst xs] st = .ok x st' ∧ Well st' w (c + 1) ∧ Pr w st st' := by
  obtain ⟨m, rfl⟩ : ∃ m, n = m + 1 := ⟨n - 1, by omega⟩
  have hp := List.length_pos_iff.mpr hx
  obtain ⟨v, st', e, v0, v1, W, P⟩ := ev_dip (n := m) (by omega) h hc (m := xs.length) (by omega) (by omega)
  obtain ⟨k, rfl⟩ : ∃ k : Nat, v = k := ⟨v.toNat, by omega⟩
  have hk : k < xs.length := by omega
  refine ⟨xs[k], st', List.getElem_mem hk, ?_, W, P⟩
  show mFun 2 (B__law_of (run m)) [.loc w, .lst xs] st = _
  unfold B__law_of
  have ix : atI xs (k : Int) = some xs[k] := by rw [atI_nat, List.getElem?_eq_getElem hk]
  simp [ite_at, e, ix]
/-- a drawn number, as a natural one -/
theorem ev_dipn {n : Nat} (hn : 1 ≤ n) {st : Sto} {w c : Nat} (h : Well st w c) (hc : c < 2 ^ 50) {m : Nat} (h0 : 0 < m) (h1 : m ≤ 65536) :
    ∃ (v : Nat) (st' : Sto), run n ._law_dip [.loc w, .int m] st = .ok (.int v) st' ∧ v < m ∧ Well st' w (c + 1) ∧ Pr w st st' := by
  obtain ⟨v, st', e, v0, v1, W, P⟩ := ev_dip hn h hc (m := m) (by omega) (by omega)
  exact ⟨v.toNat, st', by rw [e, Int.toNat_of_nonneg v0], by omega, W, P⟩
theorem ev_wrd {n : Nat} (hn : 3 ≤ n) {st : Sto} {w c : Nat} (h : Well st w c) (hc : c + 10 < 2 ^ 50) :
    ∃ (k : Nat) (st' : Sto), run n ._law_word [.loc w] st = .ok (.int k) st' ∧ k < 65536 ∧ Well st' w (c + 5) ∧ Pr w st st' := by
  obtain ⟨m, rfl⟩ : ∃ m, n = m + 1 := ⟨n - 1, by omega⟩
  obtain ⟨v1, s1, e1, l1, W1, P1⟩ := ev_dipn (n := m) (by omega) h (by omega) (m := 4) (by omega) (by omega)
  obtain ⟨v2, s2, e2, l2, W2, P2⟩ := ev_dipn (n := m) (by omega) W1 (by omega) (m := 12) (by omega) (by omega)
  obtain ⟨v3, s3, e3, l3, W3, P3⟩ := ev_dipn (n := m) (by omega) W2 (by omega) (m := 3) (by omega) (by omega)
  obtain ⟨v4, s4, e4, l4, W4, P4⟩ := ev_dipn (n := m) (by omega) W3 (by omega) (m := 65536) (by omega) (by omega)
  obtain ⟨x, s5, hx, e5, W5, P5⟩ := ev_of (n := m) (by omega) W4 (by omega) (xs := [.int v1, .int v2, .int (65535 - (v3 : Int)), .int v4]) (by simp) (by simp)
  have : ∃ k : Nat, x = .int k ∧ k < 65536 := by
    simp only [List.mem_cons, List.not_mem_nil, or_false] at hx
    rcases hx with rfl | rfl | rfl | rfl
    · exact ⟨v1, rfl, by omega⟩
    · exact ⟨v2, rfl, by omega⟩
    · exact ⟨65535 - v3, by rw [show ((65535 - v3 : Nat) : Int) = 65535 - (v3 : Int) by omega], by omega⟩
    · exact ⟨v4, rfl, l4⟩
  obtain ⟨k, rfl, hk⟩ := this
  refine ⟨k, s5, ?_, hk, W5.mono (by omega), P1.trans (P2.trans (P3.trans (P4.trans P5)))⟩
  show mFun 1 (B__law_word (run m)) [.loc w] st = _
  unfold B__law_word
  rw [show ((4 : Nat) : Int) = 4 from rfl] at e1
  rw [show ((12 : Nat) : Int) = 12 from rfl] at e2
  rw [show ((3 : Nat) : Int) = 3 from rfl] at e3
  rw [show ((65536 : Nat) : Int) = 65536 from rfl] at e4
  simp [ite_at, sl, e1, e2, e3, e4, e5]
theorem memL {s : Str} {l : List Str} : memD false (.str s) (.lst (l.map D.str)) = M.pure (.bl (decide (s ∈ l))) := by
  have e2 : (l.map D.str).mapM sc = some (l.map V.str) := by
    induction l with
    | nil => rfl
    | cons a l ih => rw [List.map_cons, List.mapM_cons, ih]; rfl
  have e3 : inV (.str s) (l.map V.str) = decide (s ∈ l) := by
    clear e2
    induction l with
    | nil => simp [inV]
    | cons a l ih =>
      unfold inV at ih ⊢
      rw [List.map_cons, List.any_cons, ih]
      by_cases h : s = a
      · subst h; simp [eqV]
      · have h2 : ¬ a = s := fun e => h e.symm
        have : eqV (.str a) (.str s) = false := by simp [eqV, h2]
        rw [this, Bool.false_or]
        simp [h]
  funext st
  unfold memD
  show (M.bind (itemsM (.lst (l.map D.str))) fun ds => withO (ds.mapM sc) fun vs => M.pure (D.bl (inV (.str s) vs))) st = _
  simp only [items_l, bind_at, pure_at, to_ok, e2, withO_some, e3]
def names14 : List Str := [("set" : Str), ("add" : Str), ("sub" : Str), ("and" : Str), ("xor" : Str), ("below" : Str), ("get" : Str), ("put" : Str), ("swap" : Str), ("addto" : Str), ("await" : Str), ("whole" : Str), ("get" : Str), ("put" : Str)]
def PT (nm : Str) : SM := (sSeq (sIf (tVal (eBin dEq (eVar 2) (eC (.str ("set" : Str))))) (sRet (eTup (aCons (eVar 2) (aCons (eVar 3) (aCons (eVar 6) aNil))))) sNil)
  (sSeq (sIf (tVal (eBin (memD false) (eVar 2) (eLst (aCons (eC (.str ("get" : Str))) (aCons (eC (.str ("await" : Str))) aNil))))) (sRet (eTup (aCons (eVar 2) (aCons (eVar 3) (aCons (eVar 4) (aCons (eVar 6) (aCons (eBin dIx (eLst (aCons (eC (.str ("loose" : Str))) (aCons (eC (.str ("take" : Str))) aNil))) (eBin dMod (eFn (f1 dIntOf) (aCons (eVar 7) aNil)) (eC (.int 2)))) aNil))))))) sNil)
  (sSeq (sIf (tVal (eBin dEq (eVar 2) (eC (.str ("put" : Str))))) (sRet (eTup (aCons (eVar 2) (aCons (eVar 3) (aCons (eVar 4) (aCons (eVar 6) (aCons (eBin dIx (eLst (aCons (eC (.str ("loose" : Str))) (aCons (eC (.str ("give" : Str))) aNil))) (eBin dMod (eFn (f1 dIntOf) (aCons (eVar 7) aNil)) (eC (.int 2)))) aNil))))))) sNil)
  (sSeq (sIf (tVal (eBin (memD false) (eVar 2) (eLst (aCons (eC (.str ("swap" : Str))) (aCons (eC (.str ("addto" : Str))) aNil))))) (sRet (eTup (aCons (eVar 2) (aCons (eVar 3) (aCons (eVar 5) (aCons (eVar 4) (aCons (eVar 6) (aCons (eBin dIx (eLst (aCons (eC (.str ("loose" : Str))) (aCons (eC (.str ("take" : Str))) (aCons (eC (.str ("give" : Str))) (aCons (eC (.str ("both" : Str))) aNil))))) (eVar 7)) aNil)))))))) sNil)
  (sRet (eIf (tVal (eBin dEq (eVar 2) (eC (.str ("whole" : Str))))) (eTup (aCons (eVar 2) aNil)) (eTup (aCons (eVar 2) (aCons (eVar 3) (aCons (eVar 4) (aCons (eVar 5) aNil)))))))))))
theorem ge (s : Str) : memD false (.str s) (.lst [.str ("get" : Str), .str ("await" : Str)]) = M.pure (.bl (decide (s ∈ [("get" : Str), ("await" : Str)]))) := memL (l := [("get" : Str), ("await" : Str)])
theorem sw (s : Str) : memD false (.str s) (.lst [.str ("swap" : Str), .str ("addto" : Str)]) = M.pure (.bl (decide (s ∈ [("swap" : Str), ("addto" : Str)]))) := memL (l := [("swap" : Str), ("addto" : Str)])
theorem way_mod {y : Nat} (h : y < 4) (st : Sto) (ρ : En) (hr : ρ[7]?.getD none = some (.int y)) : ∃ k : Nat, k < 2 ∧ eBin dMod (eFn (f1 dIntOf) (aCons (eVar 7) aNil)) (eC (.int 2)) ρ st = .ok (.int k) st := by
  refine ⟨y % 2, Nat.mod_lt _ (by decide), ?_⟩
  exact bin_at (fn1_at (var_at hr) (int_at _)) (c_at _) (mod_at (by decide))
/-- what the words of the tail make -/
theorem tail_ok {nm : Str} (hm : nm ∈ names14) {x0 x1 : Option D} {v a b k y : Nat} (hv : v < 6) (ha : a < 6) (hb : b < 6) (hk : k < 65536) (hy : y < 4) (st : Sto) :
    ∃ w ps, OkPl w ps ∧ PT nm [x0, x1, some (.str nm), some (.int v), some (.int a), some (.int b), some (.int k), some (.int y)] st = .ok (.rt (.tup (.str w :: ps))) st := by
  obtain ⟨q, hq, em⟩ := way_mod hy st [x0, x1, some (.str nm), some (.int v), some (.int a), some (.int b), some (.int k), some (.int y)] rfl
  have two : ∀ (s t : Str) (q : Nat), q < 2 → ∃ m, m ∈ [s, t] ∧ atI [D.str s, D.str t] (q : Int) = some (.str m) := fun s t q h => by
    rcases q with _ | _ | q
    · exact ⟨s, by simp, rfl⟩
    · exact ⟨t, by simp, rfl⟩
    · omega
  have four : ∃ m, m ∈ [("loose" : Str), ("take" : Str), ("give" : Str), ("both" : Str)] ∧ atI [D.str ("loose" : Str), D.str ("take" : Str), D.str ("give" : Str), D.str ("both" : Str)] (y : Int) = some (.str m) := by
    rcases y with _ | _ | _ | _ | y
    · exact ⟨("loose" : Str), by simp, rfl⟩
    · exact ⟨("take" : Str), by simp, rfl⟩
    · exact ⟨("give" : Str), by simp, rfl⟩
    · exact ⟨("both" : Str), by simp, rfl⟩
    · omega
  obtain ⟨m1, h1, a1⟩ := two ("loose" : Str) ("take" : Str) q hq
  obtain ⟨m2, h2, a2⟩ := two ("loose" : Str) ("give" : Str) q hq
  obtain ⟨m3, h3, a3⟩ := four
  have cls : (nm = ("set" : Str)) ∨ (nm ∈ [("get" : Str), ("await" : Str)] ∧ nm ≠ ("set" : Str)) ∨ (nm = ("put" : Str) ∧ nm ≠ ("set" : Str) ∧ nm ∉ [("get" : Str), ("await" : Str)]) ∨ (nm ∈ [("swap" : Str), ("addto" : Str)] ∧ nm ≠ ("set" : Str) ∧ nm ∉ [("get" : Str), ("await" : Str)] ∧ nm ≠ ("put" : Str)) ∨
      (nm = ("whole" : Str) ∧ nm ≠ ("set" : Str) ∧ nm ∉ [("get" : Str), ("await" : Str)] ∧ nm ≠ ("put" : Str) ∧ nm ∉ [("swap" : Str), ("addto" : Str)]) ∨ (nm ∈ [("add" : Str), ("sub" : Str), ("and" : Str), ("xor" : Str), ("below" : Str)] ∧ nm ≠ ("set" : Str) ∧ nm ∉ [("get" : Str), ("await" : Str)] ∧ nm ≠ ("put" : Str) ∧ nm ∉ [("swap" : Str), ("addto" : Str)] ∧ nm ≠ ("whole" : Str)) := by
    have : ∀ nm ∈ names14, (nm = ("set" : Str)) ∨ (nm ∈ [("get" : Str), ("await" : Str)] ∧ nm ≠ ("set" : Str)) ∨ (nm = ("put" : Str) ∧ nm ≠ ("set" : Str) ∧ nm ∉ [("get" : Str), ("await" : Str)]) ∨ (nm ∈ [("swap" : Str), ("addto" : Str)] ∧ nm ≠ ("set" : Str) ∧ nm ∉ [("get" : Str), ("await" : Str)] ∧ nm ≠ ("put" : Str)) ∨
      (nm = ("whole" : Str) ∧ nm ≠ ("set" : Str) ∧ nm ∉ [("get" : Str), ("await" : Str)] ∧ nm ≠ ("put" : Str) ∧ nm ∉ [("swap" : Str), ("addto" : Str)]) ∨ (nm ∈ [("add" : Str), ("sub" : Str), ("and" : Str), ("xor" : Str), ("below" : Str)] ∧ nm ≠ ("set" : Str) ∧ nm ∉ [("get" : Str), ("await" : Str)] ∧ nm ≠ ("put" : Str) ∧ nm ∉ [("swap" : Str), ("addto" : Str)] ∧ nm ≠ ("whole" : Str)) := by decide +kernel
    exact this nm hm
  unfold PT
  rcases cls with rfl | ⟨c1, c2⟩ | ⟨rfl, c1, c2⟩ | ⟨c1, c2, c3, c4⟩ | ⟨rfl, c1, c2, c3, c4⟩ | ⟨c1, c2, c3, c4, c5, c6⟩
  · exact ⟨_, _, .set v k hv hk, by simp [ite_at, sl]⟩
  · have gx : eBin dIx (eLst (aCons (eC (.str ("loose" : Str))) (aCons (eC (.str ("take" : Str))) aNil))) (eBin dMod (eFn (f1 dIntOf) (aCons (eVar 7) aNil)) (eC (.int 2))) [x0, x1, some (.str nm), some (.int v), some (.int a), some (.int b), some (.int k), some (.int y)] st = .ok (.str m1) st := bin_at (by simp [ite_at, sl]; rfl) em (by rw [d_ix_l, a1]; rfl)
    refine ⟨nm, _, .get nm v a k m1 c1 hv ha hk h1, ?_⟩
    clear a1 a2 a3 em
    generalize eBin dIx (eLst (aCons (eC (.str ("loose" : Str))) (aCons (eC (.str ("take" : Str))) aNil))) (eBin dMod (eFn (f1 dIntOf) (aCons (eVar 7) aNil)) (eC (.int 2))) = G at *
    simp [-List.mem_cons, ite_at, sl, ge, c1, c2, gx]
  · have gx : eBin dIx (eLst (aCons (eC (.str ("loose" : Str))) (aCons (eC (.str ("give" : Str))) aNil))) (eBin dMod (eFn (f1 dIntOf) (aCons (eVar 7) aNil)) (eC (.int 2))) [x0, x1, some (.str ("put" : Str)), some (.int v), some (.int a), some (.int b), some (.int k), some (.int y)] st = .ok (.str m2) st := bin_at (by simp [ite_at, sl]; rfl) em (by rw [d_ix_l, a2]; rfl)
    refine ⟨_, _, .put v a k m2 hv ha hk h2, ?_⟩
    clear a1 a2 a3 em
    generalize eBin dIx (eLst (aCons (eC (.str ("loose" : Str))) (aCons (eC (.str ("give" : Str))) aNil))) (eBin dMod (eFn (f1 dIntOf) (aCons (eVar 7) aNil)) (eC (.int 2))) = G at *
    simp [-List.mem_cons, ite_at, sl, ge, c1, c2, gx]
  · refine ⟨nm, _, .swap nm v b a k m3 c1 hv hb ha hk h3, ?_⟩
    simp [-List.mem_cons, ite_at, sl, ge, sw, c1, c2, c3, c4, a3]
  · refine ⟨_, _, .whole, ?_⟩
    simp [-List.mem_cons, ite_at, sl, ge, sw, c1, c2, c3, c4]
  · refine ⟨nm, _, .tri nm v a b c1 hv ha hb, ?_⟩
    simp [-List.mem_cons, ite_at, sl, ge, sw, c2, c3, c4, c5, c6]
theorem plain_eq (c : Fn → List D → M D) : B__law_plain c = sSeq (sSet 1 (eLst (aCons (eC (.str ("set" : Str))) (aCons (eC (.str ("add" : Str))) (aCons (eC (.str ("sub" : Str))) (aCons (eC (.str ("and" : Str))) (aCons (eC (.str ("xor" : Str))) (aCons (eC (.str ("below" : Str))) (aCons (eC (.str ("get" : Str))) (aCons (eC (.str ("put" : Str))) (aCons (eC (.str ("swap" : Str))) (aCons (eC (.str ("addto" : Str))) (aCons (eC (.str ("await" : Str))) (aCons (eC (.str ("whole" : Str))) (aCons (eC (.str ("get" : Str))) (aCons (eC (.str ("put" : Str))) aNil))))))))))))))))
  (sSeq (sAsg (eTup (aCons (eCall 2 (c ._law_of) (aCons (eVar 0) (aCons (eVar 1) aNil))) (aCons (eCall 2 (c ._law_dip) (aCons (eVar 0) (aCons (eC (.int 6)) aNil))) (aCons (eCall 2 (c ._law_dip) (aCons (eVar 0) (aCons (eC (.int 6)) aNil))) (aCons (eCall 2 (c ._law_dip) (aCons (eVar 0) (aCons (eC (.int 6)) aNil))) aNil))))) (gTupD 4 (gsCons (gSlot 2) (gsCons (gSlot 3) (gsCons (gSlot 4) (gsCons (gSlot 5) gsNil))))))
  (sSeq (sPar2 6 7 (aCons (eCall 1 (c ._law_word) (aCons (eVar 0) aNil)) (aCons (eCall 2 (c ._law_dip) (aCons (eVar 0) (aCons (eC (.int 4)) aNil))) aNil)))
  (PT ("" : Str)))) := rfl
/-- _law_plain -/
theorem ev_lpl {n : Nat} (hn : 4 ≤ n) {st : Sto} {w c : Nat} (h : Well st w c) (hc : c + 20 < 2 ^ 50) :
    ∃ (t : Str) (ps : List D) (st' : Sto), run n ._law_plain [.loc w] st = .ok (.tup (.str t :: ps)) st' ∧ OkPl t ps ∧ Well st' w (c + 10) ∧ Pr w st st' := by
  obtain ⟨m, rfl⟩ : ∃ m, n = m + 1 := ⟨n - 1, by omega⟩
  obtain ⟨x, s1, hx, e1, W1, P1⟩ := ev_of (n := m) (by omega) h (by omega) (xs := names14.map D.str) (by simp [names14]) (by simp [names14])
  obtain ⟨nm, hnm, rfl⟩ := List.mem_map.mp hx
  obtain ⟨v, s2, e2, l2, W2, P2⟩ := ev_dipn (n := m) (by omega) W1 (by omega) (m := 6) (by omega) (by omega)
  obtain ⟨a, s3, e3, l3, W3, P3⟩ := ev_dipn (n := m) (by omega) W2 (by omega) (m := 6) (by omega) (by omega)
  obtain ⟨b, s4, e4, l4, W4, P4⟩ := ev_dipn (n := m) (by omega) W3 (by omega) (m := 6) (by omega) (by omega)
  obtain ⟨k, s5, e5, l5, W5, P5⟩ := ev_wrd (n := m) (by omega) W4 (by omega)
  obtain ⟨y, s6, e6, l6, W6, P6⟩ := ev_dipn (n := m) (by omega) W5 (by omega) (m := 4) (by omega) (by omega)
  obtain ⟨t, ps, ok, et⟩ := tail_ok hnm (x0 := some (.loc w)) (x1 := some (.lst (names14.map D.str))) l2 l3 l4 l5 l6 s6
  refine ⟨t, ps, s6, ?_, ok, W6.mono (by omega), P1.trans (P2.trans (P3.trans (P4.trans (P5.trans P6))))⟩
  show mFun 8 (B__law_plain (run m)) [.loc w] st = _
  rw [plain_eq]
  rw [show ((6 : Nat) : Int) = 6 from rfl] at e2 e3 e4
  rw [show ((4 : Nat) : Int) = 4 from rfl] at e6
  have et2 : PT ("" : Str) [some (.loc w), some (.lst (names14.map D.str)), some (.str nm), some (.int v), some (.int a), some (.int b), some (.int k), some (.int y)] s6 = .ok (.rt (.tup (.str t :: ps))) s6 := et
  generalize PT ("" : Str) = Q at *
  have n14 : names14.map D.str = [.str ("set" : Str), .str ("add" : Str), .str ("sub" : Str), .str ("and" : Str), .str ("xor" : Str), .str ("below" : Str), .str ("get" : Str), .str ("put" : Str), .str ("swap" : Str), .str ("addto" : Str), .str ("await" : Str), .str ("whole" : Str), .str ("get" : Str), .str ("put" : Str)] := rfl
  rw [n14] at e1 et2
  simp [ite_at, sl, e1, e2, e3, e4, e5, e6, et2]
end KT.k71

/-! k71_p14: the law's draws: statements, hands, programs. -/
namespace KT.k71
open PySem PySem.Spec L2 KT TL
open PyProof.Rows hiding St
theorem ds_app (a b : List Sm) : ds (a ++ b) = ds a ++ ds b := by rw [ds_map, ds_map, ds_map, List.map_append]
theorem cnts_app : ∀ (a b : List Sm), cnts (a ++ b) = cnts a + cnts b
  | [], b => by simp [cnts]
  | s :: r, b => by simp only [List.cons_append, cnts, cnts_app r b]; omega
theorem oks_app {a b : List Sm} {l : Nat} (h : oks a l) (k : oks b l) : oks (a ++ b) l := oks_iff.mpr fun s hs => (List.mem_append.mp hs).elim (oks_iff.mp h s) (oks_iff.mp k s)
theorem Pr.set {w f : Nat} {st0 st : Sto} {o : Ob} (h : Pr w st0 st) (hf : st0.length ≤ f) : Pr w st0 (st.set f o) := ⟨by rw [List.length_set]; exact h.len, fun i hi hw => by rw [set_ne (by omega)]; exact h.old i hi hw⟩
theorem Pr.app {w : Nat} {st0 st l : Sto} (h : Pr w st0 st) : Pr w st0 (st ++ l) := ⟨by rw [List.length_append]; have := h.len; omega, fun i hi hw => by rw [app_lt (Nat.lt_of_lt_of_le hi h.len)]; exact h.old i hi hw⟩
theorem Well.set {st : Sto} {w c f : Nat} {o : Ob} (h : Well st w c) (hf : f ≠ w) : Well (st.set f o) w c := by
  obtain ⟨a, b, e, h1, h2⟩ := h
  exact ⟨a, b, e, by rw [set_ne hf]; exact h1, h2⟩
theorem Well.app {st l : Sto} {w c : Nat} (h : Well st w c) : Well (st ++ l) w c := by
  obtain ⟨a, b, e, h1, h2⟩ := h
  exact ⟨a, b, e, by rw [app_lt (lt_of_some h1)]; exact h1, h2⟩
theorem Well.lt {st : Sto} {w c : Nat} (h : Well st w c) : w < st.length := by
  obtain ⟨a, b, e, h1, h2⟩ := h
  exact lt_of_some h1
def AnyOk (f : Fn → List D → M D) (l k : Nat) : Prop := ∀ (st : Sto) (w c : Nat) (left : Int), Well st w c → c + k < 2 ^ 50 → 1 ≤ left →
  ∃ (s : Sm) (st' : Sto), f ._law_any [.loc w, .int l, .int left] st = .ok (.tup [s.d, .int s.cnt]) st' ∧ s.ok l ∧ (s.cnt : Int) ≤ left ∧ Well st' w (c + k) ∧ Pr w st st'
def SomeOk (f : Fn → List D → M D) (l k : Nat) : Prop := ∀ (st : Sto) (w c : Nat) (left : Int), Well st w c → c + k < 2 ^ 50 →
  ∃ (ss : List Sm) (st' : Sto), f ._law_some [.loc w, .int l, .int left] st = .ok (.tup [.tup (ds ss), .int (cnts ss)]) st' ∧ oks ss l ∧ (cnts ss : Int) ≤ max left 0 ∧ Well st' w (c + k) ∧ Pr w st st'
def SB (c : Fn → List D → M D) : SM := (sIf (tVal (eBin dLt (eVar 4) (eVar 2))) (sSeq (sAsg (eCall 3 (c ._law_any) (aCons (eVar 0) (aCons (eVar 1) (aCons (eBin dSub (eVar 2) (eVar 4)) aNil)))) (gTupD 2 (gsCons (gSlot 6) (gsCons (gSlot 7) gsNil))))
  (sSeq (sExpr (eAppend (eVar 3) (eVar 6)))
  (sSet 4 (eBin dAdd (eVar 4) (eVar 7))))) sNil)
theorem some_loop {f : Fn → List D → M D} {l k : Nat} (hA : AnyOk f l k) {w g : Nat} {left : Int} {st0 : Sto} (hg : st0.length ≤ g) (hgw : g ≠ w) : ∀ (is : List D) (ss : List Sm) (st : Sto) (c : Nat) (x5 x6 x7 : Option D),
    is.length ≤ 30 → ss.length + is.length ≤ 60 → st[g]? = some (.lst (ds ss)) → oks ss l → (cnts ss : Int) ≤ max left 0 → Well st w c → c + is.length * k < 2 ^ 50 → Pr w st0 st →
    ∃ (ss' : List Sm) (st' : Sto) (y5 y6 y7 : Option D), forL (gSlot 5) (SB f) is [some (.loc w), some (.int l), some (.int left), some (.loc g), some (.int (cnts ss)), x5, x6, x7] st = .ok (.nx [some (.loc w), some (.int l), some (.int left), some (.loc g), some (.int (cnts ss')), y5, y6, y7]) st' ∧
      st'[g]? = some (.lst (ds ss')) ∧ oks ss' l ∧ (cnts ss' : Int) ≤ max left 0 ∧ Well st' w (c + is.length * k) ∧ Pr w st0 st'
  | [], ss, st, c, x5, x6, x7, _, _, h1, h2, h3, h4, h5, h6 => ⟨ss, st, x5, x6, x7, rfl, h1, h2, h3, by simpa using h4, h6⟩
  | i :: is, ss, st, c, x5, x6, x7, hl, hl2, h1, h2, h3, h4, h5, h6 => by
    rw [List.length_cons] at hl hl2 h5
    have e5 : (is.length + 1) * k = k + is.length * k := by rw [Nat.add_mul, Nat.one_mul, Nat.add_comm]
    rw [e5] at h5
    have q : gSlot 5 i [some (.loc w), some (.int l), some (.int left), some (.loc g), some (.int (cnts ss)), x5, x6, x7] st = .ok [some (.loc w), some (.int l), some (.int left), some (.loc g), some (.int (cnts ss)), some i, x6, x7] st := rfl
    by_cases hu : (cnts ss : Int) < left
    · obtain ⟨s, s1, e1, o1, c1, W1, P1⟩ := hA st w c (left - cnts ss) h4 (by omega) (by omega)
      have gl := lt_of_some h1
      have g1 : s1[g]? = some (.lst (ds ss)) := by rw [P1.old g gl hgw]; exact h1
      have g1' := get_at g1
      have b1 : SB f [some (.loc w), some (.int l), some (.int left), some (.loc g), some (.int (cnts ss)), some i, x6, x7] st = .ok (.nx [some (.loc w), some (.int l), some (.int left), some (.loc g), some (.int (cnts (ss ++ [s]))), some i, some s.d, some (.int s.cnt)]) (s1.set g (.lst (ds (ss ++ [s])))) := by
        have z : (ds ss).length < 16777216 := by rw [ds_len]; omega
        have e6 : ((cnts (ss ++ [s]) : Nat) : Int) = (cnts ss : Int) + (s.cnt : Int) := by rw [cnts_app]; simp [cnts]
        have e7 : ds (ss ++ [s]) = ds ss ++ [s.d] := by rw [ds_app]; rfl
        rw [e6, e7]
        unfold SB
        simp [ite_at, hu, e1, g1', appM, putM, z, sl]
      have hB : c + k + is.length * k < 2 ^ 50 := by omega
      have hC : ((cnts (ss ++ [s]) : Nat) : Int) ≤ max left 0 := by rw [cnts_app]; simp only [cnts]; omega
      have hD : (ss ++ [s]).length + is.length ≤ 60 := by simp; omega
      have hE : is.length ≤ 30 := by omega
      obtain ⟨ss', st', y5, y6, y7, e, k1, k2, k3, k4, k6⟩ := some_loop hA hg hgw is (ss ++ [s]) (s1.set g (.lst (ds (ss ++ [s])))) (c + k) (some i) (some s.d) (some (.int s.cnt)) hE hD (set_eq (lt_of_some g1)) (oks_app h2 (by simpa [oks] using o1)) hC (W1.set hgw) hB ((h6.trans P1).set hg)
      refine ⟨ss', st', y5, y6, y7, ?_, k1, k2, k3, by rw [List.length_cons, e5]; rw [Nat.add_assoc] at k4; exact k4, k6⟩
      rw [for_nx q b1, e]
    · have b1 : SB f [some (.loc w), some (.int l), some (.int left), some (.loc g), some (.int (cnts ss)), some i, x6, x7] st = .ok (.nx [some (.loc w), some (.int l), some (.int left), some (.loc g), some (.int (cnts ss)), some i, x6, x7]) st := by
        unfold SB
        simp [ite_at, hu]
      obtain ⟨ss', st', y5, y6, y7, e, k1, k2, k3, k4, k6⟩ := some_loop hA hg hgw is ss st c (some i) x6 x7 (by omega) (by omega) h1 h2 h3 h4 (by omega) h6
      refine ⟨ss', st', y5, y6, y7, ?_, k1, k2, k3, k4.mono (by rw [List.length_cons, e5]; omega), k6⟩
      rw [for_nx q b1, e]
theorem some_of_any {n l k : Nat} (hn : 2 ≤ n) (hA : AnyOk (run n) l k) : SomeOk (run (n + 1)) l (25 * k + 4) := by
  intro st w c left h hc
  obtain ⟨x, s1, hx, e1, W1, P1⟩ := ev_of (n := n) hn (st := st ++ [Ob.lst []]) h.app (by omega) (xs := [.int 2, .int 4, .int 7, .int 25]) (by simp) (by simp)
  obtain ⟨m, rfl, hm0, hm⟩ : ∃ m : Nat, x = .int m ∧ 0 < m ∧ m ≤ 25 := by
    simp only [List.mem_cons, List.not_mem_nil, or_false] at hx
    rcases hx with rfl | rfl | rfl | rfl
    · exact ⟨2, rfl, by omega, by omega⟩
    · exact ⟨4, rfl, by omega, by omega⟩
    · exact ⟨7, rfl, by omega, by omega⟩
    · exact ⟨25, rfl, by omega, by omega⟩
  obtain ⟨t, s2, e2, l2, W2, P2⟩ := ev_dipn (n := n) (by omega) W1 (by omega) (m := m) hm0 (by omega)
  have hgw : st.length ≠ w := Nat.ne_of_gt h.lt
  have P02 : Pr w st s2 := ((Pr.refl w st).app).trans (P1.trans P2)
  have g0 : s2[st.length]? = some (.lst (ds [])) := by
    rw [(P1.trans P2).old st.length (by simp) hgw, List.getElem?_append_right (Nat.le_refl _)]
    simp [ds]
  have hk : t * k ≤ 25 * k := Nat.mul_le_mul_right k (by omega)
  have hlen : ((List.range t).map fun i => D.int (i : Nat)).length = t := by simp
  obtain ⟨ss, st', y5, y6, y7, e, k1, k2, k3, k4, k6⟩ := some_loop hA (g := st.length) (left := left) (st0 := st) (Nat.le_refl _) hgw ((List.range t).map fun i => D.int (i : Nat)) [] s2 (c + 1 + 1) none none none (by rw [hlen]; omega) (by rw [hlen]; simp; omega) g0 trivial (by simp [cnts]; omega) W2 (by rw [hlen]; omega) P02
  rw [hlen] at k4
  refine ⟨ss, st', ?_, k2, k3, k4.mono (by omega), k6⟩
  show mFun 8 (B__law_some (run n)) [.loc w, .int l, .int left] st = _
  have eqB : B__law_some (run n) = sSeq (sPar2 3 4 (aCons (eNew aNil) (aCons (eC (.int 0)) aNil))) (sSeq (sFor (iRange1 (aCons (eCall 2 (run n ._law_dip) (aCons (eVar 0) (aCons (eCall 2 (run n ._law_of) (aCons (eVar 0) (aCons (eLst (aCons (eC (.int 2)) (aCons (eC (.int 4)) (aCons (eC (.int 7)) (aCons (eC (.int 25)) aNil))))) aNil))) aNil))) aNil)) (gSlot 5) (SB (run n))) (sRet (eTup (aCons (eFn (f1 dTupOf) (aCons (eVar 3) aNil)) (aCons (eVar 4) aNil))))) := rfl
  rw [eqB]
  have r1 : iRange1 (aCons (eCall 2 (run n ._law_dip) (aCons (eVar 0) (aCons (eCall 2 (run n ._law_of) (aCons (eVar 0) (aCons (eLst (aCons (eC (.int 2)) (aCons (eC (.int 4)) (aCons (eC (.int 7)) (aCons (eC (.int 25)) aNil))))) aNil))) aNil))) aNil) [some (.loc w), some (.int l), some (.int left), some (.loc st.length), some (.int 0), none, none, none] (st ++ [Ob.lst []]) = .ok ((List.range t).map fun i => D.int (i : Nat)) s2 := range_of (n := t) (by omega) (by simp [ite_at, sl, e1, e2])
  have r2 := (sfor_of (g := gSlot 5) (b := SB (run n)) r1).trans e
  generalize sFor (iRange1 (aCons (eCall 2 (run n ._law_dip) (aCons (eVar 0) (aCons (eCall 2 (run n ._law_of) (aCons (eVar 0) (aCons (eLst (aCons (eC (.int 2)) (aCons (eC (.int 4)) (aCons (eC (.int 7)) (aCons (eC (.int 25)) aNil))))) aNil))) aNil))) aNil)) (gSlot 5) (SB (run n)) = Q at *
  have k1' := get_at k1
  simp [ite_at, sl, r2, k1']

theorem any_of_some {n l k : Nat} (hn : 4 ≤ n) (hl : l ≤ 4) (hS : l < 4 → SomeOk (run n) (l + 1) k) : AnyOk (run (n + 1)) l (2 * k + 40) := by
  intro st w c left h hc h0
  obtain ⟨way, s1, e1, l1, W1, P1⟩ := ev_dipn (n := n) (by omega) h (by omega) (m := 6) (by omega) (by omega)
  rw [show ((6 : Nat) : Int) = 6 from rfl] at e1
  have i1 : ((l + 1 : Nat) : Int) = (l : Int) + 1 := by omega
  have goal : ∀ (s : Sm) (st' : Sto), mFun 6 (B__law_any (run n)) [.loc w, .int l, .int left] st = .ok (.tup [s.d, .int s.cnt]) st' → run (n + 1) ._law_any [.loc w, .int l, .int left] st = .ok (.tup [s.d, .int s.cnt]) st' := fun _ _ e => e
  have hd : ∀ (e : Int), ∀ k2 : SM, sSeq (sPar3 3 4 5 (aCons (eCall 2 (run n ._law_dip) (aCons (eVar 0) (aCons (eC (.int 6)) aNil))) (aCons (eTup (aCons (eTup aNil) (aCons (eC (.int 0)) aNil))) (aCons (eTup (aCons (eTup aNil) (aCons (eC (.int 0)) aNil))) aNil)))) k2 [some (.loc w), some (.int l), some (.int left), none, none, none] st = k2 [some (.loc w), some (.int l), some (.int left), some (.int way), some (.tup [.tup [], .int 0]), some (.tup [.tup [], .int 0])] s1 := fun e k2 => by
    simp [ite_at, sl, e1]
  by_cases h1 : way = 0
  · subst h1
    by_cases h4 : l < 4
    · have l4 : (l : Int) < 4 := by omega
      obtain ⟨a, s2, e2, o2, c2, W2, P2⟩ := hS h4 s1 w (c + 1) (left - 1) W1 (by omega)
      obtain ⟨b, s3, e3, o3, c3, W3, P3⟩ := hS h4 s2 w (c + 1 + k) (left - 1 - cnts a) W2 (by omega)
      obtain ⟨v, s4, e4, l4', W4, P4⟩ := ev_dipn (n := n) (by omega) W3 (by omega) (m := 6) (by omega) (by omega)
      rw [show ((6 : Nat) : Int) = 6 from rfl] at e4
      rw [i1] at e2 e3
      have ok : (Sm.iff v a b).ok l := by simp only [Sm.ok]; exact ⟨by omega, l4', o2, o3⟩
      refine ⟨.iff v a b, s4, goal _ _ ?_, ok, by simp only [Sm.cnt]; omega, W4.mono (by omega), P1.trans (P2.trans (P3.trans P4))⟩
      rw [v_fun, show List.map some [D.loc w, D.int l, D.int left] ++ List.replicate (6 - [D.loc w, D.int l, D.int left].length) none = [some (.loc w), some (.int l), some (.int left), none, none, none] from rfl]
      unfold B__law_any
      rw [hd 0]
      have ec : ((Sm.cnt (.iff v a b) : Nat) : Int) = 1 + (cnts a : Int) + (cnts b : Int) := by simp only [Sm.cnt]; omega
      rw [ec]
      simp [ite_at, sl, l4, e2, e3, e4, Sm.d]
    · obtain ⟨v, s4, e4, l4', W4, P4⟩ := ev_dipn (n := n) (by omega) W1 (by omega) (m := 6) (by omega) (by omega)
      rw [show ((6 : Nat) : Int) = 6 from rfl] at e4
      have l4 : ¬ ((l : Int) < 4) := by omega
      have ok : (Sm.iff v [] []).ok l := by simp only [Sm.ok]; exact ⟨by omega, l4', trivial, trivial⟩
      refine ⟨.iff v [] [], s4, goal _ _ ?_, ok, by simp only [Sm.cnt, cnts]; omega, W4.mono (by omega), P1.trans P4⟩
      rw [v_fun, show List.map some [D.loc w, D.int l, D.int left] ++ List.replicate (6 - [D.loc w, D.int l, D.int left].length) none = [some (.loc w), some (.int l), some (.int left), none, none, none] from rfl]
      unfold B__law_any
      rw [hd 0]
      simp [ite_at, sl, l4, e4, Sm.d, Sm.cnt, cnts, ds]
  · have h1' : ¬ ((way : Int) = 0) := by omega
    by_cases h2 : way = 1
    · subst h2
      by_cases h4 : l < 4
      · have l4 : (l : Int) < 4 := by omega
        obtain ⟨a, s2, e2, o2, c2, W2, P2⟩ := hS h4 s1 w (c + 1) (left - 1) W1 (by omega)
        obtain ⟨v, s3, e3, l3, W3, P3⟩ := ev_dipn (n := n) (by omega) W2 (by omega) (m := 9) (by omega) (by omega)
        obtain ⟨x, s4, hx, e4, W4, P4⟩ := ev_of (n := n) (by omega) W3 (by omega) (xs := [.int 0, .int 1, .int 2, .int 3, .int v]) (by simp) (by simp)
        obtain ⟨t, rfl, ht⟩ : ∃ t : Nat, x = .int t ∧ t ≤ 8 := by
          simp only [List.mem_cons, List.not_mem_nil, or_false] at hx
          rcases hx with rfl | rfl | rfl | rfl | rfl
          · exact ⟨0, rfl, by omega⟩
          · exact ⟨1, rfl, by omega⟩
          · exact ⟨2, rfl, by omega⟩
          · exact ⟨3, rfl, by omega⟩
          · exact ⟨v, rfl, by omega⟩
        rw [show ((9 : Nat) : Int) = 9 from rfl] at e3
        rw [i1] at e2
        have ok : (Sm.ag t a).ok l := by simp only [Sm.ok]; exact ⟨by omega, ht, o2⟩
        refine ⟨.ag t a, s4, goal _ _ ?_, ok, by simp only [Sm.cnt]; omega, W4.mono (by omega), P1.trans (P2.trans (P3.trans P4))⟩
        rw [v_fun, show List.map some [D.loc w, D.int l, D.int left] ++ List.replicate (6 - [D.loc w, D.int l, D.int left].length) none = [some (.loc w), some (.int l), some (.int left), none, none, none] from rfl]
        unfold B__law_any
        rw [hd 0]
        have ec : ((Sm.cnt (.ag t a) : Nat) : Int) = 1 + (cnts a : Int) := by simp only [Sm.cnt]; omega
        rw [ec]
        simp [ite_at, sl, l4, e2, e3, e4, Sm.d]
      · obtain ⟨v, s3, e3, l3, W3, P3⟩ := ev_dipn (n := n) (by omega) W1 (by omega) (m := 9) (by omega) (by omega)
        obtain ⟨x, s4, hx, e4, W4, P4⟩ := ev_of (n := n) (by omega) W3 (by omega) (xs := [.int 0, .int 1, .int 2, .int 3, .int v]) (by simp) (by simp)
        obtain ⟨t, rfl, ht⟩ : ∃ t : Nat, x = .int t ∧ t ≤ 8 := by
          simp only [List.mem_cons, List.not_mem_nil, or_false] at hx
          rcases hx with rfl | rfl | rfl | rfl | rfl
          · exact ⟨0, rfl, by omega⟩
          · exact ⟨1, rfl, by omega⟩
          · exact ⟨2, rfl, by omega⟩
          · exact ⟨3, rfl, by omega⟩
          · exact ⟨v, rfl, by omega⟩
        rw [show ((9 : Nat) : Int) = 9 from rfl] at e3
        have l4 : ¬ ((l : Int) < 4) := by omega
        have ok : (Sm.ag t []).ok l := by simp only [Sm.ok]; exact ⟨by omega, ht, trivial⟩
        refine ⟨.ag t [], s4, goal _ _ ?_, ok, by simp only [Sm.cnt, cnts]; omega, W4.mono (by omega), P1.trans (P3.trans P4)⟩
        rw [v_fun, show List.map some [D.loc w, D.int l, D.int left] ++ List.replicate (6 - [D.loc w, D.int l, D.int left].length) none = [some (.loc w), some (.int l), some (.int left), none, none, none] from rfl]
        unfold B__law_any
        rw [hd 0]
        simp [ite_at, sl, l4, e3, e4, Sm.d, Sm.cnt, cnts, ds]
    · have h2' : ¬ ((way : Int) = 1) := by omega
      obtain ⟨t, ps, s2, e2, ok2, W2, P2⟩ := ev_lpl (n := n) hn W1 (by omega)
      have ok : (Sm.pl t ps).ok l := by simp only [Sm.ok]; exact ⟨by omega, ok2⟩
      refine ⟨.pl t ps, s2, goal _ _ ?_, ok, by simp only [Sm.cnt]; omega, W2.mono (by omega), P1.trans P2⟩
      rw [v_fun, show List.map some [D.loc w, D.int l, D.int left] ++ List.replicate (6 - [D.loc w, D.int l, D.int left].length) none = [some (.loc w), some (.int l), some (.int left), none, none, none] from rfl]
      unfold B__law_any
      rw [hd 0]
      simp [ite_at, sl, h1, h2, h1', h2', e2, Sm.d, Sm.cnt]
theorem some1 {n : Nat} (hn : 20 ≤ n) : SomeOk (run n) 1 200000000 := by
  obtain ⟨m, rfl⟩ : ∃ m, n = m + 8 := ⟨n - 8, by omega⟩
  have a4 : AnyOk (run (m + 1)) 4 40 := any_of_some (k := 0) (by omega) (by omega) fun h => absurd h (by omega)
  have s4 := some_of_any (by omega) a4
  have a3 := any_of_some (n := m + 2) (l := 3) (by omega) (by omega) fun _ => s4
  have s3 := some_of_any (by omega) a3
  have a2 := any_of_some (n := m + 4) (l := 2) (by omega) (by omega) fun _ => s3
  have s2 := some_of_any (by omega) a2
  have a1 := any_of_some (n := m + 6) (l := 1) (by omega) (by omega) fun _ => s2
  have s1 := some_of_any (by omega) a1
  intro st w c left h hc
  obtain ⟨ss, st', e, o, q, W, P⟩ := s1 st w c left h (by omega)
  exact ⟨ss, st', e, o, q, W.mono (by omega), P⟩
end KT.k71

/-! k71_p15: the law's draws: hands, programs, the well. -/
namespace KT.k71
open PySem PySem.Spec L2 KT TL
open PyProof.Rows hiding St
def DB (c : Fn → List D → M D) : SM := (sIf (tVal (eBin dEq (eCall 2 (c ._law_dip) (aCons (eVar 0) (aCons (eC (.int 2)) aNil))) (eC (.int 0)))) (sSet 1 (eTup (aCons (eTup (aCons (eC (.str ("again" : Str))) (aCons (eCall 2 (c ._law_of) (aCons (eVar 0) (aCons (eLst (aCons (eC (.int 1)) (aCons (eC (.int 2)) (aCons (eCall 2 (c ._law_dip) (aCons (eVar 0) (aCons (eC (.int 9)) aNil))) aNil)))) aNil))) (aCons (eVar 1) aNil)))) aNil))) (sSet 1 (eIf (tVal (eBin dEq (eCall 2 (c ._law_dip) (aCons (eVar 0) (aCons (eC (.int 2)) aNil))) (eC (.int 0)))) (eTup (aCons (eTup (aCons (eC (.str ("if" : Str))) (aCons (eCall 2 (c ._law_dip) (aCons (eVar 0) (aCons (eC (.int 6)) aNil))) (aCons (eVar 1) (aCons (eTup aNil) aNil))))) aNil)) (eTup (aCons (eTup (aCons (eC (.str ("if" : Str))) (aCons (eC (.int 0)) (aCons (eTup aNil) (aCons (eVar 1) aNil))))) aNil)))))
theorem deep_one {n : Nat} (hn : 2 ≤ n) {l : Nat} (hl : l ≤ 3) {f : List Sm} (ok : oks f (l + 1)) {st : Sto} {w c : Nat} (h : Well st w c) (hc : c + 10 < 2 ^ 50) (x : Option D) :
    ∃ (s : Sm) (st' : Sto), DB (run n) [some (.loc w), some (.tup (ds f)), x] st = .ok (.nx [some (.loc w), some (.tup (ds [s])), x]) st' ∧ s.ok l ∧ s.cnt = 1 + cnts f ∧ Well st' w (c + 5) ∧ Pr w st st' := by
  obtain ⟨a, s1, e1, l1, W1, P1⟩ := ev_dipn (n := n) (by omega) h (by omega) (m := 2) (by omega) (by omega)
  rw [show ((2 : Nat) : Int) = 2 from rfl] at e1
  by_cases h1 : a = 0
  · subst h1
    obtain ⟨v, s3, e3, l3, W3, P3⟩ := ev_dipn (n := n) (by omega) W1 (by omega) (m := 9) (by omega) (by omega)
    obtain ⟨y, s4, hx, e4, W4, P4⟩ := ev_of (n := n) (by omega) W3 (by omega) (xs := [.int 1, .int 2, .int v]) (by simp) (by simp)
    obtain ⟨t, rfl, ht⟩ : ∃ t : Nat, y = .int t ∧ t ≤ 8 := by
      simp only [List.mem_cons, List.not_mem_nil, or_false] at hx
      rcases hx with rfl | rfl | rfl
      · exact ⟨1, rfl, by omega⟩
      · exact ⟨2, rfl, by omega⟩
      · exact ⟨v, rfl, by omega⟩
    rw [show ((9 : Nat) : Int) = 9 from rfl] at e3
    refine ⟨.ag t f, s4, ?_, by simp only [Sm.ok]; exact ⟨by omega, ht, ok⟩, by simp only [Sm.cnt], W4.mono (by omega), P1.trans (P3.trans P4)⟩
    unfold DB
    simp [ite_at, sl, e1, e3, e4, ds, Sm.d]
  · obtain ⟨b, s2, e2, l2, W2, P2⟩ := ev_dipn (n := n) (by omega) W1 (by omega) (m := 2) (by omega) (by omega)
    rw [show ((2 : Nat) : Int) = 2 from rfl] at e2
    by_cases h2 : b = 0
    · subst h2
      obtain ⟨v, s3, e3, l3, W3, P3⟩ := ev_dipn (n := n) (by omega) W2 (by omega) (m := 6) (by omega) (by omega)
      rw [show ((6 : Nat) : Int) = 6 from rfl] at e3
      refine ⟨.iff v f [], s3, ?_, by simp only [Sm.ok]; exact ⟨by omega, l3, ok, trivial⟩, by simp only [Sm.cnt, cnts]; omega, W3.mono (by omega), P1.trans (P2.trans P3)⟩
      unfold DB
      simp [ite_at, sl, e1, h1, e2, e3, ds, Sm.d]
    · refine ⟨.iff 0 [] f, s2, ?_, by simp only [Sm.ok]; exact ⟨by omega, by omega, trivial, ok⟩, by simp [Sm.cnt, cnts], W2.mono (by omega), P1.trans P2⟩
      unfold DB
      simp [ite_at, sl, e1, h1, e2, h2, ds, Sm.d]
theorem ev_deep {n : Nat} (hn : 5 ≤ n) {st : Sto} {w c : Nat} (h : Well st w c) (hc : c + 60 < 2 ^ 50) :
    ∃ (ss : List Sm) (st' : Sto), run n ._law_deep [.loc w] st = .ok (.tup (ds ss)) st' ∧ oks ss 1 ∧ cnts ss ≤ 24 ∧ Well st' w (c + 50) ∧ Pr w st st' := by
  obtain ⟨m, rfl⟩ : ∃ m, n = m + 1 := ⟨n - 1, by omega⟩
  obtain ⟨t, ps, s0, e0, ok0, W0', P0⟩ := ev_lpl (n := m) (by omega) h (by omega)
  have o0 : oks [Sm.pl t ps] (3 + 1) := by simp only [oks, Sm.ok]; exact ⟨⟨by omega, ok0⟩, trivial⟩
  obtain ⟨a1, s1, e1, o1, c1, W1, P1⟩ := deep_one (n := m) (by omega) (l := 3) (by omega) o0 W0' (by omega) (some (.int (0 : Nat)))
  obtain ⟨a2, s2, e2, o2, c2, W2, P2⟩ := deep_one (n := m) (by omega) (l := 2) (f := [a1]) (by omega) (by simpa [oks] using o1) W1 (by omega) (some (.int (1 : Nat)))
  obtain ⟨a3, s3, e3, o3, c3, W3, P3⟩ := deep_one (n := m) (by omega) (l := 1) (f := [a2]) (by omega) (by simpa [oks] using o2) W2 (by omega) (some (.int (2 : Nat)))
  refine ⟨[a3], s3, ?_, by simpa [oks] using o3, ?_, W3.mono (by omega), P0.trans (P1.trans (P2.trans P3))⟩
  · show mFun 3 (B__law_deep (run m)) [.loc w] st = _
    have eqB : B__law_deep (run m) = sSeq (sSet 1 (eTup (aCons (eCall 1 (run m ._law_plain) (aCons (eVar 0) aNil)) aNil))) (sSeq (sFor (iRange1 (aCons (eC (.int 3)) aNil)) (gSlot 2) (DB (run m))) (sRet (eVar 1))) := rfl
    rw [eqB]
    have r1 : iRange1 (aCons (eC (.int 3)) aNil) [some (.loc w), some (.tup [.tup (.str t :: ps)]), none] s0 = .ok [.int (0 : Nat), .int (1 : Nat), .int (2 : Nat)] s0 := range_of (n := 3) (by omega) (by simp)
    have d0 : D.tup (ds [Sm.pl t ps]) = .tup [.tup (.str t :: ps)] := by simp [ds, Sm.d]
    rw [d0] at e1
    have l1 : forL (gSlot 2) (DB (run m)) [.int (0 : Nat), .int (1 : Nat), .int (2 : Nat)] [some (.loc w), some (.tup [.tup (.str t :: ps)]), none] s0 = .ok (.nx [some (.loc w), some (.tup (ds [a3])), some (.int (2 : Nat))]) s3 := by
      rw [for_nx (show gSlot 2 _ _ _ = .ok [some (.loc w), some (.tup [.tup (.str t :: ps)]), some (.int (0 : Nat))] s0 from rfl) e1, for_nx (show gSlot 2 _ _ _ = .ok [some (.loc w), some (.tup (ds [a1])), some (.int (1 : Nat))] s1 from rfl) e2, for_nx (show gSlot 2 _ _ _ = .ok [some (.loc w), some (.tup (ds [a2])), some (.int (2 : Nat))] s2 from rfl) e3]
      rfl
    have r2 := (sfor_of (g := gSlot 2) (b := DB (run m)) r1).trans l1
    generalize sFor (iRange1 (aCons (eC (.int 3)) aNil)) (gSlot 2) (DB (run m)) = Q at *
    simp [ite_at, sl, e0, r2]
  · simp only [cnts, Sm.cnt] at *
    omega
/-- statements by a comprehension -/
theorem comp_pl {n : Nat} (hn : 4 ≤ n) {w : Nat} {y x : Option D} : ∀ (is : List D) (st : Sto) (c : Nat), Well st w c → c + 10 * is.length + 20 < 2 ^ 50 →
    ∃ (ss : List Sm) (st' : Sto), compL (gSlot 2) tYesM (eCall 1 (run n ._law_plain) (aCons (eVar 0) aNil)) [some (.loc w), y, x] is st = .ok (ds ss) st' ∧ oks ss 1 ∧ cnts ss = is.length ∧ Well st' w (c + 10 * is.length) ∧ Pr w st st'
  | [], st, c, h, hc => ⟨[], st, rfl, trivial, rfl, h, Pr.refl _ _⟩
  | i :: is, st, c, h, hc => by
    rw [List.length_cons] at hc
    obtain ⟨t, ps, s1, e1, o1, W1, P1⟩ := ev_lpl (n := n) hn h (by omega)
    obtain ⟨ss, s2, e2, o2, c2, W2, P2⟩ := comp_pl hn (y := y) (x := x) is s1 (c + 10) W1 (by omega)
    refine ⟨.pl t ps :: ss, s2, ?_, ?_, ?_, W2.mono (by rw [List.length_cons]; omega), P1.trans P2⟩
    · unfold compL
      simp [ite_at, e1, e2, ds, Sm.d]
    · simp only [oks, Sm.ok]; exact ⟨⟨by omega, o1⟩, o2⟩
    · simp only [cnts, Sm.cnt, c2, List.length_cons]; omega
theorem ev_lhand {n : Nat} (hn : 21 ≤ n) {st : Sto} {w c : Nat} (h : Well st w c) (hc : c + 300000000 < 2 ^ 50) :
    ∃ (ss : List Sm) (st' : Sto), run n ._law_hand [.loc w] st = .ok (.tup (ds ss)) st' ∧ oks ss 1 ∧ cnts ss ≤ 24 ∧ Well st' w (c + 250000000) ∧ Pr w st st' := by
  obtain ⟨m, rfl⟩ : ∃ m, n = m + 1 := ⟨n - 1, by omega⟩
  obtain ⟨a, s1, e1, l1, W1, P1⟩ := ev_dipn (n := m) (by omega) h (by omega) (m := 8) (by omega) (by omega)
  rw [show ((8 : Nat) : Int) = 8 from rfl] at e1
  show ∃ (ss : List Sm) (st' : Sto), mFun 3 (B__law_hand (run m)) [.loc w] st = _ ∧ _
  unfold B__law_hand
  by_cases h0 : a = 0
  · subst h0
    refine ⟨[], s1, ?_, trivial, by simp [cnts], W1.mono (by omega), P1⟩
    simp [ite_at, sl, e1, ds]
  · by_cases h1 : a = 1
    · subst h1
      obtain ⟨ss, s2, e2, o2, c2, W2, P2⟩ := comp_pl (n := m) (by omega) (w := w) (y := some (.int (1 : Nat))) (x := none) ((List.range 24).map fun i => D.int (i : Nat)) s1 (c + 1) W1 (by simp; omega)
      have r1 : iRange1 (aCons (eC (.int 24)) aNil) [some (.loc w), some (.int (1 : Nat)), none] s1 = .ok ((List.range 24).map fun i => D.int (i : Nat)) s1 := range_of (n := 24) (by omega) (by simp)
      have hl : ((List.range 24).map fun i => D.int (i : Nat)).length = 24 := by simp
      rw [hl] at c2 W2
      generalize (List.range 24).map (fun i => D.int (i : Nat)) = rr at *
      rw [show ((1 : Nat) : Int) = 1 from rfl] at r1 e2 e1
      refine ⟨ss, s2, ?_, o2, by omega, W2.mono (by omega), P1.trans P2⟩
      simp [-v_range, ite_at, sl, e1, r1, hl, wipeD, e2]
    · by_cases h2 : a = 2
      · subst h2
        obtain ⟨ss, s2, e2, o2, c2, W2, P2⟩ := ev_deep (n := m) (by omega) W1 (by omega)
        refine ⟨ss, s2, ?_, o2, c2, W2.mono (by omega), P1.trans P2⟩
        simp [ite_at, sl, e1, e2]
      · obtain ⟨ss, s2, e2, o2, c2, W2, P2⟩ := some1 (n := m) (by omega) s1 w (c + 1) 24 W1 (by omega)
        rw [show ((1 : Nat) : Int) = 1 from rfl] at e2
        refine ⟨ss, s2, ?_, o2, by omega, W2.mono (by omega), P1.trans P2⟩
        have h0' : ¬ ((a : Int) = 0) := by omega
        have h1' : ¬ ((a : Int) = 1) := by omega
        have h2' : ¬ ((a : Int) = 2) := by omega
        simp [ite_at, sl, e1, h0, h1, h2, h0', h1', h2', e2]
theorem comp_hd {n : Nat} (hn : 21 ≤ n) {w : Nat} {x : Option D} : ∀ (is : List D) (st : Sto) (c : Nat), is.length ≤ 10 → Well st w c → c + 250000000 * is.length + 300000000 < 2 ^ 50 →
    ∃ (p : List (List Sm)) (st' : Sto), compL (gSlot 1) tYesM (eCall 1 (run n ._law_hand) (aCons (eVar 0) aNil)) [some (.loc w), x] is st = .ok (p.map fun h => .tup (ds h)) st' ∧ (∀ h ∈ p, oks h 1 ∧ cnts h ≤ 24) ∧ p.length = is.length ∧ Well st' w (c + 250000000 * is.length) ∧ Pr w st st'
  | [], st, c, _, h, hc => ⟨[], st, rfl, ⟨(fun _ z => nomatch z), rfl, h, Pr.refl _ _⟩⟩
  | i :: is, st, c, hl, h, hc => by
    rw [List.length_cons] at hc hl
    obtain ⟨ss, s1, e1, o1, c1, W1, P1⟩ := ev_lhand (n := n) hn h (by omega)
    obtain ⟨p, s2, e2, o2, c2, W2, P2⟩ := comp_hd hn (x := x) is s1 (c + 250000000) (by omega) W1 (by omega)
    refine ⟨ss :: p, s2, ?_, ?_, by simp [c2], W2.mono (by rw [List.length_cons]; omega), P1.trans P2⟩
    · unfold compL
      simp [ite_at, e1, e2]
    · intro h hh
      rcases List.mem_cons.mp hh with rfl | hh
      · exact ⟨o1, c1⟩
      · exact o2 h hh
theorem ev_lprog {n : Nat} (hn : 22 ≤ n) {st : Sto} {w c : Nat} (h : Well st w c) (hc : c + 3000000000 < 2 ^ 50) :
    ∃ (p : Pg) (st' : Sto), run n ._law_program [.loc w] st = .ok p.d st' ∧ p.ok ∧ Well st' w (c + 2000000000) ∧ Pr w st st' := by
  obtain ⟨m, rfl⟩ : ∃ m, n = m + 1 := ⟨n - 1, by omega⟩
  obtain ⟨a, s1, e1, l1, W1, P1⟩ := ev_dipn (n := m) (by omega) h (by omega) (m := 4) (by omega) (by omega)
  rw [show ((4 : Nat) : Int) = 4 from rfl] at e1
  have hl : ((List.range (1 + a)).map fun i => D.int (i : Nat)).length = 1 + a := by simp
  obtain ⟨p, s2, e2, o2, c2, W2, P2⟩ := comp_hd (n := m) (by omega) (w := w) (x := none) ((List.range (1 + a)).map fun i => D.int (i : Nat)) s1 (c + 1) (by rw [hl]; omega) W1 (by rw [hl]; omega)
  rw [hl] at c2 W2
  refine ⟨p, s2, ?_, ⟨fun e => by rw [e] at c2; simp at c2; omega, by omega, o2⟩, W2.mono (by omega), P1.trans P2⟩
  show mFun 2 (B__law_program (run m)) [.loc w] st = _
  unfold B__law_program
  have r1 : iRange1 (aCons (eBin dAdd (eC (.int 1)) (eCall 2 (run m ._law_dip) (aCons (eVar 0) (aCons (eC (.int 4)) aNil)))) aNil) [some (.loc w), none] st = .ok ((List.range (1 + a)).map fun i => D.int (i : Nat)) s1 := range_of (n := 1 + a) (by omega) (by
    have : ((1 + a : Nat) : Int) = 1 + (a : Int) := by omega
    rw [this]
    simp [ite_at, e1])
  have hl2 : ((List.range (1 + a)).map fun i => D.int (i : Nat)).length ≤ 16777216 := by rw [hl]; omega
  generalize (List.range (1 + a)).map (fun i => D.int (i : Nat)) = rr at *
  unfold Pg.d
  simp [-v_range, -List.map_map, ite_at, sl, r1, hl2, wipeD, e2]
end KT.k71

/-! k71_p16: the well, the law. -/
namespace KT.k71
open PySem PySem.Spec L2 KT TL
open PyProof.Rows hiding St
def WB : SM := (sSet 3 (eBin dMod (eFn (f1 dIntOf) (aCons (eBin dAdd (eBin dMul (eVar 3) (eC (.int 69621))) (eBin dMul (eBin dAdd (eVar 4) (eC (.int 2))) (eBin dMod (eFn (f1 dIntOf) (aCons (eVar 5) aNil)) (eBin dAdd (eBin dPow (eC (.int 10)) (eC (.int 24))) (eC (.int 7)))))) aNil)) (eBin dAdd (eBin dPow (eC (.int 10)) (eC (.int 30))) (eC (.int 57)))))
theorem kk {st : Sto} (k v d r : Int) (h : powC 10 k) (e : (10 : Int) ^ k.toNat = v) (e2 : v + d = r) (ρ : En) : eBin dAdd (eBin dPow (eC (.int 10)) (eC (.int k))) (eC (.int d)) ρ st = .ok (.int r) st := bin_at (bin_at (c_at _) (c_at _) (pw h e)) (c_at _) (by rw [add_at, e2])
theorem wb_one {st : Sto} {x0 x1 x2 : Option D} {t i z : Int} (hi : i.natAbs < 2 ^ 50) : ∃ t' : Int, WB [x0, x1, x2, some (.int t), some (.int i), some (.int z)] st = .ok (.nx [x0, x1, x2, some (.int t'), some (.int i), some (.int z)]) st := by
  have k24 := kk (st := st) 24 1000000000000000000000000 7 1000000000000000000000007 (by decide +kernel) (by decide +kernel) (by decide +kernel)
  have k30 := kk (st := st) 30 1000000000000000000000000000000 57 1000000000000000000000000000057 (by decide +kernel) (by decide +kernel) (by decide +kernel)
  have m1 : mulC t 69621 := .inr (.inl (by decide))
  have m2 : mulC (i + 2) (z % 1000000000000000000000007) := .inl (by
    have p : (2 : Nat) ^ 50 = 1125899906842624 := by decide +kernel
    have p2 : (2 : Nat) ^ 64 = 18446744073709551616 := by decide +kernel
    rw [p] at hi
    rw [p2]
    omega)
  have e : eBin dMod (eFn (f1 dIntOf) (aCons (eBin dAdd (eBin dMul (eVar 3) (eC (.int 69621))) (eBin dMul (eBin dAdd (eVar 4) (eC (.int 2))) (eBin dMod (eFn (f1 dIntOf) (aCons (eVar 5) aNil)) (eBin dAdd (eBin dPow (eC (.int 10)) (eC (.int 24))) (eC (.int 7)))))) aNil)) (eBin dAdd (eBin dPow (eC (.int 10)) (eC (.int 30))) (eC (.int 57))) [x0, x1, x2, some (.int t), some (.int i), some (.int z)] st = .ok (.int ((t * 69621 + (i + 2) * (z % 1000000000000000000000007)) % 1000000000000000000000000000057)) st :=
    bin_at (fn1_at (bin_at (bin_at (var_at rfl) (c_at _) (mul_at m1)) (bin_at (bin_at (var_at rfl) (c_at _) (add_at _ _)) (bin_at (fn1_at (var_at rfl) (int_at _)) (k24 _) (mod_at (by decide))) (mul_at m2)) (add_at _ _)) (int_at _)) (k30 _) (mod_at (by decide))
  refine ⟨(t * 69621 + (i + 2) * (z % 1000000000000000000000007)) % 1000000000000000000000000000057, ?_⟩
  unfold WB
  rw [v_set, bind_at, e, to_ok]
  rfl
theorem wb_loop {st : Sto} {x0 x1 x2 : Option D} : ∀ (is : List (Nat × Int)) (t : Int) (x4 x5 : Option D), (∀ q ∈ is, q.1 < 1000) → ∃ (t' : Int) (y4 y5 : Option D), forL (gTupD 2 (gsCons (gSlot 4) (gsCons (gSlot 5) gsNil))) WB (is.map fun q => .tup [.int q.1, .int q.2]) [x0, x1, x2, some (.int t), x4, x5] st = .ok (.nx [x0, x1, x2, some (.int t'), y4, y5]) st
  | [], t, x4, x5, _ => ⟨t, x4, x5, rfl⟩
  | q :: is, t, x4, x5, h => by
    have hq := h q (List.mem_cons_self ..)
    obtain ⟨t1, e1⟩ := wb_one (st := st) (x0 := x0) (x1 := x1) (x2 := x2) (t := t) (i := (q.1 : Int)) (z := q.2) (by
      have p : (2 : Nat) ^ 50 = 1125899906842624 := by decide +kernel
      rw [p]; omega)
    obtain ⟨t', y4, y5, e⟩ := wb_loop (st := st) (x0 := x0) (x1 := x1) (x2 := x2) is t1 (some (.int q.1)) (some (.int q.2)) fun y hy => h y (List.mem_cons_of_mem _ hy)
    refine ⟨t', y4, y5, ?_⟩
    rw [List.map_cons, for_nx (ρ1 := [x0, x1, x2, some (.int t), some (.int q.1), some (.int q.2)]) (s1 := st) (by simp [ite_at]) e1, e]
theorem enum_eq (ns : List Int) : enumD (ns.map D.int) = ((List.range ns.length).zip ns).map fun q => .tup [.int (q.1 : Nat), .int q.2] := by
  unfold enumD
  rw [List.length_map]
  generalize List.range ns.length = is
  induction is generalizing ns with
  | nil => simp
  | cons i is ih =>
    cases ns with
    | nil => simp
    | cons n ns => simp [ih]
theorem well_eq (c : Fn → List D → M D) : B__law_well c = sSeq (sPar2 2 3 (aCons (eBin dAdd (eBin dMul (eC (.int 29)) (eVar 1)) (eC (.int 11))) (aCons (eBin dAdd (eBin dMul (eC (.int 7)) (eVar 1)) (eC (.int 3))) aNil)))
  (sSeq (sIf (tVal (eBin dLt (eVar 1) (eFn (f1 dLen) (aCons (eVar 0) aNil)))) (sSet 2 (eFn (f1 dIntOf) (aCons (eBin dIx (eVar 0) (eVar 1)) aNil))) sNil)
  (sSeq (sFor (iEnumM (aCons (eVar 0) aNil)) (gTupD 2 (gsCons (gSlot 4) (gsCons (gSlot 5) gsNil))) WB)
  (sRet (eNew (aCons (eFn (f2 dMax) (aCons (eC (.int 0)) (aCons (eBin dSub (eVar 2) (eBin dPow (eC (.int 10)) (eC (.int 18)))) aNil))) (aCons (eBin dMod (eFn (f1 dIntOf) (aCons (eBin dAdd (eBin dMul (eFn (f1 dAbs) (aCons (eVar 2) aNil)) (eC (.int 40503))) (eVar 3)) aNil)) (eBin dAdd (eBin dPow (eC (.int 10)) (eC (.int 29))) (eC (.int 319)))) (aCons (eC (.int 0)) aNil))))))) := rfl
theorem ev_well {n : Nat} (hn : 1 ≤ n) {ns : List Int} (hl : ns.length ≤ 63) {k : Nat} (hk : k < 4) (st : Sto) : ∃ st', run n ._law_well [.lst (ns.map D.int), .int k] st = .ok (.loc st.length) st' ∧ Well st' st.length 0 ∧ ∃ o, st' = st ++ [o] := by
  obtain ⟨m, rfl⟩ : ∃ m, n = m + 1 := ⟨n - 1, by omega⟩
  show ∃ st', mFun 6 (B__law_well (run m)) [.lst (ns.map D.int), .int k] st = _ ∧ _
  rw [well_eq]
  generalize hS : D.lst (ns.map D.int) = S at *
  have q1 : ∀ k2 : SM, sSeq (sPar2 2 3 (aCons (eBin dAdd (eBin dMul (eC (.int 29)) (eVar 1)) (eC (.int 11))) (aCons (eBin dAdd (eBin dMul (eC (.int 7)) (eVar 1)) (eC (.int 3))) aNil))) k2 [some S, some (.int k), none, none, none, none] st = k2 [some S, some (.int k), some (.int (29 * (k : Int) + 11)), some (.int (7 * (k : Int) + 3)), none, none] st := fun k2 => by
    have a1 : eBin dAdd (eBin dMul (eC (.int 29)) (eVar 1)) (eC (.int 11)) [some S, some (.int k), none, none, none, none] st = .ok (.int (29 * (k : Int) + 11)) st := bin_at (bin_at (c_at _) (var_at rfl) (mul_at (.inl (by decide)))) (c_at _) (add_at _ _)
    have a2 : eBin dAdd (eBin dMul (eC (.int 7)) (eVar 1)) (eC (.int 3)) [some S, some (.int k), none, none, none, none] st = .ok (.int (7 * (k : Int) + 3)) st := bin_at (bin_at (c_at _) (var_at rfl) (mul_at (.inl (by decide)))) (c_at _) (add_at _ _)
    rw [v_seq, bind_at, v_par2, bind_at, v_acons, bind_at, a1, to_ok, bind_at, v_acons, bind_at, a2, to_ok, bind_at, v_anil, pure_at, to_ok, pure_at, to_ok, pure_at, to_ok]
    rfl
  have q2 : ∃ cell : Int, ∀ k2 : SM, sSeq (sIf (tVal (eBin dLt (eVar 1) (eFn (f1 dLen) (aCons (eVar 0) aNil)))) (sSet 2 (eFn (f1 dIntOf) (aCons (eBin dIx (eVar 0) (eVar 1)) aNil))) sNil) k2 [some S, some (.int k), some (.int (29 * (k : Int) + 11)), some (.int (7 * (k : Int) + 3)), none, none] st = k2 [some S, some (.int k), some (.int cell), some (.int (7 * (k : Int) + 3)), none, none] st := by
    generalize 29 * (k : Int) + 11 = p
    generalize 7 * (k : Int) + 3 = q
    subst hS
    by_cases hlt : k < ns.length
    · have ix : atI (ns.map D.int) (k : Int) = some (.int ns[k]) := by rw [atI_nat, List.getElem?_map, List.getElem?_eq_getElem hlt]; rfl
      exact ⟨ns[k], fun k2 => by simp [ite_at, hlt, ix]⟩
    · exact ⟨p, fun k2 => by simp [ite_at, hlt]⟩
  obtain ⟨cell, q2⟩ := q2
  obtain ⟨t', y4, y5, q3⟩ := wb_loop (st := st) (x0 := some S) (x1 := some (.int k)) (x2 := some (.int cell)) ((List.range ns.length).zip ns) (7 * (k : Int) + 3) none none (fun q hq => by
    have := List.mem_range.mp (List.of_mem_zip hq).1
    omega)
  rw [← enum_eq] at q3
  have i1 : iEnumM (aCons (eVar 0) aNil) [some S, some (.int k), some (.int cell), some (.int (7 * (k : Int) + 3)), none, none] st = .ok (enumD (ns.map D.int)) st := by
    subst hS
    unfold iEnumM
    simp
  have q4 := (sfor_of (g := gTupD 2 (gsCons (gSlot 4) (gsCons (gSlot 5) gsNil))) (b := WB) i1).trans q3
  have kc : ∃ a : Int, eFn (f2 dMax) (aCons (eC (.int 0)) (aCons (eBin dSub (eVar 2) (eBin dPow (eC (.int 10)) (eC (.int 18)))) aNil)) [some S, some (.int k), some (.int cell), some (.int t'), y4, y5] st = .ok (.int a) st := by
    have b1 : eBin dSub (eVar 2) (eBin dPow (eC (.int 10)) (eC (.int 18))) [some S, some (.int k), some (.int cell), some (.int t'), y4, y5] st = .ok (.int (cell - 1000000000000000000)) st := bin_at (var_at rfl) (bin_at (c_at _) (c_at _) (pw (by decide +kernel) (by decide +kernel))) rfl
    refine ⟨if cell - 1000000000000000000 > 0 then cell - 1000000000000000000 else 0, ?_⟩
    rw [v_fn, bind_at, v_acons, bind_at, c_at, to_ok, bind_at, v_acons, bind_at, b1, to_ok]
    rfl
  obtain ⟨a, kc⟩ := kc
  have k29 := kk (st := st) 29 100000000000000000000000000000 319 100000000000000000000000000319 (by decide +kernel) (by decide +kernel) (by decide +kernel)
  have kb : ∃ b : Int, 0 ≤ b ∧ b < 100000000000000000000000000319 ∧ eBin dMod (eFn (f1 dIntOf) (aCons (eBin dAdd (eBin dMul (eFn (f1 dAbs) (aCons (eVar 2) aNil)) (eC (.int 40503))) (eVar 3)) aNil)) (eBin dAdd (eBin dPow (eC (.int 10)) (eC (.int 29))) (eC (.int 319))) [some S, some (.int k), some (.int cell), some (.int t'), y4, y5] st = .ok (.int b) st :=
    ⟨((if cell < 0 then -cell else cell) * 40503 + t') % 100000000000000000000000000319, Int.emod_nonneg _ (by decide), Int.emod_lt_of_pos _ (by decide), bin_at (fn1_at (bin_at (bin_at (fn1_at (var_at rfl) rfl) (c_at _) (mul_at (.inr (.inl (by decide))))) (var_at rfl) (add_at _ _)) (int_at _)) (k29 _) (mod_at (by decide))⟩
  obtain ⟨b, hb0, hb1, kb⟩ := kb
  refine ⟨st ++ [.lst [.int a, .int b, .int 0]], ?_, ⟨a, b, 0, ?_, hb0, ?_, by omega, by omega⟩, _, rfl⟩
  · rw [v_fun, show List.map some [S, D.int k] ++ List.replicate (6 - [S, D.int k].length) none = [some S, some (.int k), none, none, none, none] from rfl, q1, q2, v_seq, bind_at, q4, to_ok, then_nx, v_ret, bind_at, v_new, bind_at, v_acons, bind_at, kc, to_ok, bind_at, v_acons, bind_at, kb, to_ok, bind_at, v_acons, bind_at, c_at, to_ok, bind_at, v_anil, pure_at, to_ok, pure_at, to_ok, pure_at, to_ok, pure_at, to_ok]
    simp [ite_at, sl]
  · rw [List.getElem?_append_right (Nat.le_refl _)]; simp
  · have p : (2 : Int) ^ 100 = 1267650600228229401496703205376 := by decide +kernel
    rw [p]; omega
end KT.k71

/-! k71_p17: the law. -/
namespace KT.k71
open PySem PySem.Spec L2 KT TL
open PyProof.Rows hiding St
theorem fn2_at {ρ : En} {st s1 s2 : Sto} {a b : EM} {f : D → D → M D} {x y : D} {r : Res D} (h1 : a ρ st = .ok x s1) (h2 : b ρ s1 = .ok y s2) (h3 : f x y s2 = r) : eFn (f2 f) (aCons a (aCons b aNil)) ρ st = r := by
  rw [v_fn, bind_at, v_acons, bind_at, h1, to_ok, bind_at, v_acons, bind_at, h2, to_ok, bind_at, v_anil, pure_at, to_ok, pure_at, to_ok, pure_at, to_ok, v_f2, h3]
def itD (q : Pg × Bool) : D := .tup [q.1.d, .str q.1.text, .bl q.2]
def AB (c : Fn → List D → M D) : SM := (sSeq (sSet 3 (eCall 2 (c ._law_well) (aCons (eVar 0) (aCons (eVar 2) aNil))))
  (sSeq (sSet 4 (eCall 1 (c ._law_program) (aCons (eVar 3) aNil)))
  (sExpr (eAppend (eVar 1) (eTup (aCons (eVar 4) (aCons (eCall 1 (c ._law_text) (aCons (eVar 4) aNil)) (aCons (eBin dEq (eCall 2 (c ._law_dip) (aCons (eVar 3) (aCons (eC (.int 2)) aNil))) (eC (.int 0))) aNil))))))))
def RB (c : Fn → List D → M D) : SM := (sIf (tNotM (tVal (eCall 3 (c ._law_right) (aCons (eVar 4) (aCons (eVar 5) (aCons (eVar 6) aNil)))))) (sRet (eC (.bl false))) sNil)
theorem law_eq (c : Fn → List D → M D) : B_law c = sSeq (sSet 1 (eNew (aCons (eTup (aCons (eTup (aCons (eTup aNil) aNil)) (aCons (eC (.str ("-" : Str))) (aCons (eC (.bl false)) aNil)))) (aCons (eTup (aCons (eTup (aCons (eTup aNil) (aCons (eTup aNil) (aCons (eTup (aCons (eTup (aCons (eC (.str ("whole" : Str))) aNil)) aNil)) (aCons (eTup aNil) aNil))))) (aCons (eC (.str ("- || - || whole || -" : Str))) (aCons (eC (.bl true)) aNil)))) aNil))))
  (sSeq (sFor (iRange1 (aCons (eFn (f2 dMax) (aCons (eC (.int 1)) (aCons (eFn (f2 dMin) (aCons (eC (.int 4)) (aCons (eFn (f1 dLen) (aCons (eVar 0) aNil)) aNil))) aNil))) aNil)) (gSlot 2) (AB c))
  (sSeq (sFor (iLst (eBin dAdd (eVar 1) (eUn dRev (eVar 1)))) (gTupD 3 (gsCons (gSlot 4) (gsCons (gSlot 5) (gsCons (gSlot 6) gsNil)))) (RB c))
  (sRet (eC (.bl true))))) := rfl
theorem draw_loop {n : Nat} (hn : 25 ≤ n) {ns : List Int} (hl : ns.length ≤ 63) : ∀ (is : List Nat) (items : List (Pg × Bool)) (st : Sto) (x2 x3 x4 x5 x6 : Option D), (∀ i ∈ is, i < 4) → items.length + is.length ≤ 10 → (∀ q ∈ items, q.1.ok) → st[0]? = some (.lst (items.map itD)) →
    ∃ (items' : List (Pg × Bool)) (st' : Sto) (y2 y3 y4 y5 y6 : Option D), forL (gSlot 2) (AB (run n)) (is.map fun i => D.int (i : Nat)) [some (.lst (ns.map D.int)), some (.loc 0), x2, x3, x4, x5, x6] st = .ok (.nx [some (.lst (ns.map D.int)), some (.loc 0), y2, y3, y4, y5, y6]) st' ∧
      items'.length ≤ 10 ∧ (∀ q ∈ items', q.1.ok) ∧ st'[0]? = some (.lst (items'.map itD))
  | [], items, st, x2, x3, x4, x5, x6, _, hz, ho, hs => ⟨items, st, x2, x3, x4, x5, x6, rfl, by simp at hz; exact hz, ho, hs⟩
  | i :: is, items, st, x2, x3, x4, x5, x6, hi, hz, ho, hs => by
    rw [List.length_cons] at hz
    obtain ⟨s1, e1, W1, o, es⟩ := ev_well (n := n) (by omega) hl (hi i (List.mem_cons_self ..)) st
    have h0 := lt_of_some hs
    have hw : st.length ≠ 0 := by omega
    have t1 : s1[0]? = some (.lst (items.map itD)) := by rw [es, app_lt h0]; exact hs
    obtain ⟨p, s2, e2, okp, W2, P2⟩ := ev_lprog (n := n) (by omega) W1 (by omega)
    have t2 : s2[0]? = some (.lst (items.map itD)) := by rw [P2.old 0 (lt_of_some t1) (Ne.symm hw)]; exact t1
    have e3 := ev_text (n := n) okp (by omega) s2
    obtain ⟨v, s4, e4, l4, W4, P4⟩ := ev_dipn (n := n) (by omega) W2 (by omega) (m := 2) (by omega) (by omega)
    rw [show ((2 : Nat) : Int) = 2 from rfl] at e4
    have t4 : s4[0]? = some (.lst (items.map itD)) := by rw [P4.old 0 (lt_of_some t2) (Ne.symm hw)]; exact t2
    have g4 := get_at t4
    have q : gSlot 2 (.int (i : Nat)) [some (.lst (ns.map D.int)), some (.loc 0), x2, x3, x4, x5, x6] st = .ok [some (.lst (ns.map D.int)), some (.loc 0), some (.int (i : Nat)), x3, x4, x5, x6] st := rfl
    have b1 : AB (run n) [some (.lst (ns.map D.int)), some (.loc 0), some (.int (i : Nat)), x3, x4, x5, x6] st = .ok (.nx [some (.lst (ns.map D.int)), some (.loc 0), some (.int (i : Nat)), some (.loc st.length), some p.d, x5, x6]) (s4.set 0 (.lst ((items ++ [(p, decide ((v : Int) = 0))]).map itD))) := by
      have em : (items ++ [(p, decide ((v : Int) = 0))]).map itD = items.map itD ++ [.tup [p.d, .str p.text, .bl (decide ((v : Int) = 0))]] := by simp [itD]
      rw [em]
      have z : (items.map itD).length < 16777216 := by rw [List.length_map]; omega
      generalize items.map itD = its at *
      generalize ns.map D.int = S at *
      generalize p.d = pd at *
      unfold AB
      have dq : dEq (.int (v : Nat)) (.int 0) = M.pure (.bl (decide ((v : Int) = 0))) := d_eq_i _ _
      generalize decide ((v : Int) = 0) = bb at *
      simp [-d_eq_i, ite_at, e1, e2, e3, e4, g4, appM, putM, z, sl, dq]
    obtain ⟨items', st', y2, y3, y4, y5, y6, e, k1, k2, k3⟩ := draw_loop hn hl is (items ++ [(p, decide ((v : Int) = 0))]) _ (some (.int (i : Nat))) (some (.loc st.length)) (some p.d) x5 x6 (fun j hj => hi j (List.mem_cons_of_mem _ hj)) (by simp; omega) (fun q hq => by
      rcases List.mem_append.mp hq with hq | hq
      · exact ho q hq
      · rw [List.mem_singleton.mp hq]; exact okp) (set_eq (lt_of_some t4))
    refine ⟨items', st', y2, y3, y4, y5, y6, ?_, k1, k2, k3⟩
    rw [List.map_cons, for_nx q b1, e]
theorem right_loop {n : Nat} (hn : 25 ≤ n) {x0 x1 x2 x3 : Option D} : ∀ (items : List (Pg × Bool)) (st : Sto) (x4 x5 x6 : Option D), (∀ q ∈ items, q.1.ok) →
    ∃ (st' : Sto) (y4 y5 y6 : Option D), forL (gTupD 3 (gsCons (gSlot 4) (gsCons (gSlot 5) (gsCons (gSlot 6) gsNil)))) (RB (run n)) (items.map itD) [x0, x1, x2, x3, x4, x5, x6] st = .ok (.nx [x0, x1, x2, x3, y4, y5, y6]) st'
  | [], st, x4, x5, x6, _ => ⟨st, x4, x5, x6, rfl⟩
  | q :: items, st, x4, x5, x6, h => by
    obtain ⟨s1, e1⟩ := ev_right (n := n) hn (h q (List.mem_cons_self ..)) q.2 st
    obtain ⟨s2, y4, y5, y6, e2⟩ := right_loop hn (x0 := x0) (x1 := x1) (x2 := x2) (x3 := x3) items s1 (some q.1.d) (some (.str q.1.text)) (some (.bl q.2)) fun y hy => h y (List.mem_cons_of_mem _ hy)
    refine ⟨s2, y4, y5, y6, ?_⟩
    have b1 : RB (run n) [x0, x1, x2, x3, some q.1.d, some (.str q.1.text), some (.bl q.2)] st = .ok (.nx [x0, x1, x2, x3, some q.1.d, some (.str q.1.text), some (.bl q.2)]) s1 := by
      unfold RB
      simp [ite_at, e1]
    rw [List.map_cons, for_nx (ρ1 := [x0, x1, x2, x3, some q.1.d, some (.str q.1.text), some (.bl q.2)]) (s1 := st) (by simp [itD, ite_at]) b1, e2]
def pg0 : Pg := [[]]
def pg1 : Pg := [[], [], [.pl ("whole" : Str) []], []]
theorem pg0_ok : pg0.ok := ⟨by simp [pg0], by simp [pg0], fun h hh => by
  simp only [pg0, List.mem_singleton] at hh
  subst hh
  exact ⟨trivial, by simp [cnts]⟩⟩
theorem pg1_ok : pg1.ok := ⟨by simp [pg1], by simp [pg1], fun h hh => by
  simp only [pg1, List.mem_cons, List.not_mem_nil, or_false] at hh
  rcases hh with rfl | rfl | rfl | rfl
  · exact ⟨trivial, by simp [cnts]⟩
  · exact ⟨trivial, by simp [cnts]⟩
  · exact ⟨by simp only [oks, Sm.ok]; exact ⟨⟨by omega, .whole⟩, trivial⟩, by simp [cnts, Sm.cnt]⟩
  · exact ⟨trivial, by simp [cnts]⟩⟩
theorem it0 : itD (pg0, false) = .tup [.tup [.tup []], .str ("-" : Str), .bl false] := by
  have e : pg0.text = ("-" : Str) := by decide +kernel
  unfold itD
  rw [e]
  simp [pg0, Pg.d, ds]
theorem it1 : itD (pg1, true) = .tup [.tup [.tup [], .tup [], .tup [.tup [.str ("whole" : Str)]], .tup []], .str ("- || - || whole || -" : Str), .bl true] := by
  have e : pg1.text = ("- || - || whole || -" : Str) := by decide +kernel
  unfold itD
  rw [e]
  simp [pg1, Pg.d, ds, Sm.d]
theorem plain (ns : List Int) (h1 : ns.length ≤ 63) (h2 : ∀ z ∈ ns, PySem.Builtin.Int.intBits z ≤ 1048576) : wpM (run 60 .law [.lst (ns.map D.int)]) [] (fun d _ => d = .bl true) fun _ _ => False := by
  have goal : ∃ st', run 60 .law [.lst (ns.map D.int)] [] = .ok (.bl true) st' := by
    show ∃ st', mFun 7 (B_law (run 59)) [.lst (ns.map D.int)] [] = _
    rw [law_eq]
    -- the range
    obtain ⟨m, hm, em⟩ : ∃ m : Nat, m ≤ 4 ∧ ∀ (ρ : En) (st : Sto), ρ[0]?.getD none = some (.lst (ns.map D.int)) → iRange1 (aCons (eFn (f2 dMax) (aCons (eC (.int 1)) (aCons (eFn (f2 dMin) (aCons (eC (.int 4)) (aCons (eFn (f1 dLen) (aCons (eVar 0) aNil)) aNil))) aNil))) aNil) ρ st = .ok ((List.range m).map fun i => D.int (i : Nat)) st := by
      have hV : ∃ V : Int, 0 ≤ V ∧ V ≤ 4 ∧ ∀ (ρ : En) (st : Sto), ρ[0]?.getD none = some (.lst (ns.map D.int)) → eFn (f2 dMax) (aCons (eC (.int 1)) (aCons (eFn (f2 dMin) (aCons (eC (.int 4)) (aCons (eFn (f1 dLen) (aCons (eVar 0) aNil)) aNil))) aNil)) ρ st = .ok (.int V) st := by
        refine ⟨if (if (ns.length : Int) < 4 then (ns.length : Int) else 4) > 1 then (if (ns.length : Int) < 4 then (ns.length : Int) else 4) else 1, by split <;> (try split) <;> omega, by split <;> (try split) <;> omega, fun ρ st hr => ?_⟩
        have dl : dLen (.lst (ns.map D.int)) st = .ok (.int (ns.length : Int)) st := by rw [d_len_l, List.length_map]; rfl
        exact fn2_at (c_at _) (fn2_at (c_at _) (fn1_at (var_at hr) dl) rfl) rfl
      obtain ⟨V, v0, v1, hV⟩ := hV
      refine ⟨V.toNat, by omega, fun ρ st hr => range_of (by omega) ?_⟩
      rw [v_acons, bind_at, hV ρ st hr, to_ok, Int.toNat_of_nonneg v0]
      rfl
    obtain ⟨items, s2, y2, y3, y4, y5, y6, e2, k1, k2, k3⟩ := draw_loop (n := 59) (by omega) h1 (List.range m) [(pg0, false), (pg1, true)] [.lst ([(pg0, false), (pg1, true)].map itD)] none none none none none (fun i hi => by have := List.mem_range.mp hi; omega) (by simp; omega) (fun q hq => by
      simp only [List.mem_cons, List.not_mem_nil, or_false] at hq
      rcases hq with rfl | rfl
      · exact pg0_ok
      · exact pg1_ok) rfl
    have g := get_at k3
    obtain ⟨s3, z4, z5, z6, e3⟩ := right_loop (n := 59) (by omega) (x0 := some (.lst (ns.map D.int))) (x1 := some (.loc 0)) (x2 := y2) (x3 := y3) (items ++ items.reverse) s2 y4 y5 y6 (fun q hq => by
      rcases List.mem_append.mp hq with hq | hq
      · exact k2 q hq
      · exact k2 q (List.mem_reverse.mp hq))
    rw [List.map_append, List.map_reverse] at e3
    have hz : (items.map itD).length + (items.map itD).reverse.length ≤ 16777216 := by rw [List.length_reverse, List.length_map]; omega
    have i3 : iLst (eBin dAdd (eVar 1) (eUn dRev (eVar 1))) [some (.lst (ns.map D.int)), some (.loc 0), y2, y3, y4, y5, y6] s2 = .ok (items.map itD ++ (items.map itD).reverse) s2 := by
      have d1 : dRev (.loc 0) s2 = .ok (.lst (items.map itD).reverse) s2 := by
        show (M.bind (listM (.loc 0)) fun ds => M.pure (D.lst ds.reverse)) s2 = _
        rw [list_o, bind_at, g, to_ok]; rfl
      have d2 : dAdd (.loc 0) (.lst (items.map itD).reverse) s2 = .ok (.lst (items.map itD ++ (items.map itD).reverse)) s2 := by
        show (withO (asLst (.lst (items.map itD).reverse)) fun ys => M.bind (mGet 0) fun xs => if xs.length + ys.length ≤ sizeLine then M.pure (D.lst (xs ++ ys)) else M.bad) s2 = _
        rw [asLst_l, withO_some, bind_at, g, to_ok, sl, if_pos hz]; rfl
      rw [v_ilst, bind_at, bin_at (var_at rfl) (show eUn dRev (eVar 1) _ s2 = .ok (.lst (items.map itD).reverse) s2 by rw [v_un, bind_at, var_at (show _ = some (D.loc 0) from rfl), to_ok, d1]) d2, to_ok]
      rfl
    have L2 := (sfor_of (g := gSlot 2) (b := AB (run 59)) (em [some (.lst (ns.map D.int)), some (.loc 0), none, none, none, none, none] [.lst ([(pg0, false), (pg1, true)].map itD)] rfl)).trans e2
    have L3 := (sfor_of (g := gTupD 3 (gsCons (gSlot 4) (gsCons (gSlot 5) (gsCons (gSlot 6) gsNil)))) (b := RB (run 59)) i3).trans e3
    clear em e2 e3 i3
    refine ⟨s3, ?_⟩
    rw [show [(pg0, false), (pg1, true)].map itD = [itD (pg0, false), itD (pg1, true)] from rfl, it0, it1] at L2
    generalize sFor (iRange1 (aCons (eFn (f2 dMax) (aCons (eC (.int 1)) (aCons (eFn (f2 dMin) (aCons (eC (.int 4)) (aCons (eFn (f1 dLen) (aCons (eVar 0) aNil)) aNil))) aNil))) aNil)) (gSlot 2) (AB (run 59)) = Q2 at *
    generalize sFor (iLst (eBin dAdd (eVar 1) (eUn dRev (eVar 1)))) (gTupD 3 (gsCons (gSlot 4) (gsCons (gSlot 5) (gsCons (gSlot 6) gsNil)))) (RB (run 59)) = Q3 at *
    generalize ns.map D.int = S at *
    simp [ite_at, sl, L2, L3]
  obtain ⟨st', e⟩ := goal
  unfold wpM
  rw [e]
end KT.k71

open PySem PySem.W PySem.Calls PyProof.Rows
set_option maxHeartbeats 0 in
theorem PySem.Challenge.cw_touchroad_k71_programs_written_and_read_holds : PySem.Challenge.rw_touchroad_k71_programs_written_and_read.Holds := by
  w_on; o_law; k_head; (case hw => w_witness2)
  k_fill
  refine KT.law_of (l := PySem.Challenge.rw_touchroad_k71_programs_written_and_read) (n := 63) (k := 60) (x := "script") (fun _ => KT.k71.run 60 .law) rfl (by decide) (by first | rfl | kernel_rfl) ⟨rfl, by decide, by decide⟩ (fun w h Y => PySem.W.kIn_of Y) ?F (fun _ ns h1 h2 => KT.k71.plain ns h1 h2)
  case F =>
    intro w mg fa h KX G hmg
    obtain ⟨ad, fv, y, hl, hb⟩ := KT.k71.facts (w := w) KX G (by unfold KT.SaysX; kernel_rfl)
    have e := hmg.symm.trans hl
    cases e
    exact ⟨fv .law, hb, fun base _ _ => KT.k71.ok_all y 60 .law⟩

